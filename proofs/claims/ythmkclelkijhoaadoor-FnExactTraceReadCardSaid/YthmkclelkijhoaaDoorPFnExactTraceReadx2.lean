-- made by wip/tools/myprint.py out of the seat's translation
import Derived.Test.YthmkclelkijhoaaDoorPFnExactTraceReadx0
import Derived.Test.YthmkclelkijhoaaDoorPFnExactTraceReadx1
namespace Go.Proofs.YthmkclelkijhoaaDoor.PFnExactTraceRead
open Go.RowKit Go.Proofs.YthmkclelkijhoaaDoorW.PrintWords Go.Proofs.YthmkclelkijhoaaDoorW.PrintLast Go.Proofs.YthmkclelkijhoaaDoorW.PrintMore
attribute [local go_sem] max2_int min2_int max_two min_two max_three min_three max_four min_four   -- for this text's walks alone
set_option linter.unusedVariables false
set_option linter.unusedSimpArgs false
theorem zc2_5 {w : World} {g : Nat} {a0 a1 a2 a3 a4 : Value} {t : TypeId} (h : w.heap[g]? = some (.cells #[a0, a1, a2, a3, a4] t (0, 0))) : w.cell? ⟨g, 0, none⟩ = some a0 ∧ w.cell? ⟨g, 1, none⟩ = some a1 ∧ w.cell? ⟨g, 2, none⟩ = some a2 ∧ w.cell? ⟨g, 3, none⟩ = some a3 ∧ w.cell? ⟨g, 4, none⟩ = some a4 ∧ w.frozen? ⟨g, 0, none⟩ = false ∧ w.frozen? ⟨g, 1, none⟩ = false ∧ w.frozen? ⟨g, 2, none⟩ = false ∧ w.frozen? ⟨g, 3, none⟩ = false ∧ w.frozen? ⟨g, 4, none⟩ = false := ⟨(blk_cell h 0).trans rfl, (blk_cell h 1).trans rfl, (blk_cell h 2).trans rfl, (blk_cell h 3).trans rfl, (blk_cell h 4).trans rfl, blk_frozen h 0, blk_frozen h 1, blk_frozen h 2, blk_frozen h 3, blk_frozen h 4⟩
abbrev zq2_0 : Array Bool := #[true, true, true, true, true, true, true, true, true, true, true, true, true, true, true, true, true, true, true, true, true, true, false]
abbrev zq2_1 : Array Bool := #[true, true, true, true, true, true, true, true, true, true, true, true, true, true, true, true, true, true, true, true, true, false, false]
abbrev zq2_2 : Array Bool := #[true, true, true, true, true, true, true, true, true, true, true, true, true, true, true, true, true, true, true, false, false, true, false]
abbrev zq2_3 : Array Bool := #[true, true, true, true, true, true, true, true, true, true, true, true, true, true, true, true, true, true, true, false, false, false, false]
abbrev zq2_4 : Array Bool := #[true, true, true, true, true, true, true, true, true, true, true, true, true, true, true, false, true, true, true, false, false, true, false]
abbrev zq2_5 : Array Bool := #[true, true, true, true, true, true, true, true, true, true, true, true, true, true, true, false, true, true, true, false, false, false, false]
abbrev zq2_6 : Array Bool := #[true, true, true, true, true, true, true, true, true, true, true, false, true, true, true, false, true, true, true, false, false, true, false]
abbrev zq2_7 : Array Bool := #[true, true, true, true, true, true, true, true, true, true, true, false, true, true, true, false, true, true, true, false, false, false, false]
abbrev zq2_8 : Array Bool := #[true, true, true, true, true, true, true, false, true, true, true, false, true, true, true, false, true, true, true, false, false, true, false]
abbrev zq2_9 : Array Bool := #[true, true, true, true, true, true, true, false, true, true, true, false, true, true, true, false, true, true, true, false, false, false, false]
abbrev zq2_10 : Array Bool := #[true, true, true, false, true, true, true, false, true, true, true, false, true, true, true, false, true, true, true, false, false, true, false]
theorem zR2 {p q : Prop} (x : q) (h : q → p := by intro h; (with_reducible repeat (first | apply Kd.R_alloc | apply Kd.R_drewN | apply Kd.R_drew)); exact h) : p := h x
theorem zK2 {p q : Prop} (x : q) (h : q → p := by intro h; (with_reducible repeat (first | refine blk_drewN ?_ _ | refine blk_drew ?_ | refine blk_alloc ?_ _)); exact h) : p := h x
theorem zA2 {p : Prop} [Decidable p] (h : decide p = true := by first | (with_reducible assumption) | assumption) : p := of_decide_eq_true h
theorem zT2 {p : Prop} (h : p := by (try simp only [List.map_toArray, List.map_cons, List.map_nil]); first | done | rfl | (simp only [List.length_drop, List.length_take]; rfl)) : p := h
theorem zb2 {W w w1 : World} {g : Nat} {o : Obj} (x : W.heap[g]? = some o) (hb : Below w.heap.size w w1) (h : W.heap[g]? = some o → w.heap[g]? = some o := by intro h; (with_reducible repeat (first | refine blk_drewN ?_ _ | refine blk_drew ?_ | refine blk_alloc ?_ _)); exact h) : w1.heap[g]? = some o := blk_below (h x) hb
theorem zn2 {W w : World} {g g' : Nat} {o : Obj} (x : W.heap[g]? = some o) (hg : g' = w.heap.size) (h : W.heap[g]? = some o → w.heap[g]? = some o := by intro h; (with_reducible repeat (first | refine blk_drewN ?_ _ | refine blk_drew ?_ | refine blk_alloc ?_ _)); exact h) : g ≠ g' := by rw [hg]; exact Nat.ne_of_lt (blk_lt (h x))
theorem zm2 {W w : World} {g g' : Nat} {o : Obj} (x : W.heap[g]? = some o) (hg : g' = w.heap.size) (h : W.heap[g]? = some o → w.heap[g]? = some o := by intro h; (with_reducible repeat (first | refine blk_drewN ?_ _ | refine blk_drew ?_ | refine blk_alloc ?_ _)); exact h) : g' ≠ g := by rw [hg]; exact Nat.ne_of_gt (blk_lt (h x))
theorem zP2 {p q : Prop} (x : q) (h : q → p := by intro h; (with_reducible repeat (first | refine blk_drewN ?_ _ | refine blk_drew ?_ | refine blk_alloc ?_ _)); exact h) : p := h x
theorem zV2 {a b : Act} (h : a = b := by simp only [Act.put, List.setIfInBounds_toArray, List.set_cons_zero, List.set_cons_succ, i64_w, i32_w]; rfl) : a = b := h
theorem zE2 {p : Prop} (h : p := by first | rfl | (simp [errW_none, errW_some] <;> rfl) | (simp [*, errW_none, errW_some] <;> rfl)) : p := h
theorem zB2_0 {p : Prop} (h : p := by repeat (first | (with_reducible first | exact HB.out | apply below_alloc | apply pw_below_drewN | apply below_drew1) | exact HB.out)) : p := h
theorem zB2_1 {p : Prop} (h : p := by repeat (first | (with_reducible first | exact HB.out | apply below_alloc | apply pw_below_drewN | apply below_drew1 | refine below_set ?_ GE114.out) | exact HB.out)) : p := h
theorem zB2_2 {p : Prop} (h : p := by repeat (first | (with_reducible first | exact HB.out | apply below_alloc | apply pw_below_drewN | apply below_drew1 | refine below_set ?_ GE114.out | refine below_set ?_ GE128.out) | exact HB.out)) : p := h

/-! ### spec_EventRead: function 5 -/
def spec_EventRead.j0 : Nat → Bool → Int → Int → Int → Int → Int → Option (Int × Int × Int × Int × Int × Bool)
 | 0, _, _, _, _, _, _ => none
 | k + 1, x57, x129000, x129001, x129002, x129003, x129004 => if x57 = true then (some (0, 0, 0, 0, 0, false)) else (some (x129000, x129001, x129002, x129003, x129004, true))
def spec_EventRead.f (k : Nat) (a0 : ByteArray) : Option (Int × Int × Int × Int × Int × Bool) := (spec_l28Cut.f k a0 32).bind fun t115 => (if (t115.length : Int) = 5 then (if 0 < (t115.length : Int) then ((spec_l28Num.f k (rdOf ByteArray.empty t115 0)).bind fun t119 => (if 1 < (t115.length : Int) then ((spec_l28Num.f k (rdOf ByteArray.empty t115 1)).bind fun t121 => (if 2 < (t115.length : Int) then ((spec_l28Num.f k (rdOf ByteArray.empty t115 2)).bind fun t123 => (if 3 < (t115.length : Int) then ((spec_l28Num.f k (rdOf ByteArray.empty t115 3)).bind fun t125 => (if 4 < (t115.length : Int) then ((spec_l28Num.f k (rdOf ByteArray.empty t115 4)).bind fun t127 => ((spec_l1In.f t119 0 99).bind fun t129 => (if t129 = true then ((spec_l1In.f t121 0 99).bind fun t130 => (if t130 = true then (if t123 < (-1) then (spec_EventRead.j0 k true t119 t121 t123 t125 t127) else (if t125 < (-1) then (spec_EventRead.j0 k true t119 t121 t123 t125 t127) else (spec_EventRead.j0 k (decide (t127 < (-1))) t119 t121 t123 t125 t127))) else (spec_EventRead.j0 k true t119 t121 t123 t125 t127))) else (spec_EventRead.j0 k true t119 t121 t123 t125 t127)))) else (none))) else (none))) else (none))) else (none))) else (none)) else (some (0, 0, 0, 0, 0, false)))
theorem spec_EventRead.mono_l : ∀ k, (∀ y0 y1 y2 y3 y4 y5, LeO (spec_EventRead.j0 k y0 y1 y2 y3 y4 y5) (spec_EventRead.j0 (k + 1) y0 y1 y2 y3 y4 y5))
 | 0 => fun _ _ _ _ _ _ r h => by simp [spec_EventRead.j0] at h
 | k + 1 => by
  have ih0 := spec_EventRead.mono_l k
  ·intro y0 y1 y2 y3 y4 y5
   unfold spec_EventRead.j0
   repeat' first
   | (with_reducible exact ih0 _ _ _ _ _ _)
   | (with_reducible exact spec_l28Cut.mono _ _ _)
   | (with_reducible exact spec_l28Num.mono _ _)
   | (with_reducible exact LeO.refl _)
   | (with_reducible exact LeO.none _)
   | (with_reducible refine LeO.ite ?_ ?_)
   | (with_reducible refine LeO.bind ?_ (fun _ => ?_))
   | exact ih0 _ _ _ _ _ _
   | exact spec_l28Cut.mono _ _ _
   | exact spec_l28Num.mono _ _
   | exact LeO.none _
   | refine LeO.ite ?_ ?_
   | refine LeO.bind ?_ (fun _ => ?_)
theorem spec_EventRead.mono : ∀ a0 k, LeO (spec_EventRead.f k a0) (spec_EventRead.f (k + 1) a0) := by
 intro a0 k
 have ih0 := spec_EventRead.mono_l k
 unfold spec_EventRead.f
 repeat' first
   | (with_reducible exact ih0 _ _ _ _ _ _)
   | (with_reducible exact spec_l28Cut.mono _ _ _)
   | (with_reducible exact spec_l28Num.mono _ _)
   | (with_reducible exact LeO.refl _)
   | (with_reducible exact LeO.none _)
   | (with_reducible refine LeO.ite ?_ ?_)
   | (with_reducible refine LeO.bind ?_ (fun _ => ?_))
   | exact ih0 _ _ _ _ _ _
   | exact spec_l28Cut.mono _ _ _
   | exact spec_l28Num.mono _ _
   | exact LeO.none _
   | refine LeO.ite ?_ ?_
   | refine LeO.bind ?_ (fun _ => ?_)
def spec_EventRead.T4 : Bool × List (List Nat × List Nat) := (true, [([], []), ([0], [0]), ([1], [1]), ([2], [2]), ([], []), ([4], [4]), ([5], [5]), ([6, 3], [6]), ([], []), ([8], [8]), ([9], [9]), ([10, 7], [10]), ([], []), ([12], [12]), ([13], [13]), ([14, 11], [14]), ([], []), ([16], [16]), ([17], [17]), ([18, 15], [18]), ([3, 7, 11, 15, 19], [3, 7, 11, 15, 19]), ([], []), ([21, 20, 19, 0, 1, 2, 3, 4, 5, 6, 7, 8, 9, 10, 11, 12, 13, 14, 15, 16, 17, 18, 19, 20, 21], [20, 21])])
def spec_EventRead.B4 : List Nat := [0, 1, 3, 7, 0, 16, 48, 127, 0, 256, 768, 2047, 0, 4096, 12288, 32767, 0, 65536, 196608, 524287, 1048575, 0, 4194303]
theorem spec_EventRead.tab4 : rtab .any (opsOf Tryd.f5 4) = spec_EventRead.T4 := by kernel_rfl
theorem spec_EventRead.bits4 : waitsOk spec_EventRead.T4.2 spec_EventRead.B4 = true := by kernel_rfl
set_option maxHeartbeats 8000000 in
set_option maxRecDepth 100000 in
theorem spec_EventRead.calls (k : Nat) (a0 : ByteArray) (r1 : Int) (r2 : Int) (r3 : Int) (r4 : Int) (r5 : Int) (r6 : Bool) (w : World) (h : spec_EventRead.f k a0 = some (r1, r2, r3, r4, r5, r6)) :
  Calls Tryd.prog 5 #[.string a0] w fun e w' => e = .returned (.tuple #[.agg #[.int .i64 r1, .int .i64 r2, .int .i64 r3, .int .i64 r4, .int .i64 r5], .bool r6]) ∧ Below w.heap.size w w' := by
 have hu23 := Tryd.underlying23
 have HB := Aside0.mk (Below.refl w.heap.size w)
 have H : ((spec_l28Cut.f k a0 32).bind fun t115 => (if (t115.length : Int) = 5 then (if 0 < (t115.length : Int) then ((spec_l28Num.f k (rdOf ByteArray.empty t115 0)).bind fun t119 => (if 1 < (t115.length : Int) then ((spec_l28Num.f k (rdOf ByteArray.empty t115 1)).bind fun t121 => (if 2 < (t115.length : Int) then ((spec_l28Num.f k (rdOf ByteArray.empty t115 2)).bind fun t123 => (if 3 < (t115.length : Int) then ((spec_l28Num.f k (rdOf ByteArray.empty t115 3)).bind fun t125 => (if 4 < (t115.length : Int) then ((spec_l28Num.f k (rdOf ByteArray.empty t115 4)).bind fun t127 => ((spec_l1In.f t119 0 99).bind fun t129 => (if t129 = true then ((spec_l1In.f t121 0 99).bind fun t130 => (if t130 = true then (if t123 < (-1) then (spec_EventRead.j0 k true t119 t121 t123 t125 t127) else (if t125 < (-1) then (spec_EventRead.j0 k true t119 t121 t123 t125 t127) else (spec_EventRead.j0 k (decide (t127 < (-1))) t119 t121 t123 t125 t127))) else (spec_EventRead.j0 k true t119 t121 t123 t125 t127))) else (spec_EventRead.j0 k true t119 t121 t123 t125 t127)))) else (none))) else (none))) else (none))) else (none))) else (none)) else (some (0, 0, 0, 0, 0, false)))) = some (r1, r2, r3, r4, r5, r6) := h
 clear h
 replace H := Option.bind_eq_some_iff.mp H
 obtain ⟨t115, A20, H⟩ := H
 replace H : (if (t115.length : Int) = 5 then (if 0 < (t115.length : Int) then ((spec_l28Num.f k (rdOf ByteArray.empty t115 0)).bind fun t119 => (if 1 < (t115.length : Int) then ((spec_l28Num.f k (rdOf ByteArray.empty t115 1)).bind fun t121 => (if 2 < (t115.length : Int) then ((spec_l28Num.f k (rdOf ByteArray.empty t115 2)).bind fun t123 => (if 3 < (t115.length : Int) then ((spec_l28Num.f k (rdOf ByteArray.empty t115 3)).bind fun t125 => (if 4 < (t115.length : Int) then ((spec_l28Num.f k (rdOf ByteArray.empty t115 4)).bind fun t127 => ((spec_l1In.f t119 0 99).bind fun t129 => (if t129 = true then ((spec_l1In.f t121 0 99).bind fun t130 => (if t130 = true then (if t123 < (-1) then (spec_EventRead.j0 k true t119 t121 t123 t125 t127) else (if t125 < (-1) then (spec_EventRead.j0 k true t119 t121 t123 t125 t127) else (spec_EventRead.j0 k (decide (t127 < (-1))) t119 t121 t123 t125 t127))) else (spec_EventRead.j0 k true t119 t121 t123 t125 t127))) else (spec_EventRead.j0 k true t119 t121 t123 t125 t127)))) else (none))) else (none))) else (none))) else (none))) else (none)) else (some (0, 0, 0, 0, 0, false))) = some (r1, r2, r3, r4, r5, r6) := H
 have A2 := Aside0.mk A20
 clear A20
 by_cases c3 : (t115.length : Int) = 5
 rotate_left
 ·rw [if_neg c3] at H
  have c3b0 : ((t115.length : Int) == 5) = false := beq_eq_false_iff_ne.mpr c3
  have c3b1 : ((t115.length : Int) != 5) = true := bne_iff_ne.mpr c3
  simp only [Option.some.injEq, Prod.mk.injEq] at H
  obtain ⟨rfl, rfl, rfl, rfl, rfl, rfl⟩ := H
  go_enter Tryd.func5, Tryd.ntmps5
  go_wp2_with (first | ((with_reducible refine gate_dst (N := 2) rfl ?_); refine box_event ?hg (N := 2) ?hd (cs := #[.int .i64 0, .int .i64 0, .int .i64 0, .int .i64 0, .int .i64 0]) (t := 23) ?hr ?_; (case hd => rfl); (case hg => rfl); (case hr => first | (go_simp; done) | (go_simp; rfl)); intro gb114 hg w53 hbox hb; have n0_ := Aside0.mk (below_step (zB2_0) hb); have n1_ := Aside0.mk (hbox); have n2_ := Aside0.mk ((by rw [hg]; exact (below_size (zB2_0)) : w.heap.size ≤ gb114)); have n3_ := Aside0.mk ((by rw [hg]; exact (below_size (zB2_0)) : w.heap.size ≤ gb114)); clear HB; have HB := n0_; have BK114 := n1_; have GW114 := n2_; have GE114 := n3_; clear n0_ n1_ n2_ n3_; clear hb hbox hg) | ((with_reducible refine gate_callee (f := 13) rfl ?_); refine goesL_ (some 7) rfl rfl Tryd.func13 (by kernel_rfl) rfl #[.string a0, .int .u8 32] rfl zT2 ?_; (with_reducible refine (spec_l28Cut.calls k a0 32 t115 _ A2.out).mono ?_); rintro e w54 ⟨v116, rfl, ho0, hb⟩; refine ⟨_, rfl, ?_⟩; have n0_ := Aside0.mk (Kd.R_lower ho0 (below_size (zB2_1))); have n1_ := Aside0.mk (zb2 BK114.out hb); have n2_ := Aside0.mk (below_step (zB2_1) hb); clear BK114; clear HB; have HO117 := n0_; have BK114 := n1_; have HB := n2_; clear n0_ n1_ n2_; (try clear hb); (try clear hb2); (try clear hk); (try clear hi); (try clear ho0); obtain ⟨Ao55, co55, eo55⟩ := Kd.R_slice HO117.out; subst eo55; obtain ⟨hcz56_0, hcz56_1, hcz56_2, hcz56_3, hcz56_4, hfz56_0, hfz56_1, hfz56_2, hfz56_3, hfz56_4⟩ := zc2_5 (w := w54) BK114.out))
  refine bodyPost_ret (results_ct rfl _ _ gb114 23 #[.int .i64 0, .int .i64 0, .int .i64 0, .int .i64 0, .int .i64 0] (0, 0) _ rfl (by refine zP2 ?_; refine blk_put (cs := #[.int .i64 0, .int .i64 0, .int .i64 0, .int .i64 0, .int .i64 0]) ?_ 4 _ rfl; refine zP2 ?_; refine blk_put (cs := #[.int .i64 0, .int .i64 0, .int .i64 0, .int .i64 0, .int .i64 0]) ?_ 3 _ rfl; refine zP2 ?_; refine blk_put (cs := #[.int .i64 0, .int .i64 0, .int .i64 0, .int .i64 0, .int .i64 0]) ?_ 2 _ rfl; refine zP2 ?_; refine blk_put (cs := #[.int .i64 0, .int .i64 0, .int .i64 0, .int .i64 0, .int .i64 0]) ?_ 1 _ rfl; refine zP2 ?_; refine blk_put (cs := #[.int .i64 0, .int .i64 0, .int .i64 0, .int .i64 0, .int .i64 0]) ?_ 0 _ rfl; refine zP2 ?_; exact BK114.out) Tryd.underlying23 rfl (by kernel_rfl)) rfl ?_
  exact ⟨zE2, zB2_1⟩
 rw [if_pos c3] at H
 have c3b0 : ((t115.length : Int) == 5) = true := beq_iff_eq.mpr c3
 have c3b1 : ((t115.length : Int) != 5) = false := bne_eq_false_iff_eq.mpr c3
 clear c3
 by_cases c4 : 0 < (t115.length : Int)
 rotate_left
 ·rw [if_neg c4] at H
  exact absurd H (by simp)
 rw [if_pos c4] at H
 have c4b0 : decide (0 < (t115.length : Int)) = true := decide_eq_true c4
 have c4b1 : decide (0 < t115.length) = true := decide_eq_true (by omega)
 clear c4
 replace H := Option.bind_eq_some_iff.mp H
 obtain ⟨t119, A50, H⟩ := H
 replace H : (if 1 < (t115.length : Int) then ((spec_l28Num.f k (rdOf ByteArray.empty t115 1)).bind fun t121 => (if 2 < (t115.length : Int) then ((spec_l28Num.f k (rdOf ByteArray.empty t115 2)).bind fun t123 => (if 3 < (t115.length : Int) then ((spec_l28Num.f k (rdOf ByteArray.empty t115 3)).bind fun t125 => (if 4 < (t115.length : Int) then ((spec_l28Num.f k (rdOf ByteArray.empty t115 4)).bind fun t127 => ((spec_l1In.f t119 0 99).bind fun t129 => (if t129 = true then ((spec_l1In.f t121 0 99).bind fun t130 => (if t130 = true then (if t123 < (-1) then (spec_EventRead.j0 k true t119 t121 t123 t125 t127) else (if t125 < (-1) then (spec_EventRead.j0 k true t119 t121 t123 t125 t127) else (spec_EventRead.j0 k (decide (t127 < (-1))) t119 t121 t123 t125 t127))) else (spec_EventRead.j0 k true t119 t121 t123 t125 t127))) else (spec_EventRead.j0 k true t119 t121 t123 t125 t127)))) else (none))) else (none))) else (none))) else (none)) = some (r1, r2, r3, r4, r5, r6) := H
 have A5 := Aside0.mk A50
 clear A50
 by_cases c6 : 1 < (t115.length : Int)
 rotate_left
 ·rw [if_neg c6] at H
  exact absurd H (by simp)
 rw [if_pos c6] at H
 have c6b0 : decide (1 < (t115.length : Int)) = true := decide_eq_true c6
 have c6b1 : decide (1 < t115.length) = true := decide_eq_true (by omega)
 clear c6
 replace H := Option.bind_eq_some_iff.mp H
 obtain ⟨t121, A70, H⟩ := H
 replace H : (if 2 < (t115.length : Int) then ((spec_l28Num.f k (rdOf ByteArray.empty t115 2)).bind fun t123 => (if 3 < (t115.length : Int) then ((spec_l28Num.f k (rdOf ByteArray.empty t115 3)).bind fun t125 => (if 4 < (t115.length : Int) then ((spec_l28Num.f k (rdOf ByteArray.empty t115 4)).bind fun t127 => ((spec_l1In.f t119 0 99).bind fun t129 => (if t129 = true then ((spec_l1In.f t121 0 99).bind fun t130 => (if t130 = true then (if t123 < (-1) then (spec_EventRead.j0 k true t119 t121 t123 t125 t127) else (if t125 < (-1) then (spec_EventRead.j0 k true t119 t121 t123 t125 t127) else (spec_EventRead.j0 k (decide (t127 < (-1))) t119 t121 t123 t125 t127))) else (spec_EventRead.j0 k true t119 t121 t123 t125 t127))) else (spec_EventRead.j0 k true t119 t121 t123 t125 t127)))) else (none))) else (none))) else (none)) = some (r1, r2, r3, r4, r5, r6) := H
 have A7 := Aside0.mk A70
 clear A70
 by_cases c8 : 2 < (t115.length : Int)
 rotate_left
 ·rw [if_neg c8] at H
  exact absurd H (by simp)
 rw [if_pos c8] at H
 have c8b0 : decide (2 < (t115.length : Int)) = true := decide_eq_true c8
 have c8b1 : decide (2 < t115.length) = true := decide_eq_true (by omega)
 clear c8
 replace H := Option.bind_eq_some_iff.mp H
 obtain ⟨t123, A90, H⟩ := H
 replace H : (if 3 < (t115.length : Int) then ((spec_l28Num.f k (rdOf ByteArray.empty t115 3)).bind fun t125 => (if 4 < (t115.length : Int) then ((spec_l28Num.f k (rdOf ByteArray.empty t115 4)).bind fun t127 => ((spec_l1In.f t119 0 99).bind fun t129 => (if t129 = true then ((spec_l1In.f t121 0 99).bind fun t130 => (if t130 = true then (if t123 < (-1) then (spec_EventRead.j0 k true t119 t121 t123 t125 t127) else (if t125 < (-1) then (spec_EventRead.j0 k true t119 t121 t123 t125 t127) else (spec_EventRead.j0 k (decide (t127 < (-1))) t119 t121 t123 t125 t127))) else (spec_EventRead.j0 k true t119 t121 t123 t125 t127))) else (spec_EventRead.j0 k true t119 t121 t123 t125 t127)))) else (none))) else (none)) = some (r1, r2, r3, r4, r5, r6) := H
 have A9 := Aside0.mk A90
 clear A90
 by_cases c10 : 3 < (t115.length : Int)
 rotate_left
 ·rw [if_neg c10] at H
  exact absurd H (by simp)
 rw [if_pos c10] at H
 have c10b0 : decide (3 < (t115.length : Int)) = true := decide_eq_true c10
 have c10b1 : decide (3 < t115.length) = true := decide_eq_true (by omega)
 clear c10
 replace H := Option.bind_eq_some_iff.mp H
 obtain ⟨t125, A110, H⟩ := H
 replace H : (if 4 < (t115.length : Int) then ((spec_l28Num.f k (rdOf ByteArray.empty t115 4)).bind fun t127 => ((spec_l1In.f t119 0 99).bind fun t129 => (if t129 = true then ((spec_l1In.f t121 0 99).bind fun t130 => (if t130 = true then (if t123 < (-1) then (spec_EventRead.j0 k true t119 t121 t123 t125 t127) else (if t125 < (-1) then (spec_EventRead.j0 k true t119 t121 t123 t125 t127) else (spec_EventRead.j0 k (decide (t127 < (-1))) t119 t121 t123 t125 t127))) else (spec_EventRead.j0 k true t119 t121 t123 t125 t127))) else (spec_EventRead.j0 k true t119 t121 t123 t125 t127)))) else (none)) = some (r1, r2, r3, r4, r5, r6) := H
 have A11 := Aside0.mk A110
 clear A110
 by_cases c12 : 4 < (t115.length : Int)
 rotate_left
 ·rw [if_neg c12] at H
  exact absurd H (by simp)
 rw [if_pos c12] at H
 have c12b0 : decide (4 < (t115.length : Int)) = true := decide_eq_true c12
 have c12b1 : decide (4 < t115.length) = true := decide_eq_true (by omega)
 clear c12
 replace H := Option.bind_eq_some_iff.mp H
 obtain ⟨t127, A130, H⟩ := H
 replace H : ((spec_l1In.f t119 0 99).bind fun t129 => (if t129 = true then ((spec_l1In.f t121 0 99).bind fun t130 => (if t130 = true then (if t123 < (-1) then (spec_EventRead.j0 k true t119 t121 t123 t125 t127) else (if t125 < (-1) then (spec_EventRead.j0 k true t119 t121 t123 t125 t127) else (spec_EventRead.j0 k (decide (t127 < (-1))) t119 t121 t123 t125 t127))) else (spec_EventRead.j0 k true t119 t121 t123 t125 t127))) else (spec_EventRead.j0 k true t119 t121 t123 t125 t127))) = some (r1, r2, r3, r4, r5, r6) := H
 have A13 := Aside0.mk A130
 clear A130
 have HC14 := Aside0.mk H
 clear H
 go_enter Tryd.func5, Tryd.ntmps5
 try go_wp2_with (first | ((with_reducible refine gate_dst (N := 2) rfl ?_); refine box_event ?hg (N := 2) ?hd (cs := #[.int .i64 0, .int .i64 0, .int .i64 0, .int .i64 0, .int .i64 0]) (t := 23) ?hr ?_; (case hd => rfl); (case hg => rfl); (case hr => first | (go_simp; done) | (go_simp; rfl)); intro gb114 hg w15 hbox hb; have n0_ := Aside0.mk (below_step (zB2_0) hb); have n1_ := Aside0.mk (hbox); have n2_ := Aside0.mk ((by rw [hg]; exact (below_size (zB2_0)) : w.heap.size ≤ gb114)); have n3_ := Aside0.mk ((by rw [hg]; exact (below_size (zB2_0)) : w.heap.size ≤ gb114)); clear HB; have HB := n0_; have BK114 := n1_; have GW114 := n2_; have GE114 := n3_; clear n0_ n1_ n2_ n3_; clear hb hbox hg) | ((with_reducible refine gate_callee (f := 13) rfl ?_); refine goesL_ (some 7) rfl rfl Tryd.func13 (by kernel_rfl) rfl #[.string a0, .int .u8 32] rfl zT2 ?_; (with_reducible refine (spec_l28Cut.calls k a0 32 t115 _ A2.out).mono ?_); rintro e w16 ⟨v116, rfl, ho0, hb⟩; refine ⟨_, rfl, ?_⟩; have n0_ := Aside0.mk (Kd.R_lower ho0 (below_size (zB2_1))); have n1_ := Aside0.mk (zb2 BK114.out hb); have n2_ := Aside0.mk (below_step (zB2_1) hb); clear BK114; clear HB; have HO117 := n0_; have BK114 := n1_; have HB := n2_; clear n0_ n1_ n2_; (try clear hb); (try clear hb2); (try clear hk); (try clear hi); (try clear ho0); obtain ⟨Ao17, co17, eo17⟩ := Kd.R_slice HO117.out; subst eo17))
 have n0_ := Aside0.mk (Kd.R_drew HO117.out)
 have n1_ := Aside0.mk (blk_drew BK114.out)
 have n2_ := Aside0.mk (below_drew1 HB.out)
 clear HO117 BK114 HB
 have HO117 := n0_
 have BK114 := n1_
 have HB := n2_
 clear n0_ n1_ n2_
 have p118 : 0 ≤ (0 : Int) := (by omega)
 have q118 : 0 < (t115.length : Int) := zA2
 obtain ⟨ad118, e118, hx118_0⟩ := Kd.at_string (Kd.R_reads' HO117.out).2.2 0 p118 q118
 cases e118
 have qi118 : (0 < t115.length) = True := eq_true (by omega)
 (try rw [show ((0 : Int)).toNat = 0 from rfl] at hx118_0)
 (try rw [Addr.add_zero'] at hx118_0)
 replace p118 := eq_true p118
 replace q118 := eq_true q118
 have p120 : 0 ≤ (1 : Int) := (by omega)
 have q120 : 1 < (t115.length : Int) := zA2
 obtain ⟨ad120, e120, hx120_0⟩ := Kd.at_string (Kd.R_reads' HO117.out).2.2 1 p120 q120
 obtain rfl : ad118 = ad120 := (by injection e120)
 (try simp only [show (1 : Int).toNat = 1 from rfl, Nat.reduceMul, Nat.reduceEqDiff, Go.Addr.add, ↓reduceIte] at hx120_0)
 have qi120 : (1 < t115.length) = True := eq_true (by omega)
 (try rw [show ((1 : Int)).toNat = 1 from rfl] at hx120_0)
 replace p120 := eq_true p120
 replace q120 := eq_true q120
 have p122 : 0 ≤ (2 : Int) := (by omega)
 have q122 : 2 < (t115.length : Int) := zA2
 obtain ⟨ad122, e122, hx122_0⟩ := Kd.at_string (Kd.R_reads' HO117.out).2.2 2 p122 q122
 obtain rfl : ad118 = ad122 := (by injection e122)
 (try simp only [show (2 : Int).toNat = 2 from rfl, Nat.reduceMul, Nat.reduceEqDiff, Go.Addr.add, ↓reduceIte] at hx122_0)
 have qi122 : (2 < t115.length) = True := eq_true (by omega)
 (try rw [show ((2 : Int)).toNat = 2 from rfl] at hx122_0)
 replace p122 := eq_true p122
 replace q122 := eq_true q122
 have p124 : 0 ≤ (3 : Int) := (by omega)
 have q124 : 3 < (t115.length : Int) := zA2
 obtain ⟨ad124, e124, hx124_0⟩ := Kd.at_string (Kd.R_reads' HO117.out).2.2 3 p124 q124
 obtain rfl : ad118 = ad124 := (by injection e124)
 (try simp only [show (3 : Int).toNat = 3 from rfl, Nat.reduceMul, Nat.reduceEqDiff, Go.Addr.add, ↓reduceIte] at hx124_0)
 have qi124 : (3 < t115.length) = True := eq_true (by omega)
 (try rw [show ((3 : Int)).toNat = 3 from rfl] at hx124_0)
 replace p124 := eq_true p124
 replace q124 := eq_true q124
 have p126 : 0 ≤ (4 : Int) := (by omega)
 have q126 : 4 < (t115.length : Int) := zA2
 obtain ⟨ad126, e126, hx126_0⟩ := Kd.at_string (Kd.R_reads' HO117.out).2.2 4 p126 q126
 obtain rfl : ad118 = ad126 := (by injection e126)
 (try simp only [show (4 : Int).toNat = 4 from rfl, Nat.reduceMul, Nat.reduceEqDiff, Go.Addr.add, ↓reduceIte] at hx126_0)
 have qi126 : (4 < t115.length) = True := eq_true (by omega)
 (try rw [show ((4 : Int)).toNat = 4 from rfl] at hx126_0)
 replace p126 := eq_true p126
 replace q126 := eq_true q126
 refine start_ (n := 23) (S := fun w' => w'.cell? ad118 = some (.string (rdOf ByteArray.empty t115 0)) ∧ w'.cell? ⟨ad118.block, ad118.off + 1, none⟩ = some (.string (rdOf ByteArray.empty t115 1)) ∧ w'.cell? ⟨ad118.block, ad118.off + 2, none⟩ = some (.string (rdOf ByteArray.empty t115 2)) ∧ w'.cell? ⟨ad118.block, ad118.off + 3, none⟩ = some (.string (rdOf ByteArray.empty t115 3)) ∧ w'.cell? ⟨ad118.block, ad118.off + 4, none⟩ = some (.string (rdOf ByteArray.empty t115 4))) (ds := []) #[false, false, false, false, false, false, false, false, false, false, false, false, false, false, false, false, false, false, false, false, false, false, false] (by kernel_rfl) rfl rfl ⟨hx118_0, hx120_0, hx122_0, hx124_0, hx126_0⟩ (fun hHeld => ?_); refine with_tabW spec_EventRead.tab4 spec_EventRead.bits4 (fun HT_ HW_ => ?_)
 generalize w16.drew = w18 at HO117 BK114 HB hx118_0 hx120_0 hx122_0 hx124_0 hx126_0 hHeld ⊢
 refine pure_ (i := 0) (N := some 12) (v := ?_) (a' := ?_) #[true, false, false, false, false, false, false, false, false, false, false, false, false, false, false, false, false, false, false, false, false, false, false] rfl rfl (any_of HT_.out (by kernel_rfl)) (fun _ _ _ h => h) (Or.inl ⟨by rfl, ?_⟩) ?_ ?_
 rotate_left
 ·intro w'
  go_simp
  with_reducible rfl
 rotate_left
 ·exact zV2
 refine pure_ (i := 1) (N := some 13) (v := ?_) (a' := ?_) #[true, true, false, false, false, false, false, false, false, false, false, false, false, false, false, false, false, false, false, false, false, false, false] rfl rfl (any_of HT_.out (by kernel_rfl)) (fun _ _ _ h => h) (Or.inl ⟨by rfl, ?_⟩) ?_ ?_
 rotate_left
 ·intro w'
  go_simp
  with_reducible rfl
 rotate_left
 ·exact zV2
 refine pure_ (i := 4) (N := some 16) (v := ?_) (a' := ?_) #[true, true, false, false, true, false, false, false, false, false, false, false, false, false, false, false, false, false, false, false, false, false, false] rfl rfl (any_of HT_.out (by kernel_rfl)) (fun _ _ _ h => h) (Or.inl ⟨by rfl, ?_⟩) ?_ ?_
 rotate_left
 ·intro w'
  go_simp
  with_reducible rfl
 rotate_left
 ·exact zV2
 refine pure_ (i := 5) (N := some 17) (v := ?_) (a' := ?_) #[true, true, false, false, true, true, false, false, false, false, false, false, false, false, false, false, false, false, false, false, false, false, false] rfl rfl (any_of HT_.out (by kernel_rfl)) (fun _ _ _ h => h) (Or.inl ⟨by rfl, ?_⟩) ?_ ?_
 rotate_left
 ·intro w'
  go_simp
  with_reducible rfl
 rotate_left
 ·exact zV2
 refine pure_ (i := 8) (N := some 20) (v := ?_) (a' := ?_) #[true, true, false, false, true, true, false, false, true, false, false, false, false, false, false, false, false, false, false, false, false, false, false] rfl rfl (any_of HT_.out (by kernel_rfl)) (fun _ _ _ h => h) (Or.inl ⟨by rfl, ?_⟩) ?_ ?_
 rotate_left
 ·intro w'
  go_simp
  with_reducible rfl
 rotate_left
 ·exact zV2
 refine pure_ (i := 9) (N := some 21) (v := ?_) (a' := ?_) #[true, true, false, false, true, true, false, false, true, true, false, false, false, false, false, false, false, false, false, false, false, false, false] rfl rfl (any_of HT_.out (by kernel_rfl)) (fun _ _ _ h => h) (Or.inl ⟨by rfl, ?_⟩) ?_ ?_
 rotate_left
 ·intro w'
  go_simp
  with_reducible rfl
 rotate_left
 ·exact zV2
 refine pure_ (i := 12) (N := some 24) (v := ?_) (a' := ?_) #[true, true, false, false, true, true, false, false, true, true, false, false, true, false, false, false, false, false, false, false, false, false, false] rfl rfl (any_of HT_.out (by kernel_rfl)) (fun _ _ _ h => h) (Or.inl ⟨by rfl, ?_⟩) ?_ ?_
 rotate_left
 ·intro w'
  go_simp
  with_reducible rfl
 rotate_left
 ·exact zV2
 refine pure_ (i := 13) (N := some 25) (v := ?_) (a' := ?_) #[true, true, false, false, true, true, false, false, true, true, false, false, true, true, false, false, false, false, false, false, false, false, false] rfl rfl (any_of HT_.out (by kernel_rfl)) (fun _ _ _ h => h) (Or.inl ⟨by rfl, ?_⟩) ?_ ?_
 rotate_left
 ·intro w'
  go_simp
  with_reducible rfl
 rotate_left
 ·exact zV2
 refine pure_ (i := 16) (N := some 28) (v := ?_) (a' := ?_) #[true, true, false, false, true, true, false, false, true, true, false, false, true, true, false, false, true, false, false, false, false, false, false] rfl rfl (any_of HT_.out (by kernel_rfl)) (fun _ _ _ h => h) (Or.inl ⟨by rfl, ?_⟩) ?_ ?_
 rotate_left
 ·intro w'
  go_simp
  with_reducible rfl
 rotate_left
 ·exact zV2
 refine pure_ (i := 17) (N := some 29) (v := ?_) (a' := ?_) #[true, true, false, false, true, true, false, false, true, true, false, false, true, true, false, false, true, true, false, false, false, false, false] rfl rfl (any_of HT_.out (by kernel_rfl)) (fun _ _ _ h => h) (Or.inl ⟨by rfl, ?_⟩) ?_ ?_
 rotate_left
 ·intro w'
  go_simp
  with_reducible rfl
 rotate_left
 ·exact zV2
 refine take_ (i := 2) (N := some 14) (v := ?_) (a' := ?_) #[true, true, true, false, true, true, false, false, true, true, false, false, true, true, false, false, true, true, false, false, false, false, false] rfl rfl (take_ofW HT_.out HW_.out (by kernel_rfl)) (fun _ _ _ h => h) (Or.inl ⟨by rfl, ?_⟩) hHeld ?_ ?_
 rotate_left
 ·rintro w' ⟨s0, s1, s2, s3, s4⟩
  go_simp
  with_reducible rfl
 rotate_left
 ·exact zV2
 refine take_ (i := 6) (N := some 18) (v := ?_) (a' := ?_) #[true, true, true, false, true, true, true, false, true, true, false, false, true, true, false, false, true, true, false, false, false, false, false] rfl rfl (take_ofW HT_.out HW_.out (by kernel_rfl)) (fun _ _ _ h => h) (Or.inl ⟨by rfl, ?_⟩) hHeld ?_ ?_
 rotate_left
 ·rintro w' ⟨s0, s1, s2, s3, s4⟩
  go_simp
  with_reducible rfl
 rotate_left
 ·exact zV2
 refine take_ (i := 10) (N := some 22) (v := ?_) (a' := ?_) #[true, true, true, false, true, true, true, false, true, true, true, false, true, true, false, false, true, true, false, false, false, false, false] rfl rfl (take_ofW HT_.out HW_.out (by kernel_rfl)) (fun _ _ _ h => h) (Or.inl ⟨by rfl, ?_⟩) hHeld ?_ ?_
 rotate_left
 ·rintro w' ⟨s0, s1, s2, s3, s4⟩
  go_simp
  with_reducible rfl
 rotate_left
 ·exact zV2
 refine take_ (i := 14) (N := some 26) (v := ?_) (a' := ?_) #[true, true, true, false, true, true, true, false, true, true, true, false, true, true, true, false, true, true, false, false, false, false, false] rfl rfl (take_ofW HT_.out HW_.out (by kernel_rfl)) (fun _ _ _ h => h) (Or.inl ⟨by rfl, ?_⟩) hHeld ?_ ?_
 rotate_left
 ·rintro w' ⟨s0, s1, s2, s3, s4⟩
  go_simp
  with_reducible rfl
 rotate_left
 ·exact zV2
 refine take_ (i := 18) (N := some 30) (v := ?_) (a' := ?_) #[true, true, true, false, true, true, true, false, true, true, true, false, true, true, true, false, true, true, true, false, false, false, false] rfl rfl (take_ofW HT_.out HW_.out (by kernel_rfl)) (fun _ _ _ h => h) (Or.inl ⟨by rfl, ?_⟩) hHeld ?_ ?_
 rotate_left
 ·rintro w' ⟨s0, s1, s2, s3, s4⟩
  go_simp
  with_reducible rfl
 rotate_left
 ·exact zV2
 refine join_ (σ := Nat) 1 zq2_0 (fun s_ => [(15, .int .i64 t119), (19, .int .i64 t121), (23, .int .i64 t123), (27, .int .i64 t125), (31, .int .i64 t127), (5, .pointer (some ⟨s_, 0, none⟩)), (32, .agg #[.int .i64 t119, .int .i64 t121, .int .i64 t123, .int .i64 t125, .int .i64 t127])]) (fun s_ w' => (w'.cell? ad118 = some (.string (rdOf ByteArray.empty t115 0)) ∧ w'.cell? ⟨ad118.block, ad118.off + 1, none⟩ = some (.string (rdOf ByteArray.empty t115 1)) ∧ w'.cell? ⟨ad118.block, ad118.off + 2, none⟩ = some (.string (rdOf ByteArray.empty t115 2)) ∧ w'.cell? ⟨ad118.block, ad118.off + 3, none⟩ = some (.string (rdOf ByteArray.empty t115 3)) ∧ w'.cell? ⟨ad118.block, ad118.off + 4, none⟩ = some (.string (rdOf ByteArray.empty t115 4))) ∧ (Kd.R Kd.string 9 w' w.heap.size (fun _ => True) (.slice (some ad118) t115.length co17) t115) ∧ (w'.heap[gb114]? = some (.cells #[.int .i64 0, .int .i64 0, .int .i64 0, .int .i64 0, .int .i64 0] 23 (0, 0))) ∧ (w'.heap[s_]? = some (.cells #[.int .i64 0, .int .i64 0, .int .i64 0, .int .i64 0, .int .i64 0] 23 (0, 0))) ∧ (w.heap.size ≤ s_) ∧ (w.heap.size ≤ s_) ∧ (gb114 ≠ s_) ∧ (s_ ≠ gb114) ∧ (Below w.heap.size w w')) ?_ ?_
 rotate_left
 ·intro hJ3_7_11_15_19_21
  refine join_ (σ := Unit) 2 zq2_1 (fun s_ => [(15, .int .i64 t119), (19, .int .i64 t121), (23, .int .i64 t123), (27, .int .i64 t125), (31, .int .i64 t127), (32, .agg #[.int .i64 t119, .int .i64 t121, .int .i64 t123, .int .i64 t125, .int .i64 t127])]) (fun s_ w' => (w'.cell? ad118 = some (.string (rdOf ByteArray.empty t115 0)) ∧ w'.cell? ⟨ad118.block, ad118.off + 1, none⟩ = some (.string (rdOf ByteArray.empty t115 1)) ∧ w'.cell? ⟨ad118.block, ad118.off + 2, none⟩ = some (.string (rdOf ByteArray.empty t115 2)) ∧ w'.cell? ⟨ad118.block, ad118.off + 3, none⟩ = some (.string (rdOf ByteArray.empty t115 3)) ∧ w'.cell? ⟨ad118.block, ad118.off + 4, none⟩ = some (.string (rdOf ByteArray.empty t115 4))) ∧ (Kd.R Kd.string 9 w' w.heap.size (fun _ => True) (.slice (some ad118) t115.length co17) t115) ∧ (w'.heap[gb114]? = some (.cells #[.int .i64 0, .int .i64 0, .int .i64 0, .int .i64 0, .int .i64 0] 23 (0, 0))) ∧ (Below w.heap.size w w')) ?_ ?_
  rotate_left
  ·intro hJ3_7_11_15_19
   refine join_ (σ := Nat) 3 zq2_2 (fun s_ => [(15, .int .i64 t119), (19, .int .i64 t121), (23, .int .i64 t123), (27, .int .i64 t125), (5, .pointer (some ⟨s_, 0, none⟩))]) (fun s_ w' => (w'.cell? ad118 = some (.string (rdOf ByteArray.empty t115 0)) ∧ w'.cell? ⟨ad118.block, ad118.off + 1, none⟩ = some (.string (rdOf ByteArray.empty t115 1)) ∧ w'.cell? ⟨ad118.block, ad118.off + 2, none⟩ = some (.string (rdOf ByteArray.empty t115 2)) ∧ w'.cell? ⟨ad118.block, ad118.off + 3, none⟩ = some (.string (rdOf ByteArray.empty t115 3)) ∧ w'.cell? ⟨ad118.block, ad118.off + 4, none⟩ = some (.string (rdOf ByteArray.empty t115 4))) ∧ (Kd.R Kd.string 9 w' w.heap.size (fun _ => True) (.slice (some ad118) t115.length co17) t115) ∧ (w'.heap[gb114]? = some (.cells #[.int .i64 0, .int .i64 0, .int .i64 0, .int .i64 0, .int .i64 0] 23 (0, 0))) ∧ (w'.heap[s_]? = some (.cells #[.int .i64 0, .int .i64 0, .int .i64 0, .int .i64 0, .int .i64 0] 23 (0, 0))) ∧ (w.heap.size ≤ s_) ∧ (w.heap.size ≤ s_) ∧ (gb114 ≠ s_) ∧ (s_ ≠ gb114) ∧ (Below w.heap.size w w')) ?_ ?_
   rotate_left
   ·intro hJ3_7_11_15_21
    refine join_ (σ := Unit) 4 zq2_3 (fun s_ => [(15, .int .i64 t119), (19, .int .i64 t121), (23, .int .i64 t123), (27, .int .i64 t125)]) (fun s_ w' => (w'.cell? ad118 = some (.string (rdOf ByteArray.empty t115 0)) ∧ w'.cell? ⟨ad118.block, ad118.off + 1, none⟩ = some (.string (rdOf ByteArray.empty t115 1)) ∧ w'.cell? ⟨ad118.block, ad118.off + 2, none⟩ = some (.string (rdOf ByteArray.empty t115 2)) ∧ w'.cell? ⟨ad118.block, ad118.off + 3, none⟩ = some (.string (rdOf ByteArray.empty t115 3)) ∧ w'.cell? ⟨ad118.block, ad118.off + 4, none⟩ = some (.string (rdOf ByteArray.empty t115 4))) ∧ (Kd.R Kd.string 9 w' w.heap.size (fun _ => True) (.slice (some ad118) t115.length co17) t115) ∧ (w'.heap[gb114]? = some (.cells #[.int .i64 0, .int .i64 0, .int .i64 0, .int .i64 0, .int .i64 0] 23 (0, 0))) ∧ (Below w.heap.size w w')) ?_ ?_
    rotate_left
    ·intro hJ3_7_11_15
     refine join_ (σ := Nat) 4 zq2_4 (fun s_ => [(15, .int .i64 t119), (19, .int .i64 t121), (23, .int .i64 t123), (5, .pointer (some ⟨s_, 0, none⟩))]) (fun s_ w' => (w'.cell? ad118 = some (.string (rdOf ByteArray.empty t115 0)) ∧ w'.cell? ⟨ad118.block, ad118.off + 1, none⟩ = some (.string (rdOf ByteArray.empty t115 1)) ∧ w'.cell? ⟨ad118.block, ad118.off + 2, none⟩ = some (.string (rdOf ByteArray.empty t115 2)) ∧ w'.cell? ⟨ad118.block, ad118.off + 3, none⟩ = some (.string (rdOf ByteArray.empty t115 3)) ∧ w'.cell? ⟨ad118.block, ad118.off + 4, none⟩ = some (.string (rdOf ByteArray.empty t115 4))) ∧ (Kd.R Kd.string 9 w' w.heap.size (fun _ => True) (.slice (some ad118) t115.length co17) t115) ∧ (w'.heap[gb114]? = some (.cells #[.int .i64 0, .int .i64 0, .int .i64 0, .int .i64 0, .int .i64 0] 23 (0, 0))) ∧ (w'.heap[s_]? = some (.cells #[.int .i64 0, .int .i64 0, .int .i64 0, .int .i64 0, .int .i64 0] 23 (0, 0))) ∧ (w.heap.size ≤ s_) ∧ (w.heap.size ≤ s_) ∧ (gb114 ≠ s_) ∧ (s_ ≠ gb114) ∧ (Below w.heap.size w w')) ?_ ?_
     rotate_left
     ·intro hJ3_7_11_21
      refine join_ (σ := Unit) 5 zq2_5 (fun s_ => [(15, .int .i64 t119), (19, .int .i64 t121), (23, .int .i64 t123)]) (fun s_ w' => (w'.cell? ad118 = some (.string (rdOf ByteArray.empty t115 0)) ∧ w'.cell? ⟨ad118.block, ad118.off + 1, none⟩ = some (.string (rdOf ByteArray.empty t115 1)) ∧ w'.cell? ⟨ad118.block, ad118.off + 2, none⟩ = some (.string (rdOf ByteArray.empty t115 2)) ∧ w'.cell? ⟨ad118.block, ad118.off + 3, none⟩ = some (.string (rdOf ByteArray.empty t115 3)) ∧ w'.cell? ⟨ad118.block, ad118.off + 4, none⟩ = some (.string (rdOf ByteArray.empty t115 4))) ∧ (Kd.R Kd.string 9 w' w.heap.size (fun _ => True) (.slice (some ad118) t115.length co17) t115) ∧ (w'.heap[gb114]? = some (.cells #[.int .i64 0, .int .i64 0, .int .i64 0, .int .i64 0, .int .i64 0] 23 (0, 0))) ∧ (Below w.heap.size w w')) ?_ ?_
      rotate_left
      ·intro hJ3_7_11
       refine join_ (σ := Nat) 5 zq2_6 (fun s_ => [(15, .int .i64 t119), (19, .int .i64 t121), (5, .pointer (some ⟨s_, 0, none⟩))]) (fun s_ w' => (w'.cell? ad118 = some (.string (rdOf ByteArray.empty t115 0)) ∧ w'.cell? ⟨ad118.block, ad118.off + 1, none⟩ = some (.string (rdOf ByteArray.empty t115 1)) ∧ w'.cell? ⟨ad118.block, ad118.off + 2, none⟩ = some (.string (rdOf ByteArray.empty t115 2)) ∧ w'.cell? ⟨ad118.block, ad118.off + 3, none⟩ = some (.string (rdOf ByteArray.empty t115 3)) ∧ w'.cell? ⟨ad118.block, ad118.off + 4, none⟩ = some (.string (rdOf ByteArray.empty t115 4))) ∧ (Kd.R Kd.string 9 w' w.heap.size (fun _ => True) (.slice (some ad118) t115.length co17) t115) ∧ (w'.heap[gb114]? = some (.cells #[.int .i64 0, .int .i64 0, .int .i64 0, .int .i64 0, .int .i64 0] 23 (0, 0))) ∧ (w'.heap[s_]? = some (.cells #[.int .i64 0, .int .i64 0, .int .i64 0, .int .i64 0, .int .i64 0] 23 (0, 0))) ∧ (w.heap.size ≤ s_) ∧ (w.heap.size ≤ s_) ∧ (gb114 ≠ s_) ∧ (s_ ≠ gb114) ∧ (Below w.heap.size w w')) ?_ ?_
       rotate_left
       ·intro hJ3_7_21
        refine join_ (σ := Unit) 6 zq2_7 (fun s_ => [(15, .int .i64 t119), (19, .int .i64 t121)]) (fun s_ w' => (w'.cell? ad118 = some (.string (rdOf ByteArray.empty t115 0)) ∧ w'.cell? ⟨ad118.block, ad118.off + 1, none⟩ = some (.string (rdOf ByteArray.empty t115 1)) ∧ w'.cell? ⟨ad118.block, ad118.off + 2, none⟩ = some (.string (rdOf ByteArray.empty t115 2)) ∧ w'.cell? ⟨ad118.block, ad118.off + 3, none⟩ = some (.string (rdOf ByteArray.empty t115 3)) ∧ w'.cell? ⟨ad118.block, ad118.off + 4, none⟩ = some (.string (rdOf ByteArray.empty t115 4))) ∧ (Kd.R Kd.string 9 w' w.heap.size (fun _ => True) (.slice (some ad118) t115.length co17) t115) ∧ (w'.heap[gb114]? = some (.cells #[.int .i64 0, .int .i64 0, .int .i64 0, .int .i64 0, .int .i64 0] 23 (0, 0))) ∧ (Below w.heap.size w w')) ?_ ?_
        rotate_left
        ·intro hJ3_7
         refine join_ (σ := Nat) 6 zq2_8 (fun s_ => [(15, .int .i64 t119), (5, .pointer (some ⟨s_, 0, none⟩))]) (fun s_ w' => (w'.cell? ad118 = some (.string (rdOf ByteArray.empty t115 0)) ∧ w'.cell? ⟨ad118.block, ad118.off + 1, none⟩ = some (.string (rdOf ByteArray.empty t115 1)) ∧ w'.cell? ⟨ad118.block, ad118.off + 2, none⟩ = some (.string (rdOf ByteArray.empty t115 2)) ∧ w'.cell? ⟨ad118.block, ad118.off + 3, none⟩ = some (.string (rdOf ByteArray.empty t115 3)) ∧ w'.cell? ⟨ad118.block, ad118.off + 4, none⟩ = some (.string (rdOf ByteArray.empty t115 4))) ∧ (Kd.R Kd.string 9 w' w.heap.size (fun _ => True) (.slice (some ad118) t115.length co17) t115) ∧ (w'.heap[gb114]? = some (.cells #[.int .i64 0, .int .i64 0, .int .i64 0, .int .i64 0, .int .i64 0] 23 (0, 0))) ∧ (w'.heap[s_]? = some (.cells #[.int .i64 0, .int .i64 0, .int .i64 0, .int .i64 0, .int .i64 0] 23 (0, 0))) ∧ (w.heap.size ≤ s_) ∧ (w.heap.size ≤ s_) ∧ (gb114 ≠ s_) ∧ (s_ ≠ gb114) ∧ (Below w.heap.size w w')) ?_ ?_
         rotate_left
         ·intro hJ3_21
          refine join_ (σ := Unit) 7 zq2_9 (fun s_ => [(15, .int .i64 t119)]) (fun s_ w' => (w'.cell? ad118 = some (.string (rdOf ByteArray.empty t115 0)) ∧ w'.cell? ⟨ad118.block, ad118.off + 1, none⟩ = some (.string (rdOf ByteArray.empty t115 1)) ∧ w'.cell? ⟨ad118.block, ad118.off + 2, none⟩ = some (.string (rdOf ByteArray.empty t115 2)) ∧ w'.cell? ⟨ad118.block, ad118.off + 3, none⟩ = some (.string (rdOf ByteArray.empty t115 3)) ∧ w'.cell? ⟨ad118.block, ad118.off + 4, none⟩ = some (.string (rdOf ByteArray.empty t115 4))) ∧ (Kd.R Kd.string 9 w' w.heap.size (fun _ => True) (.slice (some ad118) t115.length co17) t115) ∧ (w'.heap[gb114]? = some (.cells #[.int .i64 0, .int .i64 0, .int .i64 0, .int .i64 0, .int .i64 0] 23 (0, 0))) ∧ (Below w.heap.size w w')) ?_ ?_
          rotate_left
          ·intro hJ3
           refine join_ (σ := Nat) 7 zq2_10 (fun s_ => [(5, .pointer (some ⟨s_, 0, none⟩))]) (fun s_ w' => (w'.cell? ad118 = some (.string (rdOf ByteArray.empty t115 0)) ∧ w'.cell? ⟨ad118.block, ad118.off + 1, none⟩ = some (.string (rdOf ByteArray.empty t115 1)) ∧ w'.cell? ⟨ad118.block, ad118.off + 2, none⟩ = some (.string (rdOf ByteArray.empty t115 2)) ∧ w'.cell? ⟨ad118.block, ad118.off + 3, none⟩ = some (.string (rdOf ByteArray.empty t115 3)) ∧ w'.cell? ⟨ad118.block, ad118.off + 4, none⟩ = some (.string (rdOf ByteArray.empty t115 4))) ∧ (Kd.R Kd.string 9 w' w.heap.size (fun _ => True) (.slice (some ad118) t115.length co17) t115) ∧ (w'.heap[gb114]? = some (.cells #[.int .i64 0, .int .i64 0, .int .i64 0, .int .i64 0, .int .i64 0] 23 (0, 0))) ∧ (w'.heap[s_]? = some (.cells #[.int .i64 0, .int .i64 0, .int .i64 0, .int .i64 0, .int .i64 0] 23 (0, 0))) ∧ (w.heap.size ≤ s_) ∧ (w.heap.size ≤ s_) ∧ (gb114 ≠ s_) ∧ (s_ ≠ gb114) ∧ (Below w.heap.size w w')) ?_ ?_
           rotate_left
           ·intro hJ21
            refine two_ (i := 3) (j := 21) (Ni := some 15) (Nj := some 5) zq2_9 zq2_10 rfl rfl rfl rfl (two_of HT_.out (by kernel_rfl)) (by decide) (by decide) (fun K hK => ?_) (fun K hK => ?_)
            ·skip
             refine goes_ Tryd.func14 (by kernel_rfl) rfl #[.string (rdOf ByteArray.empty t115 0)] (by rfl) rfl rfl zT2 ?_
             with_reducible refine (spec_l28Num.calls k (rdOf ByteArray.empty t115 0) t119 _ A5.out).mono ?_
             rintro e w19 ⟨rfl, hb⟩
             have HS0_ := (hb.cell (World.block_lt_of_cell? _ _ (hHeld.1))).trans (hHeld.1)
             have HS1_ := (hb.cell (World.block_lt_of_cell? _ _ (hHeld.2.1))).trans (hHeld.2.1)
             have HS2_ := (hb.cell (World.block_lt_of_cell? _ _ (hHeld.2.2.1))).trans (hHeld.2.2.1)
             have HS3_ := (hb.cell (World.block_lt_of_cell? _ _ (hHeld.2.2.2.1))).trans (hHeld.2.2.2.1)
             have HS4_ := (hb.cell (World.block_lt_of_cell? _ _ (hHeld.2.2.2.2))).trans (hHeld.2.2.2.2)
             refine ⟨_, rfl, ?_⟩
             have n0_ := Aside0.mk (Kd.R_below (zR2 HO117.out) hb)
             have n1_ := Aside0.mk (zb2 BK114.out hb)
             have n2_ := Aside0.mk (below_step (zB2_1) hb)
             clear HO117 BK114 HB
             have HO117 := n0_
             have BK114 := n1_
             have HB := n2_
             clear n0_ n1_ n2_
             (try clear hb)
             (try clear hb2)
             (try clear hk)
             (try clear hi)
             refine hK.out _ _ ⟨HS0_, HS1_, HS2_, HS3_, HS4_⟩ (fun hHeld => ?_)
             clear hK K
             refine norm_ (a' := ?_) ?_ ?_
             rotate_left
             ·show Act.put _ (some 15) _ = _
              simp only [Act.put, List.setIfInBounds_toArray, List.set_cons_zero, List.set_cons_succ, i64_w, i32_w]
              rfl
             exact norm_ (by first | (simp only [putAll, Act.put, List.setIfInBounds_toArray, List.set_cons_zero, List.set_cons_succ]; done) | (simp only [putAll, Act.put, List.setIfInBounds_toArray, List.set_cons_zero, List.set_cons_succ]; rfl)) (hJ3 () _ ⟨hHeld, (zR2 HO117.out), (zK2 BK114.out), (zB2_1)⟩)
            ·skip
             refine box_step ?hg (N := 5) ?hd (cs := #[.int .i64 0, .int .i64 0, .int .i64 0, .int .i64 0, .int .i64 0]) (t := 23) ?hr ?_; (case hd => rfl); (case hg => rfl); (case hr => first | (go_simp; done) | (go_simp; rfl))
             intro gb128 hg w19 hbox hb
             have HS0_ := (hb.cell (World.block_lt_of_cell? _ _ (hHeld.1))).trans (hHeld.1)
             have HS1_ := (hb.cell (World.block_lt_of_cell? _ _ (hHeld.2.1))).trans (hHeld.2.1)
             have HS2_ := (hb.cell (World.block_lt_of_cell? _ _ (hHeld.2.2.1))).trans (hHeld.2.2.1)
             have HS3_ := (hb.cell (World.block_lt_of_cell? _ _ (hHeld.2.2.2.1))).trans (hHeld.2.2.2.1)
             have HS4_ := (hb.cell (World.block_lt_of_cell? _ _ (hHeld.2.2.2.2))).trans (hHeld.2.2.2.2)
             have n0_ := Aside0.mk (Kd.R_below (zR2 HO117.out) hb)
             have n1_ := Aside0.mk (zb2 BK114.out hb)
             have n2_ := Aside0.mk (below_step (zB2_1) hb)
             have n3_ := Aside0.mk (hbox)
             have n4_ := Aside0.mk ((by rw [hg]; exact (below_size (zB2_1)) : w.heap.size ≤ gb128))
             have n5_ := Aside0.mk ((by rw [hg]; exact (below_size (zB2_1)) : w.heap.size ≤ gb128))
             have n6_ := Aside0.mk ((zn2 BK114.out hg : gb114 ≠ gb128))
             have n7_ := Aside0.mk ((zm2 BK114.out hg : gb128 ≠ gb114))
             clear HO117 BK114 HB
             have HO117 := n0_
             have BK114 := n1_
             have HB := n2_
             have BK128 := n3_
             have GW128 := n4_
             have GE128 := n5_
             have NB114_128 := n6_
             have NB128_114 := n7_
             clear n0_ n1_ n2_ n3_ n4_ n5_ n6_ n7_ hb hbox hg
             refine hK.out _ _ ⟨HS0_, HS1_, HS2_, HS3_, HS4_⟩ (fun hHeld => ?_)
             clear hK K
             refine norm_ (a' := ?_) ?_ ?_
             rotate_left
             ·show Act.put _ (some 5) _ = _
              simp only [Act.put, List.setIfInBounds_toArray, List.set_cons_zero, List.set_cons_succ, i64_w, i32_w]
              rfl
             exact norm_ (by first | (simp only [putAll, Act.put, List.setIfInBounds_toArray, List.set_cons_zero, List.set_cons_succ]; done) | (simp only [putAll, Act.put, List.setIfInBounds_toArray, List.set_cons_zero, List.set_cons_succ]; rfl)) (hJ21 (gb128) _ ⟨hHeld, (zR2 HO117.out), (zK2 BK114.out), (zK2 BK128.out), GW128.out, GE128.out, NB114_128.out, NB128_114.out, (zB2_2)⟩)
           ·skip
            rintro gb128 w20 ⟨hS_, h0_, h1_, h2_, h3_, h4_, h5_, h6_, h7_⟩
            have n0_ : Aside0 (Kd.R Kd.string 9 w20 w.heap.size (fun _ => True) (.slice (some ad118) t115.length co17) t115) := ⟨h0_⟩
            have n1_ : Aside0 (w20.heap[gb114]? = some (.cells #[.int .i64 0, .int .i64 0, .int .i64 0, .int .i64 0, .int .i64 0] 23 (0, 0))) := ⟨h1_⟩
            have n2_ : Aside0 (w20.heap[gb128]? = some (.cells #[.int .i64 0, .int .i64 0, .int .i64 0, .int .i64 0, .int .i64 0] 23 (0, 0))) := ⟨h2_⟩
            have n3_ : Aside0 (w.heap.size ≤ gb128) := ⟨h3_⟩
            have n4_ : Aside0 (w.heap.size ≤ gb128) := ⟨h4_⟩
            have n5_ : Aside0 (gb114 ≠ gb128) := ⟨h5_⟩
            have n6_ : Aside0 (gb128 ≠ gb114) := ⟨h6_⟩
            have n7_ : Aside0 (Below w.heap.size w w20) := ⟨h7_⟩
            clear HO117 BK114 HB h0_ h1_ h2_ h3_ h4_ h5_ h6_ h7_
            have HO117 := n0_
            have BK114 := n1_
            have BK128 := n2_
            have GW128 := n3_
            have GE128 := n4_
            have NB114_128 := n5_
            have NB128_114 := n6_
            have HB := n7_
            clear n0_ n1_ n2_ n3_ n4_ n5_ n6_ n7_
            have hHeld : w20.cell? ad118 = some (.string (rdOf ByteArray.empty t115 0)) ∧ w20.cell? ⟨ad118.block, ad118.off + 1, none⟩ = some (.string (rdOf ByteArray.empty t115 1)) ∧ w20.cell? ⟨ad118.block, ad118.off + 2, none⟩ = some (.string (rdOf ByteArray.empty t115 2)) ∧ w20.cell? ⟨ad118.block, ad118.off + 3, none⟩ = some (.string (rdOf ByteArray.empty t115 3)) ∧ w20.cell? ⟨ad118.block, ad118.off + 4, none⟩ = some (.string (rdOf ByteArray.empty t115 4)) := hS_
            refine norm_ (a' := ?_) ?_ ?_
            rotate_left
            ·simp only [putAll, Act.put, List.setIfInBounds_toArray, List.set_cons_zero, List.set_cons_succ]
             rfl
            refine one_ (i := 3) (N := some 15) zq2_8 rfl rfl (one_of HT_.out (by kernel_rfl)) (by decide) (fun K hK => ?_)
            refine goes_ Tryd.func14 (by kernel_rfl) rfl #[.string (rdOf ByteArray.empty t115 0)] (by rfl) rfl rfl zT2 ?_
            with_reducible refine (spec_l28Num.calls k (rdOf ByteArray.empty t115 0) t119 _ A5.out).mono ?_
            rintro e w21 ⟨rfl, hb⟩
            have HS0_ := (hb.cell (World.block_lt_of_cell? _ _ (hHeld.1))).trans (hHeld.1)
            have HS1_ := (hb.cell (World.block_lt_of_cell? _ _ (hHeld.2.1))).trans (hHeld.2.1)
            have HS2_ := (hb.cell (World.block_lt_of_cell? _ _ (hHeld.2.2.1))).trans (hHeld.2.2.1)
            have HS3_ := (hb.cell (World.block_lt_of_cell? _ _ (hHeld.2.2.2.1))).trans (hHeld.2.2.2.1)
            have HS4_ := (hb.cell (World.block_lt_of_cell? _ _ (hHeld.2.2.2.2))).trans (hHeld.2.2.2.2)
            refine ⟨_, rfl, ?_⟩
            have n0_ := Aside0.mk (Kd.R_below (zR2 HO117.out) hb)
            have n1_ := Aside0.mk (zb2 BK114.out hb)
            have n2_ := Aside0.mk (zb2 BK128.out hb)
            have n3_ := Aside0.mk (below_step (zB2_2) hb)
            clear HO117 BK114 BK128 HB
            have HO117 := n0_
            have BK114 := n1_
            have BK128 := n2_
            have HB := n3_
            clear n0_ n1_ n2_ n3_
            (try clear hb)
            (try clear hb2)
            (try clear hk)
            (try clear hi)
            refine hK.out _ _ ⟨HS0_, HS1_, HS2_, HS3_, HS4_⟩ (fun hHeld => ?_)
            clear hK K
            refine norm_ (a' := ?_) ?_ ?_
            rotate_left
            ·show Act.put _ (some 15) _ = _
             simp only [Act.put, List.setIfInBounds_toArray, List.set_cons_zero, List.set_cons_succ, i64_w, i32_w]
             rfl
            exact norm_ (by first | (simp only [putAll, Act.put, List.setIfInBounds_toArray, List.set_cons_zero, List.set_cons_succ]; done) | (simp only [putAll, Act.put, List.setIfInBounds_toArray, List.set_cons_zero, List.set_cons_succ]; rfl)) (hJ3_21 (gb128) _ ⟨hHeld, (zR2 HO117.out), (zK2 BK114.out), (zK2 BK128.out), GW128.out, GE128.out, NB114_128.out, NB128_114.out, (zB2_2)⟩)
          ·skip
           rintro _ w20 ⟨hS_, h0_, h1_, h2_⟩
           have n0_ : Aside0 (Kd.R Kd.string 9 w20 w.heap.size (fun _ => True) (.slice (some ad118) t115.length co17) t115) := ⟨h0_⟩
           have n1_ : Aside0 (w20.heap[gb114]? = some (.cells #[.int .i64 0, .int .i64 0, .int .i64 0, .int .i64 0, .int .i64 0] 23 (0, 0))) := ⟨h1_⟩
           have n2_ : Aside0 (Below w.heap.size w w20) := ⟨h2_⟩
           clear HO117 BK114 HB h0_ h1_ h2_
           have HO117 := n0_
           have BK114 := n1_
           have HB := n2_
           clear n0_ n1_ n2_
           have hHeld : w20.cell? ad118 = some (.string (rdOf ByteArray.empty t115 0)) ∧ w20.cell? ⟨ad118.block, ad118.off + 1, none⟩ = some (.string (rdOf ByteArray.empty t115 1)) ∧ w20.cell? ⟨ad118.block, ad118.off + 2, none⟩ = some (.string (rdOf ByteArray.empty t115 2)) ∧ w20.cell? ⟨ad118.block, ad118.off + 3, none⟩ = some (.string (rdOf ByteArray.empty t115 3)) ∧ w20.cell? ⟨ad118.block, ad118.off + 4, none⟩ = some (.string (rdOf ByteArray.empty t115 4)) := hS_
           refine norm_ (a' := ?_) ?_ ?_
           rotate_left
           ·simp only [putAll, Act.put, List.setIfInBounds_toArray, List.set_cons_zero, List.set_cons_succ]
            rfl
           refine two_ (i := 7) (j := 21) (Ni := some 19) (Nj := some 5) zq2_7 zq2_8 rfl rfl rfl rfl (two_of HT_.out (by kernel_rfl)) (by decide) (by decide) (fun K hK => ?_) (fun K hK => ?_)
           ·skip
            refine goes_ Tryd.func14 (by kernel_rfl) rfl #[.string (rdOf ByteArray.empty t115 1)] (by rfl) rfl rfl zT2 ?_
            with_reducible refine (spec_l28Num.calls k (rdOf ByteArray.empty t115 1) t121 _ A7.out).mono ?_
            rintro e w21 ⟨rfl, hb⟩
            have HS0_ := (hb.cell (World.block_lt_of_cell? _ _ (hHeld.1))).trans (hHeld.1)
            have HS1_ := (hb.cell (World.block_lt_of_cell? _ _ (hHeld.2.1))).trans (hHeld.2.1)
            have HS2_ := (hb.cell (World.block_lt_of_cell? _ _ (hHeld.2.2.1))).trans (hHeld.2.2.1)
            have HS3_ := (hb.cell (World.block_lt_of_cell? _ _ (hHeld.2.2.2.1))).trans (hHeld.2.2.2.1)
            have HS4_ := (hb.cell (World.block_lt_of_cell? _ _ (hHeld.2.2.2.2))).trans (hHeld.2.2.2.2)
            refine ⟨_, rfl, ?_⟩
            have n0_ := Aside0.mk (Kd.R_below (zR2 HO117.out) hb)
            have n1_ := Aside0.mk (zb2 BK114.out hb)
            have n2_ := Aside0.mk (below_step (zB2_1) hb)
            clear HO117 BK114 HB
            have HO117 := n0_
            have BK114 := n1_
            have HB := n2_
            clear n0_ n1_ n2_
            (try clear hb)
            (try clear hb2)
            (try clear hk)
            (try clear hi)
            refine hK.out _ _ ⟨HS0_, HS1_, HS2_, HS3_, HS4_⟩ (fun hHeld => ?_)
            clear hK K
            refine norm_ (a' := ?_) ?_ ?_
            rotate_left
            ·show Act.put _ (some 19) _ = _
             simp only [Act.put, List.setIfInBounds_toArray, List.set_cons_zero, List.set_cons_succ, i64_w, i32_w]
             rfl
            exact norm_ (by first | (simp only [putAll, Act.put, List.setIfInBounds_toArray, List.set_cons_zero, List.set_cons_succ]; done) | (simp only [putAll, Act.put, List.setIfInBounds_toArray, List.set_cons_zero, List.set_cons_succ]; rfl)) (hJ3_7 () _ ⟨hHeld, (zR2 HO117.out), (zK2 BK114.out), (zB2_1)⟩)
           ·skip
            refine box_step ?hg (N := 5) ?hd (cs := #[.int .i64 0, .int .i64 0, .int .i64 0, .int .i64 0, .int .i64 0]) (t := 23) ?hr ?_; (case hd => rfl); (case hg => rfl); (case hr => first | (go_simp; done) | (go_simp; rfl))
            intro gb128 hg w21 hbox hb
            have HS0_ := (hb.cell (World.block_lt_of_cell? _ _ (hHeld.1))).trans (hHeld.1)
            have HS1_ := (hb.cell (World.block_lt_of_cell? _ _ (hHeld.2.1))).trans (hHeld.2.1)
            have HS2_ := (hb.cell (World.block_lt_of_cell? _ _ (hHeld.2.2.1))).trans (hHeld.2.2.1)
            have HS3_ := (hb.cell (World.block_lt_of_cell? _ _ (hHeld.2.2.2.1))).trans (hHeld.2.2.2.1)
            have HS4_ := (hb.cell (World.block_lt_of_cell? _ _ (hHeld.2.2.2.2))).trans (hHeld.2.2.2.2)
            have n0_ := Aside0.mk (Kd.R_below (zR2 HO117.out) hb)
            have n1_ := Aside0.mk (zb2 BK114.out hb)
            have n2_ := Aside0.mk (below_step (zB2_1) hb)
            have n3_ := Aside0.mk (hbox)
            have n4_ := Aside0.mk ((by rw [hg]; exact (below_size (zB2_1)) : w.heap.size ≤ gb128))
            have n5_ := Aside0.mk ((by rw [hg]; exact (below_size (zB2_1)) : w.heap.size ≤ gb128))
            have n6_ := Aside0.mk ((zn2 BK114.out hg : gb114 ≠ gb128))
            have n7_ := Aside0.mk ((zm2 BK114.out hg : gb128 ≠ gb114))
            clear HO117 BK114 HB
            have HO117 := n0_
            have BK114 := n1_
            have HB := n2_
            have BK128 := n3_
            have GW128 := n4_
            have GE128 := n5_
            have NB114_128 := n6_
            have NB128_114 := n7_
            clear n0_ n1_ n2_ n3_ n4_ n5_ n6_ n7_ hb hbox hg
            refine hK.out _ _ ⟨HS0_, HS1_, HS2_, HS3_, HS4_⟩ (fun hHeld => ?_)
            clear hK K
            refine norm_ (a' := ?_) ?_ ?_
            rotate_left
            ·show Act.put _ (some 5) _ = _
             simp only [Act.put, List.setIfInBounds_toArray, List.set_cons_zero, List.set_cons_succ, i64_w, i32_w]
             rfl
            exact norm_ (by first | (simp only [putAll, Act.put, List.setIfInBounds_toArray, List.set_cons_zero, List.set_cons_succ]; done) | (simp only [putAll, Act.put, List.setIfInBounds_toArray, List.set_cons_zero, List.set_cons_succ]; rfl)) (hJ3_21 (gb128) _ ⟨hHeld, (zR2 HO117.out), (zK2 BK114.out), (zK2 BK128.out), GW128.out, GE128.out, NB114_128.out, NB128_114.out, (zB2_2)⟩)
         ·skip
          rintro gb128 w21 ⟨hS_, h0_, h1_, h2_, h3_, h4_, h5_, h6_, h7_⟩
          have n0_ : Aside0 (Kd.R Kd.string 9 w21 w.heap.size (fun _ => True) (.slice (some ad118) t115.length co17) t115) := ⟨h0_⟩
          have n1_ : Aside0 (w21.heap[gb114]? = some (.cells #[.int .i64 0, .int .i64 0, .int .i64 0, .int .i64 0, .int .i64 0] 23 (0, 0))) := ⟨h1_⟩
          have n2_ : Aside0 (w21.heap[gb128]? = some (.cells #[.int .i64 0, .int .i64 0, .int .i64 0, .int .i64 0, .int .i64 0] 23 (0, 0))) := ⟨h2_⟩
          have n3_ : Aside0 (w.heap.size ≤ gb128) := ⟨h3_⟩
          have n4_ : Aside0 (w.heap.size ≤ gb128) := ⟨h4_⟩
          have n5_ : Aside0 (gb114 ≠ gb128) := ⟨h5_⟩
          have n6_ : Aside0 (gb128 ≠ gb114) := ⟨h6_⟩
          have n7_ : Aside0 (Below w.heap.size w w21) := ⟨h7_⟩
          clear HO117 BK114 HB h0_ h1_ h2_ h3_ h4_ h5_ h6_ h7_
          have HO117 := n0_
          have BK114 := n1_
          have BK128 := n2_
          have GW128 := n3_
          have GE128 := n4_
          have NB114_128 := n5_
          have NB128_114 := n6_
          have HB := n7_
          clear n0_ n1_ n2_ n3_ n4_ n5_ n6_ n7_
          have hHeld : w21.cell? ad118 = some (.string (rdOf ByteArray.empty t115 0)) ∧ w21.cell? ⟨ad118.block, ad118.off + 1, none⟩ = some (.string (rdOf ByteArray.empty t115 1)) ∧ w21.cell? ⟨ad118.block, ad118.off + 2, none⟩ = some (.string (rdOf ByteArray.empty t115 2)) ∧ w21.cell? ⟨ad118.block, ad118.off + 3, none⟩ = some (.string (rdOf ByteArray.empty t115 3)) ∧ w21.cell? ⟨ad118.block, ad118.off + 4, none⟩ = some (.string (rdOf ByteArray.empty t115 4)) := hS_
          refine norm_ (a' := ?_) ?_ ?_
          rotate_left
          ·simp only [putAll, Act.put, List.setIfInBounds_toArray, List.set_cons_zero, List.set_cons_succ]
           rfl
          refine one_ (i := 7) (N := some 19) zq2_6 rfl rfl (one_of HT_.out (by kernel_rfl)) (by decide) (fun K hK => ?_)
          refine goes_ Tryd.func14 (by kernel_rfl) rfl #[.string (rdOf ByteArray.empty t115 1)] (by rfl) rfl rfl zT2 ?_
          with_reducible refine (spec_l28Num.calls k (rdOf ByteArray.empty t115 1) t121 _ A7.out).mono ?_
          rintro e w22 ⟨rfl, hb⟩
          have HS0_ := (hb.cell (World.block_lt_of_cell? _ _ (hHeld.1))).trans (hHeld.1)
          have HS1_ := (hb.cell (World.block_lt_of_cell? _ _ (hHeld.2.1))).trans (hHeld.2.1)
          have HS2_ := (hb.cell (World.block_lt_of_cell? _ _ (hHeld.2.2.1))).trans (hHeld.2.2.1)
          have HS3_ := (hb.cell (World.block_lt_of_cell? _ _ (hHeld.2.2.2.1))).trans (hHeld.2.2.2.1)
          have HS4_ := (hb.cell (World.block_lt_of_cell? _ _ (hHeld.2.2.2.2))).trans (hHeld.2.2.2.2)
          refine ⟨_, rfl, ?_⟩
          have n0_ := Aside0.mk (Kd.R_below (zR2 HO117.out) hb)
          have n1_ := Aside0.mk (zb2 BK114.out hb)
          have n2_ := Aside0.mk (zb2 BK128.out hb)
          have n3_ := Aside0.mk (below_step (zB2_2) hb)
          clear HO117 BK114 BK128 HB
          have HO117 := n0_
          have BK114 := n1_
          have BK128 := n2_
          have HB := n3_
          clear n0_ n1_ n2_ n3_
          (try clear hb)
          (try clear hb2)
          (try clear hk)
          (try clear hi)
          refine hK.out _ _ ⟨HS0_, HS1_, HS2_, HS3_, HS4_⟩ (fun hHeld => ?_)
          clear hK K
          refine norm_ (a' := ?_) ?_ ?_
          rotate_left
          ·show Act.put _ (some 19) _ = _
           simp only [Act.put, List.setIfInBounds_toArray, List.set_cons_zero, List.set_cons_succ, i64_w, i32_w]
           rfl
          exact norm_ (by first | (simp only [putAll, Act.put, List.setIfInBounds_toArray, List.set_cons_zero, List.set_cons_succ]; done) | (simp only [putAll, Act.put, List.setIfInBounds_toArray, List.set_cons_zero, List.set_cons_succ]; rfl)) (hJ3_7_21 (gb128) _ ⟨hHeld, (zR2 HO117.out), (zK2 BK114.out), (zK2 BK128.out), GW128.out, GE128.out, NB114_128.out, NB128_114.out, (zB2_2)⟩)
        ·skip
         rintro _ w21 ⟨hS_, h0_, h1_, h2_⟩
         have n0_ : Aside0 (Kd.R Kd.string 9 w21 w.heap.size (fun _ => True) (.slice (some ad118) t115.length co17) t115) := ⟨h0_⟩
         have n1_ : Aside0 (w21.heap[gb114]? = some (.cells #[.int .i64 0, .int .i64 0, .int .i64 0, .int .i64 0, .int .i64 0] 23 (0, 0))) := ⟨h1_⟩
         have n2_ : Aside0 (Below w.heap.size w w21) := ⟨h2_⟩
         clear HO117 BK114 HB h0_ h1_ h2_
         have HO117 := n0_
         have BK114 := n1_
         have HB := n2_
         clear n0_ n1_ n2_
         have hHeld : w21.cell? ad118 = some (.string (rdOf ByteArray.empty t115 0)) ∧ w21.cell? ⟨ad118.block, ad118.off + 1, none⟩ = some (.string (rdOf ByteArray.empty t115 1)) ∧ w21.cell? ⟨ad118.block, ad118.off + 2, none⟩ = some (.string (rdOf ByteArray.empty t115 2)) ∧ w21.cell? ⟨ad118.block, ad118.off + 3, none⟩ = some (.string (rdOf ByteArray.empty t115 3)) ∧ w21.cell? ⟨ad118.block, ad118.off + 4, none⟩ = some (.string (rdOf ByteArray.empty t115 4)) := hS_
         refine norm_ (a' := ?_) ?_ ?_
         rotate_left
         ·simp only [putAll, Act.put, List.setIfInBounds_toArray, List.set_cons_zero, List.set_cons_succ]
          rfl
         refine two_ (i := 11) (j := 21) (Ni := some 23) (Nj := some 5) zq2_5 zq2_6 rfl rfl rfl rfl (two_of HT_.out (by kernel_rfl)) (by decide) (by decide) (fun K hK => ?_) (fun K hK => ?_)
         ·skip
          refine goes_ Tryd.func14 (by kernel_rfl) rfl #[.string (rdOf ByteArray.empty t115 2)] (by rfl) rfl rfl zT2 ?_
          with_reducible refine (spec_l28Num.calls k (rdOf ByteArray.empty t115 2) t123 _ A9.out).mono ?_
          rintro e w22 ⟨rfl, hb⟩
          have HS0_ := (hb.cell (World.block_lt_of_cell? _ _ (hHeld.1))).trans (hHeld.1)
          have HS1_ := (hb.cell (World.block_lt_of_cell? _ _ (hHeld.2.1))).trans (hHeld.2.1)
          have HS2_ := (hb.cell (World.block_lt_of_cell? _ _ (hHeld.2.2.1))).trans (hHeld.2.2.1)
          have HS3_ := (hb.cell (World.block_lt_of_cell? _ _ (hHeld.2.2.2.1))).trans (hHeld.2.2.2.1)
          have HS4_ := (hb.cell (World.block_lt_of_cell? _ _ (hHeld.2.2.2.2))).trans (hHeld.2.2.2.2)
          refine ⟨_, rfl, ?_⟩
          have n0_ := Aside0.mk (Kd.R_below (zR2 HO117.out) hb)
          have n1_ := Aside0.mk (zb2 BK114.out hb)
          have n2_ := Aside0.mk (below_step (zB2_1) hb)
          clear HO117 BK114 HB
          have HO117 := n0_
          have BK114 := n1_
          have HB := n2_
          clear n0_ n1_ n2_
          (try clear hb)
          (try clear hb2)
          (try clear hk)
          (try clear hi)
          refine hK.out _ _ ⟨HS0_, HS1_, HS2_, HS3_, HS4_⟩ (fun hHeld => ?_)
          clear hK K
          refine norm_ (a' := ?_) ?_ ?_
          rotate_left
          ·show Act.put _ (some 23) _ = _
           simp only [Act.put, List.setIfInBounds_toArray, List.set_cons_zero, List.set_cons_succ, i64_w, i32_w]
           rfl
          exact norm_ (by first | (simp only [putAll, Act.put, List.setIfInBounds_toArray, List.set_cons_zero, List.set_cons_succ]; done) | (simp only [putAll, Act.put, List.setIfInBounds_toArray, List.set_cons_zero, List.set_cons_succ]; rfl)) (hJ3_7_11 () _ ⟨hHeld, (zR2 HO117.out), (zK2 BK114.out), (zB2_1)⟩)
         ·skip
          refine box_step ?hg (N := 5) ?hd (cs := #[.int .i64 0, .int .i64 0, .int .i64 0, .int .i64 0, .int .i64 0]) (t := 23) ?hr ?_; (case hd => rfl); (case hg => rfl); (case hr => first | (go_simp; done) | (go_simp; rfl))
          intro gb128 hg w22 hbox hb
          have HS0_ := (hb.cell (World.block_lt_of_cell? _ _ (hHeld.1))).trans (hHeld.1)
          have HS1_ := (hb.cell (World.block_lt_of_cell? _ _ (hHeld.2.1))).trans (hHeld.2.1)
          have HS2_ := (hb.cell (World.block_lt_of_cell? _ _ (hHeld.2.2.1))).trans (hHeld.2.2.1)
          have HS3_ := (hb.cell (World.block_lt_of_cell? _ _ (hHeld.2.2.2.1))).trans (hHeld.2.2.2.1)
          have HS4_ := (hb.cell (World.block_lt_of_cell? _ _ (hHeld.2.2.2.2))).trans (hHeld.2.2.2.2)
          have n0_ := Aside0.mk (Kd.R_below (zR2 HO117.out) hb)
          have n1_ := Aside0.mk (zb2 BK114.out hb)
          have n2_ := Aside0.mk (below_step (zB2_1) hb)
          have n3_ := Aside0.mk (hbox)
          have n4_ := Aside0.mk ((by rw [hg]; exact (below_size (zB2_1)) : w.heap.size ≤ gb128))
          have n5_ := Aside0.mk ((by rw [hg]; exact (below_size (zB2_1)) : w.heap.size ≤ gb128))
          have n6_ := Aside0.mk ((zn2 BK114.out hg : gb114 ≠ gb128))
          have n7_ := Aside0.mk ((zm2 BK114.out hg : gb128 ≠ gb114))
          clear HO117 BK114 HB
          have HO117 := n0_
          have BK114 := n1_
          have HB := n2_
          have BK128 := n3_
          have GW128 := n4_
          have GE128 := n5_
          have NB114_128 := n6_
          have NB128_114 := n7_
          clear n0_ n1_ n2_ n3_ n4_ n5_ n6_ n7_ hb hbox hg
          refine hK.out _ _ ⟨HS0_, HS1_, HS2_, HS3_, HS4_⟩ (fun hHeld => ?_)
          clear hK K
          refine norm_ (a' := ?_) ?_ ?_
          rotate_left
          ·show Act.put _ (some 5) _ = _
           simp only [Act.put, List.setIfInBounds_toArray, List.set_cons_zero, List.set_cons_succ, i64_w, i32_w]
           rfl
          exact norm_ (by first | (simp only [putAll, Act.put, List.setIfInBounds_toArray, List.set_cons_zero, List.set_cons_succ]; done) | (simp only [putAll, Act.put, List.setIfInBounds_toArray, List.set_cons_zero, List.set_cons_succ]; rfl)) (hJ3_7_21 (gb128) _ ⟨hHeld, (zR2 HO117.out), (zK2 BK114.out), (zK2 BK128.out), GW128.out, GE128.out, NB114_128.out, NB128_114.out, (zB2_2)⟩)
       ·skip
        rintro gb128 w22 ⟨hS_, h0_, h1_, h2_, h3_, h4_, h5_, h6_, h7_⟩
        have n0_ : Aside0 (Kd.R Kd.string 9 w22 w.heap.size (fun _ => True) (.slice (some ad118) t115.length co17) t115) := ⟨h0_⟩
        have n1_ : Aside0 (w22.heap[gb114]? = some (.cells #[.int .i64 0, .int .i64 0, .int .i64 0, .int .i64 0, .int .i64 0] 23 (0, 0))) := ⟨h1_⟩
        have n2_ : Aside0 (w22.heap[gb128]? = some (.cells #[.int .i64 0, .int .i64 0, .int .i64 0, .int .i64 0, .int .i64 0] 23 (0, 0))) := ⟨h2_⟩
        have n3_ : Aside0 (w.heap.size ≤ gb128) := ⟨h3_⟩
        have n4_ : Aside0 (w.heap.size ≤ gb128) := ⟨h4_⟩
        have n5_ : Aside0 (gb114 ≠ gb128) := ⟨h5_⟩
        have n6_ : Aside0 (gb128 ≠ gb114) := ⟨h6_⟩
        have n7_ : Aside0 (Below w.heap.size w w22) := ⟨h7_⟩
        clear HO117 BK114 HB h0_ h1_ h2_ h3_ h4_ h5_ h6_ h7_
        have HO117 := n0_
        have BK114 := n1_
        have BK128 := n2_
        have GW128 := n3_
        have GE128 := n4_
        have NB114_128 := n5_
        have NB128_114 := n6_
        have HB := n7_
        clear n0_ n1_ n2_ n3_ n4_ n5_ n6_ n7_
        have hHeld : w22.cell? ad118 = some (.string (rdOf ByteArray.empty t115 0)) ∧ w22.cell? ⟨ad118.block, ad118.off + 1, none⟩ = some (.string (rdOf ByteArray.empty t115 1)) ∧ w22.cell? ⟨ad118.block, ad118.off + 2, none⟩ = some (.string (rdOf ByteArray.empty t115 2)) ∧ w22.cell? ⟨ad118.block, ad118.off + 3, none⟩ = some (.string (rdOf ByteArray.empty t115 3)) ∧ w22.cell? ⟨ad118.block, ad118.off + 4, none⟩ = some (.string (rdOf ByteArray.empty t115 4)) := hS_
        refine norm_ (a' := ?_) ?_ ?_
        rotate_left
        ·simp only [putAll, Act.put, List.setIfInBounds_toArray, List.set_cons_zero, List.set_cons_succ]
         rfl
        refine one_ (i := 11) (N := some 23) zq2_4 rfl rfl (one_of HT_.out (by kernel_rfl)) (by decide) (fun K hK => ?_)
        refine goes_ Tryd.func14 (by kernel_rfl) rfl #[.string (rdOf ByteArray.empty t115 2)] (by rfl) rfl rfl zT2 ?_
        with_reducible refine (spec_l28Num.calls k (rdOf ByteArray.empty t115 2) t123 _ A9.out).mono ?_
        rintro e w23 ⟨rfl, hb⟩
        have HS0_ := (hb.cell (World.block_lt_of_cell? _ _ (hHeld.1))).trans (hHeld.1)
        have HS1_ := (hb.cell (World.block_lt_of_cell? _ _ (hHeld.2.1))).trans (hHeld.2.1)
        have HS2_ := (hb.cell (World.block_lt_of_cell? _ _ (hHeld.2.2.1))).trans (hHeld.2.2.1)
        have HS3_ := (hb.cell (World.block_lt_of_cell? _ _ (hHeld.2.2.2.1))).trans (hHeld.2.2.2.1)
        have HS4_ := (hb.cell (World.block_lt_of_cell? _ _ (hHeld.2.2.2.2))).trans (hHeld.2.2.2.2)
        refine ⟨_, rfl, ?_⟩
        have n0_ := Aside0.mk (Kd.R_below (zR2 HO117.out) hb)
        have n1_ := Aside0.mk (zb2 BK114.out hb)
        have n2_ := Aside0.mk (zb2 BK128.out hb)
        have n3_ := Aside0.mk (below_step (zB2_2) hb)
        clear HO117 BK114 BK128 HB
        have HO117 := n0_
        have BK114 := n1_
        have BK128 := n2_
        have HB := n3_
        clear n0_ n1_ n2_ n3_
        (try clear hb)
        (try clear hb2)
        (try clear hk)
        (try clear hi)
        refine hK.out _ _ ⟨HS0_, HS1_, HS2_, HS3_, HS4_⟩ (fun hHeld => ?_)
        clear hK K
        refine norm_ (a' := ?_) ?_ ?_
        rotate_left
        ·show Act.put _ (some 23) _ = _
         simp only [Act.put, List.setIfInBounds_toArray, List.set_cons_zero, List.set_cons_succ, i64_w, i32_w]
         rfl
        exact norm_ (by first | (simp only [putAll, Act.put, List.setIfInBounds_toArray, List.set_cons_zero, List.set_cons_succ]; done) | (simp only [putAll, Act.put, List.setIfInBounds_toArray, List.set_cons_zero, List.set_cons_succ]; rfl)) (hJ3_7_11_21 (gb128) _ ⟨hHeld, (zR2 HO117.out), (zK2 BK114.out), (zK2 BK128.out), GW128.out, GE128.out, NB114_128.out, NB128_114.out, (zB2_2)⟩)
      ·skip
       rintro _ w22 ⟨hS_, h0_, h1_, h2_⟩
       have n0_ : Aside0 (Kd.R Kd.string 9 w22 w.heap.size (fun _ => True) (.slice (some ad118) t115.length co17) t115) := ⟨h0_⟩
       have n1_ : Aside0 (w22.heap[gb114]? = some (.cells #[.int .i64 0, .int .i64 0, .int .i64 0, .int .i64 0, .int .i64 0] 23 (0, 0))) := ⟨h1_⟩
       have n2_ : Aside0 (Below w.heap.size w w22) := ⟨h2_⟩
       clear HO117 BK114 HB h0_ h1_ h2_
       have HO117 := n0_
       have BK114 := n1_
       have HB := n2_
       clear n0_ n1_ n2_
       have hHeld : w22.cell? ad118 = some (.string (rdOf ByteArray.empty t115 0)) ∧ w22.cell? ⟨ad118.block, ad118.off + 1, none⟩ = some (.string (rdOf ByteArray.empty t115 1)) ∧ w22.cell? ⟨ad118.block, ad118.off + 2, none⟩ = some (.string (rdOf ByteArray.empty t115 2)) ∧ w22.cell? ⟨ad118.block, ad118.off + 3, none⟩ = some (.string (rdOf ByteArray.empty t115 3)) ∧ w22.cell? ⟨ad118.block, ad118.off + 4, none⟩ = some (.string (rdOf ByteArray.empty t115 4)) := hS_
       refine norm_ (a' := ?_) ?_ ?_
       rotate_left
       ·simp only [putAll, Act.put, List.setIfInBounds_toArray, List.set_cons_zero, List.set_cons_succ]
        rfl
       refine two_ (i := 15) (j := 21) (Ni := some 27) (Nj := some 5) zq2_3 zq2_4 rfl rfl rfl rfl (two_of HT_.out (by kernel_rfl)) (by decide) (by decide) (fun K hK => ?_) (fun K hK => ?_)
       ·skip
        refine goes_ Tryd.func14 (by kernel_rfl) rfl #[.string (rdOf ByteArray.empty t115 3)] (by rfl) rfl rfl zT2 ?_
        with_reducible refine (spec_l28Num.calls k (rdOf ByteArray.empty t115 3) t125 _ A11.out).mono ?_
        rintro e w23 ⟨rfl, hb⟩
        have HS0_ := (hb.cell (World.block_lt_of_cell? _ _ (hHeld.1))).trans (hHeld.1)
        have HS1_ := (hb.cell (World.block_lt_of_cell? _ _ (hHeld.2.1))).trans (hHeld.2.1)
        have HS2_ := (hb.cell (World.block_lt_of_cell? _ _ (hHeld.2.2.1))).trans (hHeld.2.2.1)
        have HS3_ := (hb.cell (World.block_lt_of_cell? _ _ (hHeld.2.2.2.1))).trans (hHeld.2.2.2.1)
        have HS4_ := (hb.cell (World.block_lt_of_cell? _ _ (hHeld.2.2.2.2))).trans (hHeld.2.2.2.2)
        refine ⟨_, rfl, ?_⟩
        have n0_ := Aside0.mk (Kd.R_below (zR2 HO117.out) hb)
        have n1_ := Aside0.mk (zb2 BK114.out hb)
        have n2_ := Aside0.mk (below_step (zB2_1) hb)
        clear HO117 BK114 HB
        have HO117 := n0_
        have BK114 := n1_
        have HB := n2_
        clear n0_ n1_ n2_
        (try clear hb)
        (try clear hb2)
        (try clear hk)
        (try clear hi)
        refine hK.out _ _ ⟨HS0_, HS1_, HS2_, HS3_, HS4_⟩ (fun hHeld => ?_)
        clear hK K
        refine norm_ (a' := ?_) ?_ ?_
        rotate_left
        ·show Act.put _ (some 27) _ = _
         simp only [Act.put, List.setIfInBounds_toArray, List.set_cons_zero, List.set_cons_succ, i64_w, i32_w]
         rfl
        exact norm_ (by first | (simp only [putAll, Act.put, List.setIfInBounds_toArray, List.set_cons_zero, List.set_cons_succ]; done) | (simp only [putAll, Act.put, List.setIfInBounds_toArray, List.set_cons_zero, List.set_cons_succ]; rfl)) (hJ3_7_11_15 () _ ⟨hHeld, (zR2 HO117.out), (zK2 BK114.out), (zB2_1)⟩)
       ·skip
        refine box_step ?hg (N := 5) ?hd (cs := #[.int .i64 0, .int .i64 0, .int .i64 0, .int .i64 0, .int .i64 0]) (t := 23) ?hr ?_; (case hd => rfl); (case hg => rfl); (case hr => first | (go_simp; done) | (go_simp; rfl))
        intro gb128 hg w23 hbox hb
        have HS0_ := (hb.cell (World.block_lt_of_cell? _ _ (hHeld.1))).trans (hHeld.1)
        have HS1_ := (hb.cell (World.block_lt_of_cell? _ _ (hHeld.2.1))).trans (hHeld.2.1)
        have HS2_ := (hb.cell (World.block_lt_of_cell? _ _ (hHeld.2.2.1))).trans (hHeld.2.2.1)
        have HS3_ := (hb.cell (World.block_lt_of_cell? _ _ (hHeld.2.2.2.1))).trans (hHeld.2.2.2.1)
        have HS4_ := (hb.cell (World.block_lt_of_cell? _ _ (hHeld.2.2.2.2))).trans (hHeld.2.2.2.2)
        have n0_ := Aside0.mk (Kd.R_below (zR2 HO117.out) hb)
        have n1_ := Aside0.mk (zb2 BK114.out hb)
        have n2_ := Aside0.mk (below_step (zB2_1) hb)
        have n3_ := Aside0.mk (hbox)
        have n4_ := Aside0.mk ((by rw [hg]; exact (below_size (zB2_1)) : w.heap.size ≤ gb128))
        have n5_ := Aside0.mk ((by rw [hg]; exact (below_size (zB2_1)) : w.heap.size ≤ gb128))
        have n6_ := Aside0.mk ((zn2 BK114.out hg : gb114 ≠ gb128))
        have n7_ := Aside0.mk ((zm2 BK114.out hg : gb128 ≠ gb114))
        clear HO117 BK114 HB
        have HO117 := n0_
        have BK114 := n1_
        have HB := n2_
        have BK128 := n3_
        have GW128 := n4_
        have GE128 := n5_
        have NB114_128 := n6_
        have NB128_114 := n7_
        clear n0_ n1_ n2_ n3_ n4_ n5_ n6_ n7_ hb hbox hg
        refine hK.out _ _ ⟨HS0_, HS1_, HS2_, HS3_, HS4_⟩ (fun hHeld => ?_)
        clear hK K
        refine norm_ (a' := ?_) ?_ ?_
        rotate_left
        ·show Act.put _ (some 5) _ = _
         simp only [Act.put, List.setIfInBounds_toArray, List.set_cons_zero, List.set_cons_succ, i64_w, i32_w]
         rfl
        exact norm_ (by first | (simp only [putAll, Act.put, List.setIfInBounds_toArray, List.set_cons_zero, List.set_cons_succ]; done) | (simp only [putAll, Act.put, List.setIfInBounds_toArray, List.set_cons_zero, List.set_cons_succ]; rfl)) (hJ3_7_11_21 (gb128) _ ⟨hHeld, (zR2 HO117.out), (zK2 BK114.out), (zK2 BK128.out), GW128.out, GE128.out, NB114_128.out, NB128_114.out, (zB2_2)⟩)
     ·skip
      rintro gb128 w23 ⟨hS_, h0_, h1_, h2_, h3_, h4_, h5_, h6_, h7_⟩
      have n0_ : Aside0 (Kd.R Kd.string 9 w23 w.heap.size (fun _ => True) (.slice (some ad118) t115.length co17) t115) := ⟨h0_⟩
      have n1_ : Aside0 (w23.heap[gb114]? = some (.cells #[.int .i64 0, .int .i64 0, .int .i64 0, .int .i64 0, .int .i64 0] 23 (0, 0))) := ⟨h1_⟩
      have n2_ : Aside0 (w23.heap[gb128]? = some (.cells #[.int .i64 0, .int .i64 0, .int .i64 0, .int .i64 0, .int .i64 0] 23 (0, 0))) := ⟨h2_⟩
      have n3_ : Aside0 (w.heap.size ≤ gb128) := ⟨h3_⟩
      have n4_ : Aside0 (w.heap.size ≤ gb128) := ⟨h4_⟩
      have n5_ : Aside0 (gb114 ≠ gb128) := ⟨h5_⟩
      have n6_ : Aside0 (gb128 ≠ gb114) := ⟨h6_⟩
      have n7_ : Aside0 (Below w.heap.size w w23) := ⟨h7_⟩
      clear HO117 BK114 HB h0_ h1_ h2_ h3_ h4_ h5_ h6_ h7_
      have HO117 := n0_
      have BK114 := n1_
      have BK128 := n2_
      have GW128 := n3_
      have GE128 := n4_
      have NB114_128 := n5_
      have NB128_114 := n6_
      have HB := n7_
      clear n0_ n1_ n2_ n3_ n4_ n5_ n6_ n7_
      have hHeld : w23.cell? ad118 = some (.string (rdOf ByteArray.empty t115 0)) ∧ w23.cell? ⟨ad118.block, ad118.off + 1, none⟩ = some (.string (rdOf ByteArray.empty t115 1)) ∧ w23.cell? ⟨ad118.block, ad118.off + 2, none⟩ = some (.string (rdOf ByteArray.empty t115 2)) ∧ w23.cell? ⟨ad118.block, ad118.off + 3, none⟩ = some (.string (rdOf ByteArray.empty t115 3)) ∧ w23.cell? ⟨ad118.block, ad118.off + 4, none⟩ = some (.string (rdOf ByteArray.empty t115 4)) := hS_
      refine norm_ (a' := ?_) ?_ ?_
      rotate_left
      ·simp only [putAll, Act.put, List.setIfInBounds_toArray, List.set_cons_zero, List.set_cons_succ]
       rfl
      refine one_ (i := 15) (N := some 27) zq2_2 rfl rfl (one_of HT_.out (by kernel_rfl)) (by decide) (fun K hK => ?_)
      refine goes_ Tryd.func14 (by kernel_rfl) rfl #[.string (rdOf ByteArray.empty t115 3)] (by rfl) rfl rfl zT2 ?_
      with_reducible refine (spec_l28Num.calls k (rdOf ByteArray.empty t115 3) t125 _ A11.out).mono ?_
      rintro e w24 ⟨rfl, hb⟩
      have HS0_ := (hb.cell (World.block_lt_of_cell? _ _ (hHeld.1))).trans (hHeld.1)
      have HS1_ := (hb.cell (World.block_lt_of_cell? _ _ (hHeld.2.1))).trans (hHeld.2.1)
      have HS2_ := (hb.cell (World.block_lt_of_cell? _ _ (hHeld.2.2.1))).trans (hHeld.2.2.1)
      have HS3_ := (hb.cell (World.block_lt_of_cell? _ _ (hHeld.2.2.2.1))).trans (hHeld.2.2.2.1)
      have HS4_ := (hb.cell (World.block_lt_of_cell? _ _ (hHeld.2.2.2.2))).trans (hHeld.2.2.2.2)
      refine ⟨_, rfl, ?_⟩
      have n0_ := Aside0.mk (Kd.R_below (zR2 HO117.out) hb)
      have n1_ := Aside0.mk (zb2 BK114.out hb)
      have n2_ := Aside0.mk (zb2 BK128.out hb)
      have n3_ := Aside0.mk (below_step (zB2_2) hb)
      clear HO117 BK114 BK128 HB
      have HO117 := n0_
      have BK114 := n1_
      have BK128 := n2_
      have HB := n3_
      clear n0_ n1_ n2_ n3_
      (try clear hb)
      (try clear hb2)
      (try clear hk)
      (try clear hi)
      refine hK.out _ _ ⟨HS0_, HS1_, HS2_, HS3_, HS4_⟩ (fun hHeld => ?_)
      clear hK K
      refine norm_ (a' := ?_) ?_ ?_
      rotate_left
      ·show Act.put _ (some 27) _ = _
       simp only [Act.put, List.setIfInBounds_toArray, List.set_cons_zero, List.set_cons_succ, i64_w, i32_w]
       rfl
      exact norm_ (by first | (simp only [putAll, Act.put, List.setIfInBounds_toArray, List.set_cons_zero, List.set_cons_succ]; done) | (simp only [putAll, Act.put, List.setIfInBounds_toArray, List.set_cons_zero, List.set_cons_succ]; rfl)) (hJ3_7_11_15_21 (gb128) _ ⟨hHeld, (zR2 HO117.out), (zK2 BK114.out), (zK2 BK128.out), GW128.out, GE128.out, NB114_128.out, NB128_114.out, (zB2_2)⟩)
    ·skip
     rintro _ w23 ⟨hS_, h0_, h1_, h2_⟩
     have n0_ : Aside0 (Kd.R Kd.string 9 w23 w.heap.size (fun _ => True) (.slice (some ad118) t115.length co17) t115) := ⟨h0_⟩
     have n1_ : Aside0 (w23.heap[gb114]? = some (.cells #[.int .i64 0, .int .i64 0, .int .i64 0, .int .i64 0, .int .i64 0] 23 (0, 0))) := ⟨h1_⟩
     have n2_ : Aside0 (Below w.heap.size w w23) := ⟨h2_⟩
     clear HO117 BK114 HB h0_ h1_ h2_
     have HO117 := n0_
     have BK114 := n1_
     have HB := n2_
     clear n0_ n1_ n2_
     have hHeld : w23.cell? ad118 = some (.string (rdOf ByteArray.empty t115 0)) ∧ w23.cell? ⟨ad118.block, ad118.off + 1, none⟩ = some (.string (rdOf ByteArray.empty t115 1)) ∧ w23.cell? ⟨ad118.block, ad118.off + 2, none⟩ = some (.string (rdOf ByteArray.empty t115 2)) ∧ w23.cell? ⟨ad118.block, ad118.off + 3, none⟩ = some (.string (rdOf ByteArray.empty t115 3)) ∧ w23.cell? ⟨ad118.block, ad118.off + 4, none⟩ = some (.string (rdOf ByteArray.empty t115 4)) := hS_
     refine norm_ (a' := ?_) ?_ ?_
     rotate_left
     ·simp only [putAll, Act.put, List.setIfInBounds_toArray, List.set_cons_zero, List.set_cons_succ]
      rfl
     refine two_ (i := 19) (j := 21) (Ni := some 31) (Nj := some 5) #[true, true, true, true, true, true, true, true, true, true, true, true, true, true, true, true, true, true, true, true, false, false, false] zq2_2 rfl rfl rfl rfl (two_of HT_.out (by kernel_rfl)) (by decide) (by decide) (fun K hK => ?_) (fun K hK => ?_)
     ·skip
      refine goes_ Tryd.func14 (by kernel_rfl) rfl #[.string (rdOf ByteArray.empty t115 4)] (by rfl) rfl rfl zT2 ?_
      with_reducible refine (spec_l28Num.calls k (rdOf ByteArray.empty t115 4) t127 _ A13.out).mono ?_
      rintro e w24 ⟨rfl, hb⟩
      have HS0_ := (hb.cell (World.block_lt_of_cell? _ _ (hHeld.1))).trans (hHeld.1)
      have HS1_ := (hb.cell (World.block_lt_of_cell? _ _ (hHeld.2.1))).trans (hHeld.2.1)
      have HS2_ := (hb.cell (World.block_lt_of_cell? _ _ (hHeld.2.2.1))).trans (hHeld.2.2.1)
      have HS3_ := (hb.cell (World.block_lt_of_cell? _ _ (hHeld.2.2.2.1))).trans (hHeld.2.2.2.1)
      have HS4_ := (hb.cell (World.block_lt_of_cell? _ _ (hHeld.2.2.2.2))).trans (hHeld.2.2.2.2)
      refine ⟨_, rfl, ?_⟩
      have n0_ := Aside0.mk (Kd.R_below (zR2 HO117.out) hb)
      have n1_ := Aside0.mk (zb2 BK114.out hb)
      have n2_ := Aside0.mk (below_step (zB2_1) hb)
      clear HO117 BK114 HB
      have HO117 := n0_
      have BK114 := n1_
      have HB := n2_
      clear n0_ n1_ n2_
      (try clear hb)
      (try clear hb2)
      (try clear hk)
      (try clear hi)
      refine hK.out _ _ ⟨HS0_, HS1_, HS2_, HS3_, HS4_⟩ (fun hHeld => ?_)
      clear hK K
      refine norm_ (a' := ?_) ?_ ?_
      rotate_left
      ·show Act.put _ (some 31) _ = _
       simp only [Act.put, List.setIfInBounds_toArray, List.set_cons_zero, List.set_cons_succ, i64_w, i32_w]
       rfl
      refine pure_ (i := 20) (N := some 32) (v := ?_) (a' := ?_) zq2_1 rfl rfl (any_of HT_.out (by kernel_rfl)) (fun _ _ _ h => h) (Or.inl ⟨by rfl, ?_⟩) ?_ ?_
      rotate_left
      ·intro w'
       go_simp
       with_reducible rfl
      rotate_left
      ·exact zV2
      exact norm_ (by first | (simp only [putAll, Act.put, List.setIfInBounds_toArray, List.set_cons_zero, List.set_cons_succ]; done) | (simp only [putAll, Act.put, List.setIfInBounds_toArray, List.set_cons_zero, List.set_cons_succ]; rfl)) (hJ3_7_11_15_19 () _ ⟨hHeld, (zR2 HO117.out), (zK2 BK114.out), (zB2_1)⟩)
     ·skip
      refine box_step ?hg (N := 5) ?hd (cs := #[.int .i64 0, .int .i64 0, .int .i64 0, .int .i64 0, .int .i64 0]) (t := 23) ?hr ?_; (case hd => rfl); (case hg => rfl); (case hr => first | (go_simp; done) | (go_simp; rfl))
      intro gb128 hg w24 hbox hb
      have HS0_ := (hb.cell (World.block_lt_of_cell? _ _ (hHeld.1))).trans (hHeld.1)
      have HS1_ := (hb.cell (World.block_lt_of_cell? _ _ (hHeld.2.1))).trans (hHeld.2.1)
      have HS2_ := (hb.cell (World.block_lt_of_cell? _ _ (hHeld.2.2.1))).trans (hHeld.2.2.1)
      have HS3_ := (hb.cell (World.block_lt_of_cell? _ _ (hHeld.2.2.2.1))).trans (hHeld.2.2.2.1)
      have HS4_ := (hb.cell (World.block_lt_of_cell? _ _ (hHeld.2.2.2.2))).trans (hHeld.2.2.2.2)
      have n0_ := Aside0.mk (Kd.R_below (zR2 HO117.out) hb)
      have n1_ := Aside0.mk (zb2 BK114.out hb)
      have n2_ := Aside0.mk (below_step (zB2_1) hb)
      have n3_ := Aside0.mk (hbox)
      have n4_ := Aside0.mk ((by rw [hg]; exact (below_size (zB2_1)) : w.heap.size ≤ gb128))
      have n5_ := Aside0.mk ((by rw [hg]; exact (below_size (zB2_1)) : w.heap.size ≤ gb128))
      have n6_ := Aside0.mk ((zn2 BK114.out hg : gb114 ≠ gb128))
      have n7_ := Aside0.mk ((zm2 BK114.out hg : gb128 ≠ gb114))
      clear HO117 BK114 HB
      have HO117 := n0_
      have BK114 := n1_
      have HB := n2_
      have BK128 := n3_
      have GW128 := n4_
      have GE128 := n5_
      have NB114_128 := n6_
      have NB128_114 := n7_
      clear n0_ n1_ n2_ n3_ n4_ n5_ n6_ n7_ hb hbox hg
      refine hK.out _ _ ⟨HS0_, HS1_, HS2_, HS3_, HS4_⟩ (fun hHeld => ?_)
      clear hK K
      refine norm_ (a' := ?_) ?_ ?_
      rotate_left
      ·show Act.put _ (some 5) _ = _
       simp only [Act.put, List.setIfInBounds_toArray, List.set_cons_zero, List.set_cons_succ, i64_w, i32_w]
       rfl
      exact norm_ (by first | (simp only [putAll, Act.put, List.setIfInBounds_toArray, List.set_cons_zero, List.set_cons_succ]; done) | (simp only [putAll, Act.put, List.setIfInBounds_toArray, List.set_cons_zero, List.set_cons_succ]; rfl)) (hJ3_7_11_15_21 (gb128) _ ⟨hHeld, (zR2 HO117.out), (zK2 BK114.out), (zK2 BK128.out), GW128.out, GE128.out, NB114_128.out, NB128_114.out, (zB2_2)⟩)
   ·skip
    rintro gb128 w24 ⟨hS_, h0_, h1_, h2_, h3_, h4_, h5_, h6_, h7_⟩
    have n0_ : Aside0 (Kd.R Kd.string 9 w24 w.heap.size (fun _ => True) (.slice (some ad118) t115.length co17) t115) := ⟨h0_⟩
    have n1_ : Aside0 (w24.heap[gb114]? = some (.cells #[.int .i64 0, .int .i64 0, .int .i64 0, .int .i64 0, .int .i64 0] 23 (0, 0))) := ⟨h1_⟩
    have n2_ : Aside0 (w24.heap[gb128]? = some (.cells #[.int .i64 0, .int .i64 0, .int .i64 0, .int .i64 0, .int .i64 0] 23 (0, 0))) := ⟨h2_⟩
    have n3_ : Aside0 (w.heap.size ≤ gb128) := ⟨h3_⟩
    have n4_ : Aside0 (w.heap.size ≤ gb128) := ⟨h4_⟩
    have n5_ : Aside0 (gb114 ≠ gb128) := ⟨h5_⟩
    have n6_ : Aside0 (gb128 ≠ gb114) := ⟨h6_⟩
    have n7_ : Aside0 (Below w.heap.size w w24) := ⟨h7_⟩
    clear HO117 BK114 HB h0_ h1_ h2_ h3_ h4_ h5_ h6_ h7_
    have HO117 := n0_
    have BK114 := n1_
    have BK128 := n2_
    have GW128 := n3_
    have GE128 := n4_
    have NB114_128 := n5_
    have NB128_114 := n6_
    have HB := n7_
    clear n0_ n1_ n2_ n3_ n4_ n5_ n6_ n7_
    have hHeld : w24.cell? ad118 = some (.string (rdOf ByteArray.empty t115 0)) ∧ w24.cell? ⟨ad118.block, ad118.off + 1, none⟩ = some (.string (rdOf ByteArray.empty t115 1)) ∧ w24.cell? ⟨ad118.block, ad118.off + 2, none⟩ = some (.string (rdOf ByteArray.empty t115 2)) ∧ w24.cell? ⟨ad118.block, ad118.off + 3, none⟩ = some (.string (rdOf ByteArray.empty t115 3)) ∧ w24.cell? ⟨ad118.block, ad118.off + 4, none⟩ = some (.string (rdOf ByteArray.empty t115 4)) := hS_
    refine norm_ (a' := ?_) ?_ ?_
    rotate_left
    ·simp only [putAll, Act.put, List.setIfInBounds_toArray, List.set_cons_zero, List.set_cons_succ]
     rfl
    refine one_ (i := 19) (N := some 31) #[true, true, true, true, true, true, true, true, true, true, true, true, true, true, true, true, true, true, true, true, false, true, false] rfl rfl (one_of HT_.out (by kernel_rfl)) (by decide) (fun K hK => ?_)
    refine goes_ Tryd.func14 (by kernel_rfl) rfl #[.string (rdOf ByteArray.empty t115 4)] (by rfl) rfl rfl zT2 ?_
    with_reducible refine (spec_l28Num.calls k (rdOf ByteArray.empty t115 4) t127 _ A13.out).mono ?_
    rintro e w25 ⟨rfl, hb⟩
    have HS0_ := (hb.cell (World.block_lt_of_cell? _ _ (hHeld.1))).trans (hHeld.1)
    have HS1_ := (hb.cell (World.block_lt_of_cell? _ _ (hHeld.2.1))).trans (hHeld.2.1)
    have HS2_ := (hb.cell (World.block_lt_of_cell? _ _ (hHeld.2.2.1))).trans (hHeld.2.2.1)
    have HS3_ := (hb.cell (World.block_lt_of_cell? _ _ (hHeld.2.2.2.1))).trans (hHeld.2.2.2.1)
    have HS4_ := (hb.cell (World.block_lt_of_cell? _ _ (hHeld.2.2.2.2))).trans (hHeld.2.2.2.2)
    refine ⟨_, rfl, ?_⟩
    have n0_ := Aside0.mk (Kd.R_below (zR2 HO117.out) hb)
    have n1_ := Aside0.mk (zb2 BK114.out hb)
    have n2_ := Aside0.mk (zb2 BK128.out hb)
    have n3_ := Aside0.mk (below_step (zB2_2) hb)
    clear HO117 BK114 BK128 HB
    have HO117 := n0_
    have BK114 := n1_
    have BK128 := n2_
    have HB := n3_
    clear n0_ n1_ n2_ n3_
    (try clear hb)
    (try clear hb2)
    (try clear hk)
    (try clear hi)
    refine hK.out _ _ ⟨HS0_, HS1_, HS2_, HS3_, HS4_⟩ (fun hHeld => ?_)
    clear hK K
    refine norm_ (a' := ?_) ?_ ?_
    rotate_left
    ·show Act.put _ (some 31) _ = _
     simp only [Act.put, List.setIfInBounds_toArray, List.set_cons_zero, List.set_cons_succ, i64_w, i32_w]
     rfl
    refine pure_ (i := 20) (N := some 32) (v := ?_) (a' := ?_) zq2_0 rfl rfl (any_of HT_.out (by kernel_rfl)) (fun _ _ _ h => h) (Or.inl ⟨by rfl, ?_⟩) ?_ ?_
    rotate_left
    ·intro w'
     go_simp
     with_reducible rfl
    rotate_left
    ·exact zV2
    exact norm_ (by first | (simp only [putAll, Act.put, List.setIfInBounds_toArray, List.set_cons_zero, List.set_cons_succ]; done) | (simp only [putAll, Act.put, List.setIfInBounds_toArray, List.set_cons_zero, List.set_cons_succ]; rfl)) (hJ3_7_11_15_19_21 (gb128) _ ⟨hHeld, (zR2 HO117.out), (zK2 BK114.out), (zK2 BK128.out), GW128.out, GE128.out, NB114_128.out, NB128_114.out, (zB2_2)⟩)
  ·skip
   rintro _ w24 ⟨hS_, h0_, h1_, h2_⟩
   have n0_ : Aside0 (Kd.R Kd.string 9 w24 w.heap.size (fun _ => True) (.slice (some ad118) t115.length co17) t115) := ⟨h0_⟩
   have n1_ : Aside0 (w24.heap[gb114]? = some (.cells #[.int .i64 0, .int .i64 0, .int .i64 0, .int .i64 0, .int .i64 0] 23 (0, 0))) := ⟨h1_⟩
   have n2_ : Aside0 (Below w.heap.size w w24) := ⟨h2_⟩
   clear HO117 BK114 HB h0_ h1_ h2_
   have HO117 := n0_
   have BK114 := n1_
   have HB := n2_
   clear n0_ n1_ n2_
   have hHeld : w24.cell? ad118 = some (.string (rdOf ByteArray.empty t115 0)) ∧ w24.cell? ⟨ad118.block, ad118.off + 1, none⟩ = some (.string (rdOf ByteArray.empty t115 1)) ∧ w24.cell? ⟨ad118.block, ad118.off + 2, none⟩ = some (.string (rdOf ByteArray.empty t115 2)) ∧ w24.cell? ⟨ad118.block, ad118.off + 3, none⟩ = some (.string (rdOf ByteArray.empty t115 3)) ∧ w24.cell? ⟨ad118.block, ad118.off + 4, none⟩ = some (.string (rdOf ByteArray.empty t115 4)) := hS_
   refine norm_ (a' := ?_) ?_ ?_
   rotate_left
   ·simp only [putAll, Act.put, List.setIfInBounds_toArray, List.set_cons_zero, List.set_cons_succ]
    rfl
   refine one_ (i := 21) (N := some 5) zq2_0 rfl rfl (one_of HT_.out (by kernel_rfl)) (by decide) (fun K hK => ?_)
   refine box_step ?hg (N := 5) ?hd (cs := #[.int .i64 0, .int .i64 0, .int .i64 0, .int .i64 0, .int .i64 0]) (t := 23) ?hr ?_; (case hd => rfl); (case hg => rfl); (case hr => first | (go_simp; done) | (go_simp; rfl))
   intro gb128 hg w25 hbox hb
   have HS0_ := (hb.cell (World.block_lt_of_cell? _ _ (hHeld.1))).trans (hHeld.1)
   have HS1_ := (hb.cell (World.block_lt_of_cell? _ _ (hHeld.2.1))).trans (hHeld.2.1)
   have HS2_ := (hb.cell (World.block_lt_of_cell? _ _ (hHeld.2.2.1))).trans (hHeld.2.2.1)
   have HS3_ := (hb.cell (World.block_lt_of_cell? _ _ (hHeld.2.2.2.1))).trans (hHeld.2.2.2.1)
   have HS4_ := (hb.cell (World.block_lt_of_cell? _ _ (hHeld.2.2.2.2))).trans (hHeld.2.2.2.2)
   have n0_ := Aside0.mk (Kd.R_below (zR2 HO117.out) hb)
   have n1_ := Aside0.mk (zb2 BK114.out hb)
   have n2_ := Aside0.mk (below_step (zB2_1) hb)
   have n3_ := Aside0.mk (hbox)
   have n4_ := Aside0.mk ((by rw [hg]; exact (below_size (zB2_1)) : w.heap.size ≤ gb128))
   have n5_ := Aside0.mk ((by rw [hg]; exact (below_size (zB2_1)) : w.heap.size ≤ gb128))
   have n6_ := Aside0.mk ((zn2 BK114.out hg : gb114 ≠ gb128))
   have n7_ := Aside0.mk ((zm2 BK114.out hg : gb128 ≠ gb114))
   clear HO117 BK114 HB
   have HO117 := n0_
   have BK114 := n1_
   have HB := n2_
   have BK128 := n3_
   have GW128 := n4_
   have GE128 := n5_
   have NB114_128 := n6_
   have NB128_114 := n7_
   clear n0_ n1_ n2_ n3_ n4_ n5_ n6_ n7_ hb hbox hg
   refine hK.out _ _ ⟨HS0_, HS1_, HS2_, HS3_, HS4_⟩ (fun hHeld => ?_)
   clear hK K
   refine norm_ (a' := ?_) ?_ ?_
   rotate_left
   ·show Act.put _ (some 5) _ = _
    simp only [Act.put, List.setIfInBounds_toArray, List.set_cons_zero, List.set_cons_succ, i64_w, i32_w]
    rfl
   exact norm_ (by first | (simp only [putAll, Act.put, List.setIfInBounds_toArray, List.set_cons_zero, List.set_cons_succ]; done) | (simp only [putAll, Act.put, List.setIfInBounds_toArray, List.set_cons_zero, List.set_cons_succ]; rfl)) (hJ3_7_11_15_19_21 (gb128) _ ⟨hHeld, (zR2 HO117.out), (zK2 BK114.out), (zK2 BK128.out), GW128.out, GE128.out, NB114_128.out, NB128_114.out, (zB2_2)⟩)
 rintro gb128 w25 ⟨hS_, h0_, h1_, h2_, h3_, h4_, h5_, h6_, h7_⟩
 have n0_ : Aside0 (Kd.R Kd.string 9 w25 w.heap.size (fun _ => True) (.slice (some ad118) t115.length co17) t115) := ⟨h0_⟩
 have n1_ : Aside0 (w25.heap[gb114]? = some (.cells #[.int .i64 0, .int .i64 0, .int .i64 0, .int .i64 0, .int .i64 0] 23 (0, 0))) := ⟨h1_⟩
 have n2_ : Aside0 (w25.heap[gb128]? = some (.cells #[.int .i64 0, .int .i64 0, .int .i64 0, .int .i64 0, .int .i64 0] 23 (0, 0))) := ⟨h2_⟩
 have n3_ : Aside0 (w.heap.size ≤ gb128) := ⟨h3_⟩
 have n4_ : Aside0 (w.heap.size ≤ gb128) := ⟨h4_⟩
 have n5_ : Aside0 (gb114 ≠ gb128) := ⟨h5_⟩
 have n6_ : Aside0 (gb128 ≠ gb114) := ⟨h6_⟩
 have n7_ : Aside0 (Below w.heap.size w w25) := ⟨h7_⟩
 clear HO117 BK114 HB h0_ h1_ h2_ h3_ h4_ h5_ h6_ h7_
 have HO117 := n0_
 have BK114 := n1_
 have BK128 := n2_
 have GW128 := n3_
 have GE128 := n4_
 have NB114_128 := n5_
 have NB128_114 := n6_
 have HB := n7_
 clear n0_ n1_ n2_ n3_ n4_ n5_ n6_ n7_
 have hHeld : w25.cell? ad118 = some (.string (rdOf ByteArray.empty t115 0)) ∧ w25.cell? ⟨ad118.block, ad118.off + 1, none⟩ = some (.string (rdOf ByteArray.empty t115 1)) ∧ w25.cell? ⟨ad118.block, ad118.off + 2, none⟩ = some (.string (rdOf ByteArray.empty t115 2)) ∧ w25.cell? ⟨ad118.block, ad118.off + 3, none⟩ = some (.string (rdOf ByteArray.empty t115 3)) ∧ w25.cell? ⟨ad118.block, ad118.off + 4, none⟩ = some (.string (rdOf ByteArray.empty t115 4)) := hS_
 refine norm_ (a' := ?_) ?_ ?_
 rotate_left
 ·simp only [putAll, Act.put, List.setIfInBounds_toArray, List.set_cons_zero, List.set_cons_succ]
  rfl
 refine one_ (i := 22) (N := none) #[true, true, true, true, true, true, true, true, true, true, true, true, true, true, true, true, true, true, true, true, true, true, true] rfl rfl (one_of HT_.out (by kernel_rfl)) (by decide) (fun K hK => ?_)
 have hs26 : w25.cell? ⟨gb128, 0, none⟩ = some (.int .i64 0) := (blk_cell BK128.out 0).trans rfl
 have hfs26 := blk_frozen BK128.out 0
 have hns26_0 := NB114_128.out
 have hms26_0 := NB128_114.out
 have hs27 : w25.cell? ⟨gb128, 1, none⟩ = some (.int .i64 0) := (blk_cell BK128.out 1).trans rfl
 have hfs27 := blk_frozen BK128.out 1
 have hns27_0 := NB114_128.out
 have hms27_0 := NB128_114.out
 have hs28 : w25.cell? ⟨gb128, 2, none⟩ = some (.int .i64 0) := (blk_cell BK128.out 2).trans rfl
 have hfs28 := blk_frozen BK128.out 2
 have hns28_0 := NB114_128.out
 have hms28_0 := NB128_114.out
 have hs29 : w25.cell? ⟨gb128, 3, none⟩ = some (.int .i64 0) := (blk_cell BK128.out 3).trans rfl
 have hfs29 := blk_frozen BK128.out 3
 have hns29_0 := NB114_128.out
 have hms29_0 := NB128_114.out
 have hs30 : w25.cell? ⟨gb128, 4, none⟩ = some (.int .i64 0) := (blk_cell BK128.out 4).trans rfl
 have hfs30 := blk_frozen BK128.out 4
 have hns30_0 := NB114_128.out
 have hms30_0 := NB128_114.out
 refine skip_ (w1 := ?_) (by rfl) rfl ?_ ?_
 rotate_left
 ·go_simp
  rfl
 refine hK.out _ _ ⟨((cell_far (p := ⟨gb128, _, none⟩) (by first | exact Kd.own_blk (Kd.R_ne HO117.out BK128.out (by decide)) | (rw [add_block]; exact Kd.own_blk (Kd.R_ne HO117.out BK128.out (by decide))) | (show (Addr.add _ _).block ≠ _; rw [add_block]; exact Kd.own_blk (Kd.R_ne HO117.out BK128.out (by decide))) | (dsimp only; exact Kd.own_blk (Kd.R_ne HO117.out BK128.out (by decide)))) _).trans (((cell_far (p := ⟨gb128, _, none⟩) (by first | exact Kd.own_blk (Kd.R_ne HO117.out BK128.out (by decide)) | (rw [add_block]; exact Kd.own_blk (Kd.R_ne HO117.out BK128.out (by decide))) | (show (Addr.add _ _).block ≠ _; rw [add_block]; exact Kd.own_blk (Kd.R_ne HO117.out BK128.out (by decide))) | (dsimp only; exact Kd.own_blk (Kd.R_ne HO117.out BK128.out (by decide)))) _).trans (((cell_far (p := ⟨gb128, _, none⟩) (by first | exact Kd.own_blk (Kd.R_ne HO117.out BK128.out (by decide)) | (rw [add_block]; exact Kd.own_blk (Kd.R_ne HO117.out BK128.out (by decide))) | (show (Addr.add _ _).block ≠ _; rw [add_block]; exact Kd.own_blk (Kd.R_ne HO117.out BK128.out (by decide))) | (dsimp only; exact Kd.own_blk (Kd.R_ne HO117.out BK128.out (by decide)))) _).trans (((cell_far (p := ⟨gb128, _, none⟩) (by first | exact Kd.own_blk (Kd.R_ne HO117.out BK128.out (by decide)) | (rw [add_block]; exact Kd.own_blk (Kd.R_ne HO117.out BK128.out (by decide))) | (show (Addr.add _ _).block ≠ _; rw [add_block]; exact Kd.own_blk (Kd.R_ne HO117.out BK128.out (by decide))) | (dsimp only; exact Kd.own_blk (Kd.R_ne HO117.out BK128.out (by decide)))) _).trans (((cell_far (p := ⟨gb128, _, none⟩) (by first | exact Kd.own_blk (Kd.R_ne HO117.out BK128.out (by decide)) | (rw [add_block]; exact Kd.own_blk (Kd.R_ne HO117.out BK128.out (by decide))) | (show (Addr.add _ _).block ≠ _; rw [add_block]; exact Kd.own_blk (Kd.R_ne HO117.out BK128.out (by decide))) | (dsimp only; exact Kd.own_blk (Kd.R_ne HO117.out BK128.out (by decide)))) _).trans (hHeld.1)))))))))), ((cell_far (p := ⟨gb128, _, none⟩) (by first | exact Kd.own_blk (Kd.R_ne HO117.out BK128.out (by decide)) | (rw [add_block]; exact Kd.own_blk (Kd.R_ne HO117.out BK128.out (by decide))) | (show (Addr.add _ _).block ≠ _; rw [add_block]; exact Kd.own_blk (Kd.R_ne HO117.out BK128.out (by decide))) | (dsimp only; exact Kd.own_blk (Kd.R_ne HO117.out BK128.out (by decide)))) _).trans (((cell_far (p := ⟨gb128, _, none⟩) (by first | exact Kd.own_blk (Kd.R_ne HO117.out BK128.out (by decide)) | (rw [add_block]; exact Kd.own_blk (Kd.R_ne HO117.out BK128.out (by decide))) | (show (Addr.add _ _).block ≠ _; rw [add_block]; exact Kd.own_blk (Kd.R_ne HO117.out BK128.out (by decide))) | (dsimp only; exact Kd.own_blk (Kd.R_ne HO117.out BK128.out (by decide)))) _).trans (((cell_far (p := ⟨gb128, _, none⟩) (by first | exact Kd.own_blk (Kd.R_ne HO117.out BK128.out (by decide)) | (rw [add_block]; exact Kd.own_blk (Kd.R_ne HO117.out BK128.out (by decide))) | (show (Addr.add _ _).block ≠ _; rw [add_block]; exact Kd.own_blk (Kd.R_ne HO117.out BK128.out (by decide))) | (dsimp only; exact Kd.own_blk (Kd.R_ne HO117.out BK128.out (by decide)))) _).trans (((cell_far (p := ⟨gb128, _, none⟩) (by first | exact Kd.own_blk (Kd.R_ne HO117.out BK128.out (by decide)) | (rw [add_block]; exact Kd.own_blk (Kd.R_ne HO117.out BK128.out (by decide))) | (show (Addr.add _ _).block ≠ _; rw [add_block]; exact Kd.own_blk (Kd.R_ne HO117.out BK128.out (by decide))) | (dsimp only; exact Kd.own_blk (Kd.R_ne HO117.out BK128.out (by decide)))) _).trans (((cell_far (p := ⟨gb128, _, none⟩) (by first | exact Kd.own_blk (Kd.R_ne HO117.out BK128.out (by decide)) | (rw [add_block]; exact Kd.own_blk (Kd.R_ne HO117.out BK128.out (by decide))) | (show (Addr.add _ _).block ≠ _; rw [add_block]; exact Kd.own_blk (Kd.R_ne HO117.out BK128.out (by decide))) | (dsimp only; exact Kd.own_blk (Kd.R_ne HO117.out BK128.out (by decide)))) _).trans (hHeld.2.1)))))))))), ((cell_far (p := ⟨gb128, _, none⟩) (by first | exact Kd.own_blk (Kd.R_ne HO117.out BK128.out (by decide)) | (rw [add_block]; exact Kd.own_blk (Kd.R_ne HO117.out BK128.out (by decide))) | (show (Addr.add _ _).block ≠ _; rw [add_block]; exact Kd.own_blk (Kd.R_ne HO117.out BK128.out (by decide))) | (dsimp only; exact Kd.own_blk (Kd.R_ne HO117.out BK128.out (by decide)))) _).trans (((cell_far (p := ⟨gb128, _, none⟩) (by first | exact Kd.own_blk (Kd.R_ne HO117.out BK128.out (by decide)) | (rw [add_block]; exact Kd.own_blk (Kd.R_ne HO117.out BK128.out (by decide))) | (show (Addr.add _ _).block ≠ _; rw [add_block]; exact Kd.own_blk (Kd.R_ne HO117.out BK128.out (by decide))) | (dsimp only; exact Kd.own_blk (Kd.R_ne HO117.out BK128.out (by decide)))) _).trans (((cell_far (p := ⟨gb128, _, none⟩) (by first | exact Kd.own_blk (Kd.R_ne HO117.out BK128.out (by decide)) | (rw [add_block]; exact Kd.own_blk (Kd.R_ne HO117.out BK128.out (by decide))) | (show (Addr.add _ _).block ≠ _; rw [add_block]; exact Kd.own_blk (Kd.R_ne HO117.out BK128.out (by decide))) | (dsimp only; exact Kd.own_blk (Kd.R_ne HO117.out BK128.out (by decide)))) _).trans (((cell_far (p := ⟨gb128, _, none⟩) (by first | exact Kd.own_blk (Kd.R_ne HO117.out BK128.out (by decide)) | (rw [add_block]; exact Kd.own_blk (Kd.R_ne HO117.out BK128.out (by decide))) | (show (Addr.add _ _).block ≠ _; rw [add_block]; exact Kd.own_blk (Kd.R_ne HO117.out BK128.out (by decide))) | (dsimp only; exact Kd.own_blk (Kd.R_ne HO117.out BK128.out (by decide)))) _).trans (((cell_far (p := ⟨gb128, _, none⟩) (by first | exact Kd.own_blk (Kd.R_ne HO117.out BK128.out (by decide)) | (rw [add_block]; exact Kd.own_blk (Kd.R_ne HO117.out BK128.out (by decide))) | (show (Addr.add _ _).block ≠ _; rw [add_block]; exact Kd.own_blk (Kd.R_ne HO117.out BK128.out (by decide))) | (dsimp only; exact Kd.own_blk (Kd.R_ne HO117.out BK128.out (by decide)))) _).trans (hHeld.2.2.1)))))))))), ((cell_far (p := ⟨gb128, _, none⟩) (by first | exact Kd.own_blk (Kd.R_ne HO117.out BK128.out (by decide)) | (rw [add_block]; exact Kd.own_blk (Kd.R_ne HO117.out BK128.out (by decide))) | (show (Addr.add _ _).block ≠ _; rw [add_block]; exact Kd.own_blk (Kd.R_ne HO117.out BK128.out (by decide))) | (dsimp only; exact Kd.own_blk (Kd.R_ne HO117.out BK128.out (by decide)))) _).trans (((cell_far (p := ⟨gb128, _, none⟩) (by first | exact Kd.own_blk (Kd.R_ne HO117.out BK128.out (by decide)) | (rw [add_block]; exact Kd.own_blk (Kd.R_ne HO117.out BK128.out (by decide))) | (show (Addr.add _ _).block ≠ _; rw [add_block]; exact Kd.own_blk (Kd.R_ne HO117.out BK128.out (by decide))) | (dsimp only; exact Kd.own_blk (Kd.R_ne HO117.out BK128.out (by decide)))) _).trans (((cell_far (p := ⟨gb128, _, none⟩) (by first | exact Kd.own_blk (Kd.R_ne HO117.out BK128.out (by decide)) | (rw [add_block]; exact Kd.own_blk (Kd.R_ne HO117.out BK128.out (by decide))) | (show (Addr.add _ _).block ≠ _; rw [add_block]; exact Kd.own_blk (Kd.R_ne HO117.out BK128.out (by decide))) | (dsimp only; exact Kd.own_blk (Kd.R_ne HO117.out BK128.out (by decide)))) _).trans (((cell_far (p := ⟨gb128, _, none⟩) (by first | exact Kd.own_blk (Kd.R_ne HO117.out BK128.out (by decide)) | (rw [add_block]; exact Kd.own_blk (Kd.R_ne HO117.out BK128.out (by decide))) | (show (Addr.add _ _).block ≠ _; rw [add_block]; exact Kd.own_blk (Kd.R_ne HO117.out BK128.out (by decide))) | (dsimp only; exact Kd.own_blk (Kd.R_ne HO117.out BK128.out (by decide)))) _).trans (((cell_far (p := ⟨gb128, _, none⟩) (by first | exact Kd.own_blk (Kd.R_ne HO117.out BK128.out (by decide)) | (rw [add_block]; exact Kd.own_blk (Kd.R_ne HO117.out BK128.out (by decide))) | (show (Addr.add _ _).block ≠ _; rw [add_block]; exact Kd.own_blk (Kd.R_ne HO117.out BK128.out (by decide))) | (dsimp only; exact Kd.own_blk (Kd.R_ne HO117.out BK128.out (by decide)))) _).trans (hHeld.2.2.2.1)))))))))), ((cell_far (p := ⟨gb128, _, none⟩) (by first | exact Kd.own_blk (Kd.R_ne HO117.out BK128.out (by decide)) | (rw [add_block]; exact Kd.own_blk (Kd.R_ne HO117.out BK128.out (by decide))) | (show (Addr.add _ _).block ≠ _; rw [add_block]; exact Kd.own_blk (Kd.R_ne HO117.out BK128.out (by decide))) | (dsimp only; exact Kd.own_blk (Kd.R_ne HO117.out BK128.out (by decide)))) _).trans (((cell_far (p := ⟨gb128, _, none⟩) (by first | exact Kd.own_blk (Kd.R_ne HO117.out BK128.out (by decide)) | (rw [add_block]; exact Kd.own_blk (Kd.R_ne HO117.out BK128.out (by decide))) | (show (Addr.add _ _).block ≠ _; rw [add_block]; exact Kd.own_blk (Kd.R_ne HO117.out BK128.out (by decide))) | (dsimp only; exact Kd.own_blk (Kd.R_ne HO117.out BK128.out (by decide)))) _).trans (((cell_far (p := ⟨gb128, _, none⟩) (by first | exact Kd.own_blk (Kd.R_ne HO117.out BK128.out (by decide)) | (rw [add_block]; exact Kd.own_blk (Kd.R_ne HO117.out BK128.out (by decide))) | (show (Addr.add _ _).block ≠ _; rw [add_block]; exact Kd.own_blk (Kd.R_ne HO117.out BK128.out (by decide))) | (dsimp only; exact Kd.own_blk (Kd.R_ne HO117.out BK128.out (by decide)))) _).trans (((cell_far (p := ⟨gb128, _, none⟩) (by first | exact Kd.own_blk (Kd.R_ne HO117.out BK128.out (by decide)) | (rw [add_block]; exact Kd.own_blk (Kd.R_ne HO117.out BK128.out (by decide))) | (show (Addr.add _ _).block ≠ _; rw [add_block]; exact Kd.own_blk (Kd.R_ne HO117.out BK128.out (by decide))) | (dsimp only; exact Kd.own_blk (Kd.R_ne HO117.out BK128.out (by decide)))) _).trans (((cell_far (p := ⟨gb128, _, none⟩) (by first | exact Kd.own_blk (Kd.R_ne HO117.out BK128.out (by decide)) | (rw [add_block]; exact Kd.own_blk (Kd.R_ne HO117.out BK128.out (by decide))) | (show (Addr.add _ _).block ≠ _; rw [add_block]; exact Kd.own_blk (Kd.R_ne HO117.out BK128.out (by decide))) | (dsimp only; exact Kd.own_blk (Kd.R_ne HO117.out BK128.out (by decide)))) _).trans (hHeld.2.2.2.2))))))))))⟩ (fun hHeld => ?_)
 clear hK K
 refine done_ (done_of HT_.out (by kernel_rfl)) ?_
 go_upto_region 5 with (fail)
 go_cut [57] (fun v57 wc => ∃ (kq : Nat) (x57_13 : Bool), v57 = .bool x57_13 ∧ Aside0 (spec_EventRead.j0 kq x57_13 t119 t121 t123 t125 t127 = some (r1, r2, r3, r4, r5, r6)) ∧ Aside0 (kq ≤ k) ∧ Aside0 (wc.heap[gb114]? = some (.cells #[.int .i64 0, .int .i64 0, .int .i64 0, .int .i64 0, .int .i64 0] 23 (0, 0))) ∧ Aside0 (wc.heap[gb128]? = some (.cells #[.int .i64 t119, .int .i64 t121, .int .i64 t123, .int .i64 t125, .int .i64 t127] 23 (0, 0))) ∧ Aside0 (Below w.heap.size w wc))
 case first =>
  have H := HC14.out
  clear HC14
  replace H := Option.bind_eq_some_iff.mp H
  obtain ⟨t129, A310, H⟩ := H
  replace H : (if t129 = true then ((spec_l1In.f t121 0 99).bind fun t130 => (if t130 = true then (if t123 < (-1) then (spec_EventRead.j0 k true t119 t121 t123 t125 t127) else (if t125 < (-1) then (spec_EventRead.j0 k true t119 t121 t123 t125 t127) else (spec_EventRead.j0 k (decide (t127 < (-1))) t119 t121 t123 t125 t127))) else (spec_EventRead.j0 k true t119 t121 t123 t125 t127))) else (spec_EventRead.j0 k true t119 t121 t123 t125 t127)) = some (r1, r2, r3, r4, r5, r6) := H
  have A31 := Aside0.mk A310
  clear A310
  by_cases c32 : t129 = true
  rotate_left
  ·replace c32 := Bool.eq_false_iff.mpr c32
   subst c32
   have H1 : (spec_EventRead.j0 k true t119 t121 t123 t125 t127) = some (r1, r2, r3, r4, r5, r6) := by rw [if_neg (show ¬ (false = true) by decide)] at H; exact H
   clear H
   have H := H1
   clear H1
   have H' := Aside0.mk H
   clear H
   have hnb45 := NB128_114.out
   have hnc45 := NB114_128.out
   obtain ⟨hcz46_0, hcz46_1, hcz46_2, hcz46_3, hcz46_4, hfz46_0, hfz46_1, hfz46_2, hfz46_3, hfz46_4⟩ := zc2_5 (w := w25) BK128.out
   go_wp2_with (first | ((with_reducible refine gate_callee (f := 15) rfl ?_); refine goesL_ (some 35) rfl rfl Tryd.func15 (by kernel_rfl) rfl #[.int .i64 t119, .int .i64 0, .int .i64 99] rfl zT2 ?_; (with_reducible refine (spec_l1In.calls t119 0 99 false _ A31.out).mono ?_); rintro e w' ⟨rfl, ⟨nd, rfl⟩⟩; refine ⟨_, rfl, ?_⟩))
   go_meet
   case rel => exact ⟨_, (true), (by first | rfl | (simp; done) | (simp [*]; done)), H', ⟨by first | omega | exact Nat.le_refl _⟩, ⟨by refine zP2 ?_; refine blk_far ?_ NB114_128.out _; refine zP2 ?_; refine blk_far ?_ NB114_128.out _; refine zP2 ?_; refine blk_far ?_ NB114_128.out _; refine zP2 ?_; refine blk_far ?_ NB114_128.out _; refine zP2 ?_; refine blk_far ?_ NB114_128.out _; refine zP2 ?_; exact BK114.out⟩, ⟨by refine zP2 ?_; refine blk_put (cs := #[.int .i64 t119, .int .i64 t121, .int .i64 t123, .int .i64 t125, .int .i64 0]) ?_ 4 _ rfl; refine zP2 ?_; refine blk_put (cs := #[.int .i64 t119, .int .i64 t121, .int .i64 t123, .int .i64 0, .int .i64 0]) ?_ 3 _ rfl; refine zP2 ?_; refine blk_put (cs := #[.int .i64 t119, .int .i64 t121, .int .i64 0, .int .i64 0, .int .i64 0]) ?_ 2 _ rfl; refine zP2 ?_; refine blk_put (cs := #[.int .i64 t119, .int .i64 0, .int .i64 0, .int .i64 0, .int .i64 0]) ?_ 1 _ rfl; refine zP2 ?_; refine blk_put (cs := #[.int .i64 0, .int .i64 0, .int .i64 0, .int .i64 0, .int .i64 0]) ?_ 0 _ rfl; refine zP2 ?_; exact BK128.out⟩, ⟨zB2_2⟩⟩
  subst c32
  have H1 : ((spec_l1In.f t121 0 99).bind fun t130 => (if t130 = true then (if t123 < (-1) then (spec_EventRead.j0 k true t119 t121 t123 t125 t127) else (if t125 < (-1) then (spec_EventRead.j0 k true t119 t121 t123 t125 t127) else (spec_EventRead.j0 k (decide (t127 < (-1))) t119 t121 t123 t125 t127))) else (spec_EventRead.j0 k true t119 t121 t123 t125 t127))) = some (r1, r2, r3, r4, r5, r6) := by rw [if_pos rfl] at H; exact H
  clear H
  have H := H1
  clear H1
  replace H := Option.bind_eq_some_iff.mp H
  obtain ⟨t130, A330, H⟩ := H
  replace H : (if t130 = true then (if t123 < (-1) then (spec_EventRead.j0 k true t119 t121 t123 t125 t127) else (if t125 < (-1) then (spec_EventRead.j0 k true t119 t121 t123 t125 t127) else (spec_EventRead.j0 k (decide (t127 < (-1))) t119 t121 t123 t125 t127))) else (spec_EventRead.j0 k true t119 t121 t123 t125 t127)) = some (r1, r2, r3, r4, r5, r6) := H
  have A33 := Aside0.mk A330
  clear A330
  by_cases c34 : t130 = true
  rotate_left
  ·replace c34 := Bool.eq_false_iff.mpr c34
   subst c34
   have H1 : (spec_EventRead.j0 k true t119 t121 t123 t125 t127) = some (r1, r2, r3, r4, r5, r6) := by rw [if_neg (show ¬ (false = true) by decide)] at H; exact H
   clear H
   have H := H1
   clear H1
   have H' := Aside0.mk H
   clear H
   have hnb43 := NB128_114.out
   have hnc43 := NB114_128.out
   obtain ⟨hcz44_0, hcz44_1, hcz44_2, hcz44_3, hcz44_4, hfz44_0, hfz44_1, hfz44_2, hfz44_3, hfz44_4⟩ := zc2_5 (w := w25) BK128.out
   go_wp2_with (first | ((with_reducible refine gate_callee (f := 15) rfl ?_); refine goesL_ (some 35) rfl rfl Tryd.func15 (by kernel_rfl) rfl #[.int .i64 t119, .int .i64 0, .int .i64 99] rfl zT2 ?_; (with_reducible refine (spec_l1In.calls t119 0 99 true _ A31.out).mono ?_); rintro e w' ⟨rfl, ⟨nd, rfl⟩⟩; refine ⟨_, rfl, ?_⟩) | (go_at_call 15; (with_reducible refine (spec_l1In.calls t121 0 99 false _ A33.out).mono ?_); rintro e w' ⟨rfl, ⟨nd, rfl⟩⟩))
   go_meet
   case rel => exact ⟨_, (true), (by first | rfl | (simp; done) | (simp [*]; done)), H', ⟨by first | omega | exact Nat.le_refl _⟩, ⟨by refine zP2 ?_; refine blk_far ?_ NB114_128.out _; refine zP2 ?_; refine blk_far ?_ NB114_128.out _; refine zP2 ?_; refine blk_far ?_ NB114_128.out _; refine zP2 ?_; refine blk_far ?_ NB114_128.out _; refine zP2 ?_; refine blk_far ?_ NB114_128.out _; refine zP2 ?_; exact BK114.out⟩, ⟨by refine zP2 ?_; refine blk_put (cs := #[.int .i64 t119, .int .i64 t121, .int .i64 t123, .int .i64 t125, .int .i64 0]) ?_ 4 _ rfl; refine zP2 ?_; refine blk_put (cs := #[.int .i64 t119, .int .i64 t121, .int .i64 t123, .int .i64 0, .int .i64 0]) ?_ 3 _ rfl; refine zP2 ?_; refine blk_put (cs := #[.int .i64 t119, .int .i64 t121, .int .i64 0, .int .i64 0, .int .i64 0]) ?_ 2 _ rfl; refine zP2 ?_; refine blk_put (cs := #[.int .i64 t119, .int .i64 0, .int .i64 0, .int .i64 0, .int .i64 0]) ?_ 1 _ rfl; refine zP2 ?_; refine blk_put (cs := #[.int .i64 0, .int .i64 0, .int .i64 0, .int .i64 0, .int .i64 0]) ?_ 0 _ rfl; refine zP2 ?_; exact BK128.out⟩, ⟨zB2_2⟩⟩
  subst c34
  have H1 : (if t123 < (-1) then (spec_EventRead.j0 k true t119 t121 t123 t125 t127) else (if t125 < (-1) then (spec_EventRead.j0 k true t119 t121 t123 t125 t127) else (spec_EventRead.j0 k (decide (t127 < (-1))) t119 t121 t123 t125 t127))) = some (r1, r2, r3, r4, r5, r6) := by rw [if_pos rfl] at H; exact H
  clear H
  have H := H1
  clear H1
  by_cases c35 : t123 < (-1)
  ·rw [if_pos c35] at H
   have c35b0 : decide (t123 < (-1)) = true := decide_eq_true c35
   clear c35
   (first | rw [c35b0] | (simp only [i64_w, i32_w]; rw [c35b0]) | skip)
   have H' := Aside0.mk H
   clear H
   have hnb36 := NB128_114.out
   have hnc36 := NB114_128.out
   obtain ⟨hcz37_0, hcz37_1, hcz37_2, hcz37_3, hcz37_4, hfz37_0, hfz37_1, hfz37_2, hfz37_3, hfz37_4⟩ := zc2_5 (w := w25) BK128.out
   go_wp2_with (first | ((with_reducible refine gate_callee (f := 15) rfl ?_); refine goesL_ (some 35) rfl rfl Tryd.func15 (by kernel_rfl) rfl #[.int .i64 t119, .int .i64 0, .int .i64 99] rfl zT2 ?_; (with_reducible refine (spec_l1In.calls t119 0 99 true _ A31.out).mono ?_); rintro e w' ⟨rfl, ⟨nd, rfl⟩⟩; refine ⟨_, rfl, ?_⟩) | (go_at_call 15; (with_reducible refine (spec_l1In.calls t121 0 99 true _ A33.out).mono ?_); rintro e w' ⟨rfl, ⟨nd, rfl⟩⟩))
   go_meet
   case rel => exact ⟨_, (true), (by first | rfl | (simp; done) | (simp [*]; done)), H', ⟨by first | omega | exact Nat.le_refl _⟩, ⟨by refine zP2 ?_; refine blk_far ?_ NB114_128.out _; refine zP2 ?_; refine blk_far ?_ NB114_128.out _; refine zP2 ?_; refine blk_far ?_ NB114_128.out _; refine zP2 ?_; refine blk_far ?_ NB114_128.out _; refine zP2 ?_; refine blk_far ?_ NB114_128.out _; refine zP2 ?_; exact BK114.out⟩, ⟨by refine zP2 ?_; refine blk_put (cs := #[.int .i64 t119, .int .i64 t121, .int .i64 t123, .int .i64 t125, .int .i64 0]) ?_ 4 _ rfl; refine zP2 ?_; refine blk_put (cs := #[.int .i64 t119, .int .i64 t121, .int .i64 t123, .int .i64 0, .int .i64 0]) ?_ 3 _ rfl; refine zP2 ?_; refine blk_put (cs := #[.int .i64 t119, .int .i64 t121, .int .i64 0, .int .i64 0, .int .i64 0]) ?_ 2 _ rfl; refine zP2 ?_; refine blk_put (cs := #[.int .i64 t119, .int .i64 0, .int .i64 0, .int .i64 0, .int .i64 0]) ?_ 1 _ rfl; refine zP2 ?_; refine blk_put (cs := #[.int .i64 0, .int .i64 0, .int .i64 0, .int .i64 0, .int .i64 0]) ?_ 0 _ rfl; refine zP2 ?_; exact BK128.out⟩, ⟨zB2_2⟩⟩
  rw [if_neg c35] at H
  have c35b0 : decide (t123 < (-1)) = false := decide_eq_false c35
  clear c35
  (first | rw [c35b0] | (simp only [i64_w, i32_w]; rw [c35b0]) | skip)
  by_cases c38 : t125 < (-1)
  ·rw [if_pos c38] at H
   have c38b0 : decide (t125 < (-1)) = true := decide_eq_true c38
   clear c38
   have H' := Aside0.mk H
   clear H
   have hnb39 := NB128_114.out
   have hnc39 := NB114_128.out
   obtain ⟨hcz40_0, hcz40_1, hcz40_2, hcz40_3, hcz40_4, hfz40_0, hfz40_1, hfz40_2, hfz40_3, hfz40_4⟩ := zc2_5 (w := w25) BK128.out
   go_wp2_with (first | ((with_reducible refine gate_callee (f := 15) rfl ?_); refine goesL_ (some 35) rfl rfl Tryd.func15 (by kernel_rfl) rfl #[.int .i64 t119, .int .i64 0, .int .i64 99] rfl zT2 ?_; (with_reducible refine (spec_l1In.calls t119 0 99 true _ A31.out).mono ?_); rintro e w' ⟨rfl, ⟨nd, rfl⟩⟩; refine ⟨_, rfl, ?_⟩) | (go_at_call 15; (with_reducible refine (spec_l1In.calls t121 0 99 true _ A33.out).mono ?_); rintro e w' ⟨rfl, ⟨nd, rfl⟩⟩))
   go_meet
   case rel => exact ⟨_, (true), (by first | rfl | (simp; done) | (simp [*]; done)), H', ⟨by first | omega | exact Nat.le_refl _⟩, ⟨by refine zP2 ?_; refine blk_far ?_ NB114_128.out _; refine zP2 ?_; refine blk_far ?_ NB114_128.out _; refine zP2 ?_; refine blk_far ?_ NB114_128.out _; refine zP2 ?_; refine blk_far ?_ NB114_128.out _; refine zP2 ?_; refine blk_far ?_ NB114_128.out _; refine zP2 ?_; exact BK114.out⟩, ⟨by refine zP2 ?_; refine blk_put (cs := #[.int .i64 t119, .int .i64 t121, .int .i64 t123, .int .i64 t125, .int .i64 0]) ?_ 4 _ rfl; refine zP2 ?_; refine blk_put (cs := #[.int .i64 t119, .int .i64 t121, .int .i64 t123, .int .i64 0, .int .i64 0]) ?_ 3 _ rfl; refine zP2 ?_; refine blk_put (cs := #[.int .i64 t119, .int .i64 t121, .int .i64 0, .int .i64 0, .int .i64 0]) ?_ 2 _ rfl; refine zP2 ?_; refine blk_put (cs := #[.int .i64 t119, .int .i64 0, .int .i64 0, .int .i64 0, .int .i64 0]) ?_ 1 _ rfl; refine zP2 ?_; refine blk_put (cs := #[.int .i64 0, .int .i64 0, .int .i64 0, .int .i64 0, .int .i64 0]) ?_ 0 _ rfl; refine zP2 ?_; exact BK128.out⟩, ⟨zB2_2⟩⟩
  rw [if_neg c38] at H
  have c38b0 : decide (t125 < (-1)) = false := decide_eq_false c38
  clear c38
  have H' := Aside0.mk H
  clear H
  have hnb41 := NB128_114.out
  have hnc41 := NB114_128.out
  obtain ⟨hcz42_0, hcz42_1, hcz42_2, hcz42_3, hcz42_4, hfz42_0, hfz42_1, hfz42_2, hfz42_3, hfz42_4⟩ := zc2_5 (w := w25) BK128.out
  go_wp2_with (first | ((with_reducible refine gate_callee (f := 15) rfl ?_); refine goesL_ (some 35) rfl rfl Tryd.func15 (by kernel_rfl) rfl #[.int .i64 t119, .int .i64 0, .int .i64 99] rfl zT2 ?_; (with_reducible refine (spec_l1In.calls t119 0 99 true _ A31.out).mono ?_); rintro e w' ⟨rfl, ⟨nd, rfl⟩⟩; refine ⟨_, rfl, ?_⟩) | (go_at_call 15; (with_reducible refine (spec_l1In.calls t121 0 99 true _ A33.out).mono ?_); rintro e w' ⟨rfl, ⟨nd, rfl⟩⟩))
  go_meet
  case rel => exact ⟨_, (decide (t127 < (-1))), (by first | rfl | (simp; done) | (simp [*]; done)), H', ⟨by first | omega | exact Nat.le_refl _⟩, ⟨by refine zP2 ?_; refine blk_far ?_ NB114_128.out _; refine zP2 ?_; refine blk_far ?_ NB114_128.out _; refine zP2 ?_; refine blk_far ?_ NB114_128.out _; refine zP2 ?_; refine blk_far ?_ NB114_128.out _; refine zP2 ?_; refine blk_far ?_ NB114_128.out _; refine zP2 ?_; exact BK114.out⟩, ⟨by refine zP2 ?_; refine blk_put (cs := #[.int .i64 t119, .int .i64 t121, .int .i64 t123, .int .i64 t125, .int .i64 0]) ?_ 4 _ rfl; refine zP2 ?_; refine blk_put (cs := #[.int .i64 t119, .int .i64 t121, .int .i64 t123, .int .i64 0, .int .i64 0]) ?_ 3 _ rfl; refine zP2 ?_; refine blk_put (cs := #[.int .i64 t119, .int .i64 t121, .int .i64 0, .int .i64 0, .int .i64 0]) ?_ 2 _ rfl; refine zP2 ?_; refine blk_put (cs := #[.int .i64 t119, .int .i64 0, .int .i64 0, .int .i64 0, .int .i64 0]) ?_ 1 _ rfl; refine zP2 ?_; refine blk_put (cs := #[.int .i64 0, .int .i64 0, .int .i64 0, .int .i64 0, .int .i64 0]) ?_ 0 _ rfl; refine zP2 ?_; exact BK128.out⟩, ⟨zB2_2⟩⟩
 case rest =>
  clear HC14
  try clear c1
  try clear p2
  try clear c3
  try clear c4
  try clear c14
  try clear c15
  try clear c32
  try clear c34
  try clear c35
  try clear c35b0
  try clear c36
  try clear c38
  try clear c38b0
  try clear c39
  try clear c41
  try clear c43
  try clear c45
  try clear hcz37_0
  try clear hcz37_1
  try clear hcz37_2
  try clear hcz37_3
  try clear hcz37_4
  try clear hcz40_0
  try clear hcz40_1
  try clear hcz40_2
  try clear hcz40_3
  try clear hcz40_4
  try clear hcz42_0
  try clear hcz42_1
  try clear hcz42_2
  try clear hcz42_3
  try clear hcz42_4
  try clear hcz44_0
  try clear hcz44_1
  try clear hcz44_2
  try clear hcz44_3
  try clear hcz44_4
  try clear hcz46_0
  try clear hcz46_1
  try clear hcz46_2
  try clear hcz46_3
  try clear hcz46_4
  try clear hfz37_0
  try clear hfz37_1
  try clear hfz37_2
  try clear hfz37_3
  try clear hfz37_4
  try clear hfz40_0
  try clear hfz40_1
  try clear hfz40_2
  try clear hfz40_3
  try clear hfz40_4
  try clear hfz42_0
  try clear hfz42_1
  try clear hfz42_2
  try clear hfz42_3
  try clear hfz42_4
  try clear hfz44_0
  try clear hfz44_1
  try clear hfz44_2
  try clear hfz44_3
  try clear hfz44_4
  try clear hfz46_0
  try clear hfz46_1
  try clear hfz46_2
  try clear hfz46_3
  try clear hfz46_4
  obtain ⟨kq, x57_13, rfl, HA, HJ13, BK114, BK128, HB⟩ := hcut
  cases kq with
  | zero => exact absurd HA.out (by simp [spec_EventRead.j0])
  | succ kj13 =>
   have H := HA.out
   clear HA
   simp only [spec_EventRead.j0] at H
   by_cases c47 : x57_13 = true
   ·subst c47
    have H1 : (some (0, 0, 0, 0, 0, false)) = some (r1, r2, r3, r4, r5, r6) := by rw [if_pos rfl] at H; exact H
    clear H
    have H := H1
    clear H1
    simp only [Option.some.injEq, Prod.mk.injEq] at H
    obtain ⟨rfl, rfl, rfl, rfl, rfl, rfl⟩ := H
    have hnb48 := NB114_128.out
    have hnc48 := NB128_114.out
    obtain ⟨hcz49_0, hcz49_1, hcz49_2, hcz49_3, hcz49_4, hfz49_0, hfz49_1, hfz49_2, hfz49_3, hfz49_4⟩ := zc2_5 (w := wc) BK114.out
    go_wp2
    refine bodyPost_ret (results_ct rfl _ _ gb114 23 #[.int .i64 0, .int .i64 0, .int .i64 0, .int .i64 0, .int .i64 0] (0, 0) _ rfl (by refine zP2 ?_; refine blk_put (cs := #[.int .i64 0, .int .i64 0, .int .i64 0, .int .i64 0, .int .i64 0]) ?_ 4 _ rfl; refine zP2 ?_; refine blk_put (cs := #[.int .i64 0, .int .i64 0, .int .i64 0, .int .i64 0, .int .i64 0]) ?_ 3 _ rfl; refine zP2 ?_; refine blk_put (cs := #[.int .i64 0, .int .i64 0, .int .i64 0, .int .i64 0, .int .i64 0]) ?_ 2 _ rfl; refine zP2 ?_; refine blk_put (cs := #[.int .i64 0, .int .i64 0, .int .i64 0, .int .i64 0, .int .i64 0]) ?_ 1 _ rfl; refine zP2 ?_; refine blk_put (cs := #[.int .i64 0, .int .i64 0, .int .i64 0, .int .i64 0, .int .i64 0]) ?_ 0 _ rfl; refine zP2 ?_; exact BK114.out) Tryd.underlying23 rfl (by kernel_rfl)) rfl ?_
    exact ⟨zE2, zB2_2⟩
   replace c47 := Bool.eq_false_iff.mpr c47
   subst c47
   have H1 : (some (t119, t121, t123, t125, t127, true)) = some (r1, r2, r3, r4, r5, r6) := by rw [if_neg (show ¬ (false = true) by decide)] at H; exact H
   clear H
   have H := H1
   clear H1
   simp only [Option.some.injEq, Prod.mk.injEq] at H
   obtain ⟨rfl, rfl, rfl, rfl, rfl, rfl⟩ := H
   have hnb50 := NB128_114.out
   have hnc50 := NB114_128.out
   obtain ⟨hcz51_0, hcz51_1, hcz51_2, hcz51_3, hcz51_4, hfz51_0, hfz51_1, hfz51_2, hfz51_3, hfz51_4⟩ := zc2_5 (w := wc) BK128.out
   obtain ⟨hcz52_0, hcz52_1, hcz52_2, hcz52_3, hcz52_4, hfz52_0, hfz52_1, hfz52_2, hfz52_3, hfz52_4⟩ := zc2_5 (w := wc) BK114.out
   go_wp2
   refine bodyPost_ret (results_ct rfl _ _ gb114 23 #[.int .i64 t119, .int .i64 t121, .int .i64 t123, .int .i64 t125, .int .i64 t127] (0, 0) _ rfl (by refine zP2 ?_; refine blk_put (cs := #[.int .i64 t119, .int .i64 t121, .int .i64 t123, .int .i64 t125, .int .i64 0]) ?_ 4 _ rfl; refine zP2 ?_; refine blk_put (cs := #[.int .i64 t119, .int .i64 t121, .int .i64 t123, .int .i64 0, .int .i64 0]) ?_ 3 _ rfl; refine zP2 ?_; refine blk_put (cs := #[.int .i64 t119, .int .i64 t121, .int .i64 0, .int .i64 0, .int .i64 0]) ?_ 2 _ rfl; refine zP2 ?_; refine blk_put (cs := #[.int .i64 t119, .int .i64 0, .int .i64 0, .int .i64 0, .int .i64 0]) ?_ 1 _ rfl; refine zP2 ?_; refine blk_put (cs := #[.int .i64 0, .int .i64 0, .int .i64 0, .int .i64 0, .int .i64 0]) ?_ 0 _ rfl; refine zP2 ?_; exact BK114.out) Tryd.underlying23 rfl (by kernel_rfl)) rfl ?_
   exact ⟨zE2, zB2_2⟩

end Go.Proofs.YthmkclelkijhoaaDoor.PFnExactTraceRead
