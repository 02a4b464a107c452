-- made by wip/tools/myprint.py out of the seat's translation
import Derived.Test.YtmfhfnpinmlloaaPFnGoesx0
import Derived.Test.YtmfhfnpinmlloaaPFnGoesx5
import Derived.Test.YtmfhfnpinmlloaaPFnGoesx6
import Derived.Test.YtmfhfnpinmlloaaPFnGoesx7
import Derived.Test.YtmfhfnpinmlloaaPFnGoesx8
namespace Go.Proofs.Ytmfhfnpinmlloaa.PFnGoes
open Go.RowKit Go.Proofs.YtmfhfnpinmlloaaW.PrintWords Go.Proofs.YtmfhfnpinmlloaaW.PrintLast Go.Proofs.YtmfhfnpinmlloaaW.PrintMore
attribute [local go_sem] max2_int min2_int max_two min_two max_three min_three max_four min_four   -- for this text's walks alone
set_option linter.unusedVariables false
set_option linter.unusedSimpArgs false
theorem zc9_3 {w : World} {g : Nat} {a0 a1 a2 : Value} {t : TypeId} (h : w.heap[g]? = some (.cells #[a0, a1, a2] t (0, 0))) : w.cell? ⟨g, 0, none⟩ = some a0 ∧ w.cell? ⟨g, 1, none⟩ = some a1 ∧ w.cell? ⟨g, 2, none⟩ = some a2 ∧ w.frozen? ⟨g, 0, none⟩ = false ∧ w.frozen? ⟨g, 1, none⟩ = false ∧ w.frozen? ⟨g, 2, none⟩ = false := ⟨(blk_cell h 0).trans rfl, (blk_cell h 1).trans rfl, (blk_cell h 2).trans rfl, blk_frozen h 0, blk_frozen h 1, blk_frozen h 2⟩
theorem zc9_5 {w : World} {g : Nat} {a0 a1 a2 a3 a4 : Value} {t : TypeId} (h : w.heap[g]? = some (.cells #[a0, a1, a2, a3, a4] t (0, 0))) : w.cell? ⟨g, 0, none⟩ = some a0 ∧ w.cell? ⟨g, 1, none⟩ = some a1 ∧ w.cell? ⟨g, 2, none⟩ = some a2 ∧ w.cell? ⟨g, 3, none⟩ = some a3 ∧ w.cell? ⟨g, 4, none⟩ = some a4 ∧ w.frozen? ⟨g, 0, none⟩ = false ∧ w.frozen? ⟨g, 1, none⟩ = false ∧ w.frozen? ⟨g, 2, none⟩ = false ∧ w.frozen? ⟨g, 3, none⟩ = false ∧ w.frozen? ⟨g, 4, none⟩ = false := ⟨(blk_cell h 0).trans rfl, (blk_cell h 1).trans rfl, (blk_cell h 2).trans rfl, (blk_cell h 3).trans rfl, (blk_cell h 4).trans rfl, blk_frozen h 0, blk_frozen h 1, blk_frozen h 2, blk_frozen h 3, blk_frozen h 4⟩
theorem zR9 {p q : Prop} (x : q) (h : q → p := by intro h; (with_reducible repeat (first | apply Kd.R_alloc | apply Kd.R_drewN | apply Kd.R_drew)); exact h) : p := h x
theorem zK9 {p q : Prop} (x : q) (h : q → p := by intro h; (with_reducible repeat (first | refine blk_drewN ?_ _ | refine blk_drew ?_ | refine blk_alloc ?_ _)); exact h) : p := h x
theorem zA9 {p : Prop} [Decidable p] (h : decide p = true := by first | (with_reducible assumption) | assumption) : p := of_decide_eq_true h
theorem zT9 {p : Prop} (h : p := by (try simp only [List.map_toArray, List.map_cons, List.map_nil]); first | done | rfl | (simp only [List.length_drop, List.length_take]; rfl)) : p := h
theorem zC9 {p q : Prop} (x : q) (h : q → p := by intro h; repeat (first | exact h | (with_reducible refine Kd.C_alloc ?_ _) | (with_reducible refine Kd.C_drewN ?_ _) | (with_reducible refine Kd.C_drew ?_))) : p := h x
theorem zb9 {W w w1 : World} {g : Nat} {o : Obj} (x : W.heap[g]? = some o) (hb : Below w.heap.size w w1) (h : W.heap[g]? = some o → w.heap[g]? = some o := by intro h; (with_reducible repeat (first | refine blk_drewN ?_ _ | refine blk_drew ?_ | refine blk_alloc ?_ _)); exact h) : w1.heap[g]? = some o := blk_below (h x) hb
theorem zg9 {W w w1 : World} {g : Nat} {o : Obj} {row : Option Nat} (x : W.heap[g]? = some o) (hg : w.grownBy w1 row) (hne : some g ≠ row) (h : W.heap[g]? = some o → w.heap[g]? = some o := by intro h; (with_reducible repeat (first | refine blk_drewN ?_ _ | refine blk_drew ?_ | refine blk_alloc ?_ _)); exact h) : w1.heap[g]? = some o := blk_grown (h x) hg hne
theorem zn9 {W w : World} {g g' : Nat} {o : Obj} (x : W.heap[g]? = some o) (hg : g' = w.heap.size) (h : W.heap[g]? = some o → w.heap[g]? = some o := by intro h; (with_reducible repeat (first | refine blk_drewN ?_ _ | refine blk_drew ?_ | refine blk_alloc ?_ _)); exact h) : g ≠ g' := by rw [hg]; exact Nat.ne_of_lt (blk_lt (h x))
theorem zm9 {W w : World} {g g' : Nat} {o : Obj} (x : W.heap[g]? = some o) (hg : g' = w.heap.size) (h : W.heap[g]? = some o → w.heap[g]? = some o := by intro h; (with_reducible repeat (first | refine blk_drewN ?_ _ | refine blk_drew ?_ | refine blk_alloc ?_ _)); exact h) : g' ≠ g := by rw [hg]; exact Nat.ne_of_gt (blk_lt (h x))
theorem zP9 {p q : Prop} (x : q) (h : q → p := by intro h; (with_reducible repeat (first | refine blk_drewN ?_ _ | refine blk_drew ?_ | refine blk_alloc ?_ _)); exact h) : p := h x
theorem zV9 {a b : Act} (h : a = b := by simp only [Act.put, List.setIfInBounds_toArray, List.set_cons_zero, List.set_cons_succ, i64_w, i32_w]; rfl) : a = b := h
theorem zE9 {p : Prop} (h : p := by first | rfl | (simp [errW_none, errW_some] <;> rfl) | (simp [*, errW_none, errW_some] <;> rfl)) : p := h
theorem zB9_0 {p : Prop} (h : p := by repeat (first | (with_reducible first | exact HK.out | apply Kept.alloc | apply Kept.drewN | apply Kept.drew) | exact HK.out)) : p := h
theorem zB9_1 {p : Prop} (h : p := by repeat (first | (with_reducible first | exact HB.out | apply below_alloc | apply pw_below_drewN | apply below_drew1) | exact HB.out)) : p := h
theorem zB9_2 {p : Prop} (h : p := by repeat (first | (with_reducible first | exact HK.out | apply Kept.alloc | apply Kept.drewN | apply Kept.drew | refine Kept.setCell ?_ (.inr GW419.out) _) | exact HK.out)) : p := h
theorem zB9_3 {p : Prop} (h : p := by repeat (first | (with_reducible first | exact HB.out | apply below_alloc | apply pw_below_drewN | apply below_drew1 | refine below_set ?_ GE419.out) | exact HB.out)) : p := h
theorem zB9_4 {p : Prop} (h : p := by repeat (first | (with_reducible first | exact HK.out | apply Kept.alloc | apply Kept.drewN | apply Kept.drew | refine Kept.setCell ?_ (.inr GW419.out) _ | refine Kept.setCell ?_ (.inr GW420.out) _) | exact HK.out)) : p := h
theorem zB9_5 {p : Prop} (h : p := by repeat (first | (with_reducible first | exact HB.out | apply below_alloc | apply pw_below_drewN | apply below_drew1 | refine below_set ?_ GE419.out | refine below_set ?_ GE420.out) | exact HB.out)) : p := h
theorem zB9_6 {p : Prop} (h : p := by repeat (first | (with_reducible first | exact HK.out | apply Kept.alloc | apply Kept.drewN | apply Kept.drew | refine Kept.setCell ?_ (.inr GW419.out) _ | refine Kept.setCell ?_ (.inr GW420.out) _ | refine Kept.setCell ?_ (.inr GW428.out) _) | exact HK.out)) : p := h
theorem zB9_7 {p : Prop} (h : p := by repeat (first | (with_reducible first | exact HB.out | apply below_alloc | apply pw_below_drewN | apply below_drew1 | refine below_set ?_ GE419.out | refine below_set ?_ GE420.out | refine below_set ?_ GE428.out) | exact HB.out)) : p := h
theorem zB9_8 {p : Prop} (h : p := by repeat (first | (with_reducible first | exact HB.out | apply below_alloc | apply pw_below_drewN | apply below_drew1 | refine below_set ?_ GE437.out) | exact HB.out)) : p := h
theorem zB9_9 {p : Prop} (h : p := by repeat (first | (with_reducible first | exact HB.out | apply below_alloc | apply pw_below_drewN | apply below_drew1 | refine below_set ?_ GE437.out | refine below_set ?_ GE438.out) | exact HB.out)) : p := h

/-! ### impl_step: function 23 -/
def impl_step.f (k : Nat) (l0 : List Int) (l1_0 : List Int) (a1_1 : Int) (a1_2 : Int) : Option (List Int × Int × Int × List Int) := if 0 ≤ a1_1 then (if a1_1 < (l0.length : Int) then ((impl_Decode.f (rd l0 a1_1)).bind fun bt422 => ((impl_Target.f bt422.1 bt422.2.1 bt422.2.2.1 bt422.2.2.2.1 bt422.2.2.2.2.1 l1_0).bind fun t429 => (if t429 ≥ 0 then (if 0 ≤ t429 then (if t429 < (l0.length : Int) then ((impl_Work.f k l1_0 a1_1 a1_2 bt422.1 bt422.2.1 bt422.2.2.1 bt422.2.2.2.1 bt422.2.2.2.2.1 (rd l0 t429)).bind fun bt431 => (if bt431.2.2.2 ≥ 0 then (some (bt431.1, bt431.2.1, bt431.2.2.1, (l0.set (t429 : Int).toNat bt431.2.2.2))) else (some (bt431.1, bt431.2.1, bt431.2.2.1, l0)))) else (none)) else (none)) else ((impl_Work.f k l1_0 a1_1 a1_2 bt422.1 bt422.2.1 bt422.2.2.1 bt422.2.2.2.1 bt422.2.2.2.2.1 0).bind fun bt438 => (if bt438.2.2.2 ≥ 0 then (if 0 ≤ t429 then (if t429 < (l0.length : Int) then (some (bt438.1, bt438.2.1, bt438.2.2.1, (l0.set (t429 : Int).toNat bt438.2.2.2))) else (none)) else (none)) else (some (bt438.1, bt438.2.1, bt438.2.2.1, l0))))))) else (none)) else (none)
theorem impl_step.mono : ∀ a0 a1 a2 a3 k, LeO (impl_step.f k a0 a1 a2 a3) (impl_step.f (k + 1) a0 a1 a2 a3) := by
 intro a0 a1 a2 a3 k
 unfold impl_step.f
 repeat' first
   | (with_reducible exact impl_Work.mono _ _ _ _ _ _ _ _ _ _)
   | (with_reducible exact LeO.refl _)
   | (with_reducible exact LeO.none _)
   | (with_reducible refine LeO.ite ?_ ?_)
   | (with_reducible refine LeO.bind ?_ (fun _ => ?_))
   | exact impl_Work.mono _ _ _ _ _ _ _ _ _ _
   | exact LeO.none _
   | refine LeO.ite ?_ ?_
   | refine LeO.bind ?_ (fun _ => ?_)
set_option maxHeartbeats 8000000 in
set_option maxRecDepth 100000 in
theorem impl_step.calls (k : Nat) (P0_ : Nat → Prop) (u9000_ : Value) (l0 : List Int) (A1_0 : Option Addr) (c1_0 : Nat) (l1_0 : List Int) (a1_1 : Int) (a1_2 : Int) (r1 : List Int) (r2 : Int) (r3 : Int) (r4 : List Int) (w0 w : World) (hB : Below w0.heap.size w0 w) (ho0 : Kd.R (Kd.int .i64) 3 w w0.heap.size P0_ u9000_ l0) (hr1_0 : ∀ W_, Kept w W_ (fun k_ => P0_ k_) → Kd.C (Kd.int .i64) W_ A1_0 l1_0.length l1_0) (hc1_0 : l1_0.length ≤ c1_0) (h : impl_step.f k l0 l1_0 a1_1 a1_2 = some (r1, r2, r3, r4)) :
  Calls Try.prog 23 #[u9000_, .agg #[.slice A1_0 l1_0.length c1_0, .int .i64 a1_1, .int .i64 a1_2]] w fun e w' => ∃ v0_ : Value, e = .returned (.agg #[v0_, .int .i64 r2, .int .i64 r3]) ∧ Kd.R (Kd.int .i64) 3 w' w0.heap.size (fun k_ => (P0_ k_ ∨ w.heap.size ≤ k_) ∧ some k_ ≠ (u9000_ : Value).ownBlock) v0_ r1 ∧ Kd.R (Kd.int .i64) 3 w' w0.heap.size (fun k_ => (P0_ k_ ∨ w.heap.size ≤ k_)) u9000_ r4 ∧ Below w0.heap.size w0 w' ∧ Kept w w' (fun k_ => P0_ k_) := by
 have hu29 := Try.underlying29
 have hu41 := Try.underlying41
 have HO0 := Aside0.mk (show Kd.R (Kd.int .i64) 3 w w0.heap.size (fun k_ => (P0_ k_ ∨ w.heap.size ≤ k_)) u9000_ l0 from Kd.R_mono ho0 (fun k_ hk => (.inl hk)))
 have HR1_0 := Aside0.mk hr1_0
 have HC1_0 := Aside0.mk hc1_0
 clear hr1_0 hc1_0
 have HK := Aside0.mk (Kept.refl w (fun k_ => P0_ k_))
 have HW0 := Aside0.mk hB.size
 have HB := Aside0.mk hB
 clear hB
 have H : (if 0 ≤ a1_1 then (if a1_1 < (l0.length : Int) then ((impl_Decode.f (rd l0 a1_1)).bind fun bt422 => ((impl_Target.f bt422.1 bt422.2.1 bt422.2.2.1 bt422.2.2.2.1 bt422.2.2.2.2.1 l1_0).bind fun t429 => (if t429 ≥ 0 then (if 0 ≤ t429 then (if t429 < (l0.length : Int) then ((impl_Work.f k l1_0 a1_1 a1_2 bt422.1 bt422.2.1 bt422.2.2.1 bt422.2.2.2.1 bt422.2.2.2.2.1 (rd l0 t429)).bind fun bt431 => (if bt431.2.2.2 ≥ 0 then (some (bt431.1, bt431.2.1, bt431.2.2.1, (l0.set (t429 : Int).toNat bt431.2.2.2))) else (some (bt431.1, bt431.2.1, bt431.2.2.1, l0)))) else (none)) else (none)) else ((impl_Work.f k l1_0 a1_1 a1_2 bt422.1 bt422.2.1 bt422.2.2.1 bt422.2.2.2.1 bt422.2.2.2.2.1 0).bind fun bt438 => (if bt438.2.2.2 ≥ 0 then (if 0 ≤ t429 then (if t429 < (l0.length : Int) then (some (bt438.1, bt438.2.1, bt438.2.2.1, (l0.set (t429 : Int).toNat bt438.2.2.2))) else (none)) else (none)) else (some (bt438.1, bt438.2.1, bt438.2.2.1, l0))))))) else (none)) else (none)) = some (r1, r2, r3, r4) := h
 clear h
 by_cases c3 : 0 ≤ a1_1
 rotate_left
 ·rw [if_neg c3] at H
  exact absurd H (by simp)
 rw [if_pos c3] at H
 have c3b0 : decide (0 ≤ a1_1) = true := decide_eq_true c3
 clear c3
 by_cases c4 : a1_1 < (l0.length : Int)
 rotate_left
 ·rw [if_neg c4] at H
  exact absurd H (by simp)
 rw [if_pos c4] at H
 have c4b0 : decide (a1_1 < (l0.length : Int)) = true := decide_eq_true c4
 clear c4
 replace H := Option.bind_eq_some_iff.mp H
 obtain ⟨⟨t422, t423, t424, t425, t426, t427⟩, A50, H⟩ := H
 replace H : ((impl_Target.f t422 t423 t424 t425 t426 l1_0).bind fun t429 => (if t429 ≥ 0 then (if 0 ≤ t429 then (if t429 < (l0.length : Int) then ((impl_Work.f k l1_0 a1_1 a1_2 t422 t423 t424 t425 t426 (rd l0 t429)).bind fun bt431 => (if bt431.2.2.2 ≥ 0 then (some (bt431.1, bt431.2.1, bt431.2.2.1, (l0.set (t429 : Int).toNat bt431.2.2.2))) else (some (bt431.1, bt431.2.1, bt431.2.2.1, l0)))) else (none)) else (none)) else ((impl_Work.f k l1_0 a1_1 a1_2 t422 t423 t424 t425 t426 0).bind fun bt438 => (if bt438.2.2.2 ≥ 0 then (if 0 ≤ t429 then (if t429 < (l0.length : Int) then (some (bt438.1, bt438.2.1, bt438.2.2.1, (l0.set (t429 : Int).toNat bt438.2.2.2))) else (none)) else (none)) else (some (bt438.1, bt438.2.1, bt438.2.2.1, l0)))))) = some (r1, r2, r3, r4) := H
 have A5 := Aside0.mk A50
 clear A50
 replace H := Option.bind_eq_some_iff.mp H
 obtain ⟨t429, A60, H⟩ := H
 replace H : (if t429 ≥ 0 then (if 0 ≤ t429 then (if t429 < (l0.length : Int) then ((impl_Work.f k l1_0 a1_1 a1_2 t422 t423 t424 t425 t426 (rd l0 t429)).bind fun bt431 => (if bt431.2.2.2 ≥ 0 then (some (bt431.1, bt431.2.1, bt431.2.2.1, (l0.set (t429 : Int).toNat bt431.2.2.2))) else (some (bt431.1, bt431.2.1, bt431.2.2.1, l0)))) else (none)) else (none)) else ((impl_Work.f k l1_0 a1_1 a1_2 t422 t423 t424 t425 t426 0).bind fun bt438 => (if bt438.2.2.2 ≥ 0 then (if 0 ≤ t429 then (if t429 < (l0.length : Int) then (some (bt438.1, bt438.2.1, bt438.2.2.1, (l0.set (t429 : Int).toNat bt438.2.2.2))) else (none)) else (none)) else (some (bt438.1, bt438.2.1, bt438.2.2.1, l0))))) = some (r1, r2, r3, r4) := H
 have A6 := Aside0.mk A60
 clear A60
 by_cases c7 : t429 ≥ 0
 rotate_left
 ·rw [if_neg c7] at H
  have c7b0 : decide (0 ≤ t429) = false := decide_eq_false c7
  clear c7
  replace H := Option.bind_eq_some_iff.mp H
  obtain ⟨⟨t438, t441, t442, t443⟩, A530, H⟩ := H
  replace H : (if t443 ≥ 0 then (if 0 ≤ t429 then (if t429 < (l0.length : Int) then (some (t438, t441, t442, (l0.set (t429 : Int).toNat t443))) else (none)) else (none)) else (some (t438, t441, t442, l0))) = some (r1, r2, r3, r4) := H
  have A53 := Aside0.mk A530
  clear A530
  by_cases c54 : t443 ≥ 0
  rotate_left
  ·rw [if_neg c54] at H
   have c54b0 : decide (0 ≤ t443) = false := decide_eq_false c54
   clear c54
   simp only [Option.some.injEq, Prod.mk.injEq] at H
   obtain ⟨rfl, rfl, rfl, rfl⟩ := H
   go_enter Try.func23, Try.ntmps23
   go_wp2_with (first | ((with_reducible refine gate_dst (N := 3) rfl ?_); refine box_event ?hg (N := 3) ?hd (cs := #[.slice A1_0 l1_0.length c1_0, .int .i64 a1_1, .int .i64 a1_2]) (t := 29) ?hr ?_; (case hd => rfl); (case hg => rfl); (case hr => first | (go_simp; done) | (go_simp; rfl)); intro gb419 hg w80 hbox hb; have n0_ := Aside0.mk (Kd.R_below (zR9 HO0.out) hb); have n1_ := Aside0.mk (Kept.below (S := (fun k_ => P0_ k_)) (zB9_0) hb); have n2_ := Aside0.mk (below_step (zB9_1) hb); have n3_ := Aside0.mk (hbox); have n4_ := Aside0.mk ((by rw [hg]; exact (by first | exact HK.out.1 | exact (show Kept w _ (fun k_ => P0_ k_) from zB9_0).1) : w.heap.size ≤ gb419)); have n5_ := Aside0.mk ((by rw [hg]; exact (below_size (zB9_1)) : w0.heap.size ≤ gb419)); clear HO0; clear HK; clear HB; have HO0 := n0_; have HK := n1_; have HB := n2_; have BK419 := n3_; have GW419 := n4_; have GE419 := n5_; clear n0_ n1_ n2_ n3_ n4_ n5_; clear hb hbox hg) | ((with_reducible refine gate_dst (N := 4) rfl ?_); refine box_event ?hg (N := 4) ?hd (cs := #[.slice none 0 0, .int .i64 0, .int .i64 0]) (t := 29) ?hr ?_; (case hd => rfl); (case hg => rfl); (case hr => first | (go_simp; done) | (go_simp; rfl)); intro gb420 hg w81 hbox hb; have n0_ := Aside0.mk (Kd.R_below (zR9 HO0.out) hb); have n1_ := Aside0.mk (zb9 BK419.out hb); have n2_ := Aside0.mk (Kept.below (S := (fun k_ => P0_ k_)) (zB9_2) hb); have n3_ := Aside0.mk (below_step (zB9_3) hb); have n4_ := Aside0.mk (hbox); have n5_ := Aside0.mk ((by rw [hg]; exact (by first | exact HK.out.1 | exact (show Kept w _ (fun k_ => P0_ k_) from zB9_2).1) : w.heap.size ≤ gb420)); have n6_ := Aside0.mk ((by rw [hg]; exact (below_size (zB9_3)) : w0.heap.size ≤ gb420)); have n7_ := Aside0.mk ((zn9 BK419.out hg : gb419 ≠ gb420)); have n8_ := Aside0.mk ((zm9 BK419.out hg : gb420 ≠ gb419)); clear HO0; clear BK419; clear HK; clear HB; have HO0 := n0_; have BK419 := n1_; have HK := n2_; have HB := n3_; have BK420 := n4_; have GW420 := n5_; have GE420 := n6_; have NB419_420 := n7_; have NB420_419 := n8_; clear n0_ n1_ n2_ n3_ n4_ n5_ n6_ n7_ n8_; clear hb hbox hg; have hnb82 := NB419_420.out; have hnc82 := NB420_419.out; obtain ⟨hcz83_0, hcz83_1, hcz83_2, hfz83_0, hfz83_1, hfz83_2⟩ := zc9_3 (w := w81) BK419.out; obtain ⟨Ao84, co84, eo84⟩ := Kd.R_slice HO0.out; subst eo84; have p421 : 0 ≤ (a1_1 : Int) := zA9; have q421 : a1_1 < (l0.length : Int) := zA9; obtain ⟨ad421, e421, hx421_0⟩ := Kd.at_int (Kd.R_reads' HO0.out).2.2 a1_1 p421 q421; cases e421; replace p421 := eq_true p421; replace q421 := eq_true q421) | ((with_reducible refine gate_callee (f := 16) rfl ?_); refine goesL_ (some 16) rfl rfl Try.func16 (by kernel_rfl) rfl #[.int .i64 (rd l0 a1_1)] rfl zT9 ?_; (with_reducible refine (impl_Decode.calls (rd l0 a1_1) t422 t423 t424 t425 t426 t427 _ A5.out).mono ?_); rintro e w85 ⟨rfl, hb⟩; refine ⟨_, rfl, ?_⟩; have n0_ := Aside0.mk (Kd.R_below (zR9 HO0.out) hb); have n1_ := Aside0.mk (zb9 BK419.out hb); have n2_ := Aside0.mk (zb9 BK420.out hb); have n3_ := Aside0.mk (Kept.below (S := (fun k_ => P0_ k_)) (zB9_4) hb); have n4_ := Aside0.mk (below_step (zB9_5) hb); clear HO0; clear BK419; clear BK420; clear HK; clear HB; have HO0 := n0_; have BK419 := n1_; have BK420 := n2_; have HK := n3_; have HB := n4_; clear n0_ n1_ n2_ n3_ n4_; (try clear hb); (try clear hb2); (try clear hk); (try clear hi)) | ((with_reducible refine gate_dst (N := 5) rfl ?_); refine box_event ?hg (N := 5) ?hd (cs := #[.int .i64 0, .int .i64 0, .int .i64 0, .int .i64 0, .int .i64 0]) (t := 41) ?hr ?_; (case hd => rfl); (case hg => rfl); (case hr => first | (go_simp; done) | (go_simp; rfl)); intro gb428 hg w86 hbox hb; have n0_ := Aside0.mk (Kd.R_below (zR9 HO0.out) hb); have n1_ := Aside0.mk (zb9 BK419.out hb); have n2_ := Aside0.mk (zb9 BK420.out hb); have n3_ := Aside0.mk (Kept.below (S := (fun k_ => P0_ k_)) (zB9_4) hb); have n4_ := Aside0.mk (below_step (zB9_5) hb); have n5_ := Aside0.mk (hbox); have n6_ := Aside0.mk ((by rw [hg]; exact (by first | exact HK.out.1 | exact (show Kept w _ (fun k_ => P0_ k_) from zB9_4).1) : w.heap.size ≤ gb428)); have n7_ := Aside0.mk ((by rw [hg]; exact (below_size (zB9_5)) : w0.heap.size ≤ gb428)); have n8_ := Aside0.mk ((zn9 BK419.out hg : gb419 ≠ gb428)); have n9_ := Aside0.mk ((zm9 BK419.out hg : gb428 ≠ gb419)); have n10_ := Aside0.mk ((zn9 BK420.out hg : gb420 ≠ gb428)); have n11_ := Aside0.mk ((zm9 BK420.out hg : gb428 ≠ gb420)); clear HO0; clear BK419; clear BK420; clear HK; clear HB; have HO0 := n0_; have BK419 := n1_; have BK420 := n2_; have HK := n3_; have HB := n4_; have BK428 := n5_; have GW428 := n6_; have GE428 := n7_; have NB419_428 := n8_; have NB428_419 := n9_; have NB420_428 := n10_; have NB428_420 := n11_; clear n0_ n1_ n2_ n3_ n4_ n5_ n6_ n7_ n8_ n9_ n10_ n11_; clear hb hbox hg; have hnb87 := NB428_419.out; have hnc87 := NB419_428.out; have hnb88 := NB428_420.out; have hnc88 := NB420_428.out; obtain ⟨hcz89_0, hcz89_1, hcz89_2, hcz89_3, hcz89_4, hfz89_0, hfz89_1, hfz89_2, hfz89_3, hfz89_4⟩ := zc9_5 (w := w86) BK428.out; obtain ⟨hcz90_0, hcz90_1, hcz90_2, hfz90_0, hfz90_1, hfz90_2⟩ := zc9_3 (w := w86) BK419.out) | ((with_reducible refine gate_callee (f := 39) rfl ?_); refine goesL_ (some 22) rfl rfl Try.func39 (by kernel_rfl) rfl #[.agg #[.int .i64 t422, .int .i64 t423, .int .i64 t424, .int .i64 t425, .int .i64 t426], .slice A1_0 l1_0.length c1_0] rfl zT9 ?_; (with_reducible refine (impl_Target.calls t422 t423 t424 t425 t426 _ _ l1_0 t429 _ ?side1 ?side2 A6.out).mono ?_); (case side1 => exact Kd.C_kept_now HR1_0.out (zB9_6)); (case side2 => exact HC1_0.out); rintro e w91 ⟨rfl, hb⟩; refine ⟨_, rfl, ?_⟩; have n0_ := Aside0.mk (Kd.R_below (by (with_reducible repeat (first | apply Kd.R_alloc | apply Kd.R_drewN | apply Kd.R_drew)); exact (Kd.R_mono (Kd.R_far (p := ⟨gb428, 4, none⟩) (Kd.R_far (p := ⟨gb428, 3, none⟩) (Kd.R_far (p := ⟨gb428, 2, none⟩) (Kd.R_far (p := ⟨gb428, 1, none⟩) (Kd.R_far (p := ⟨gb428, 0, none⟩) (Kd.R_types HO0.out BK428.out (by decide)) (fun _ hk => hk.2) (.int .i64 t422)) (fun _ hk => hk.2) (.int .i64 t423)) (fun _ hk => hk.2) (.int .i64 t424)) (fun _ hk => hk.2) (.int .i64 t425)) (fun _ hk => hk.2) (.int .i64 t426)) (fun _ h_ => h_.1))) hb); have n1_ := Aside0.mk (blk_below (g := gb419) (o := .cells #[.slice A1_0 l1_0.length c1_0, .int .i64 a1_1, .int .i64 a1_2] 29 (0, 0)) (by refine zP9 ?_; refine blk_far ?_ NB419_428.out _; refine zP9 ?_; refine blk_far ?_ NB419_428.out _; refine zP9 ?_; refine blk_far ?_ NB419_428.out _; refine zP9 ?_; refine blk_far ?_ NB419_428.out _; refine zP9 ?_; refine blk_far ?_ NB419_428.out _; refine zP9 ?_; exact BK419.out) hb); have n2_ := Aside0.mk (blk_below (g := gb420) (o := .cells #[.slice none 0 0, .int .i64 0, .int .i64 0] 29 (0, 0)) (by refine zP9 ?_; refine blk_far ?_ NB420_428.out _; refine zP9 ?_; refine blk_far ?_ NB420_428.out _; refine zP9 ?_; refine blk_far ?_ NB420_428.out _; refine zP9 ?_; refine blk_far ?_ NB420_428.out _; refine zP9 ?_; refine blk_far ?_ NB420_428.out _; refine zP9 ?_; exact BK420.out) hb); have n3_ := Aside0.mk (blk_below (g := gb428) (o := .cells #[.int .i64 t422, .int .i64 t423, .int .i64 t424, .int .i64 t425, .int .i64 t426] 41 (0, 0)) (by refine zP9 ?_; refine blk_put (cs := #[.int .i64 t422, .int .i64 t423, .int .i64 t424, .int .i64 t425, .int .i64 0]) ?_ 4 _ rfl; refine zP9 ?_; refine blk_put (cs := #[.int .i64 t422, .int .i64 t423, .int .i64 t424, .int .i64 0, .int .i64 0]) ?_ 3 _ rfl; refine zP9 ?_; refine blk_put (cs := #[.int .i64 t422, .int .i64 t423, .int .i64 0, .int .i64 0, .int .i64 0]) ?_ 2 _ rfl; refine zP9 ?_; refine blk_put (cs := #[.int .i64 t422, .int .i64 0, .int .i64 0, .int .i64 0, .int .i64 0]) ?_ 1 _ rfl; refine zP9 ?_; refine blk_put (cs := #[.int .i64 0, .int .i64 0, .int .i64 0, .int .i64 0, .int .i64 0]) ?_ 0 _ rfl; refine zP9 ?_; exact BK428.out) hb); have n4_ := Aside0.mk (Kept.below (S := (fun k_ => P0_ k_)) (zB9_6) hb); have n5_ := Aside0.mk (below_step (zB9_7) hb); clear HO0; clear BK419; clear BK420; clear BK428; clear HK; clear HB; have HO0 := n0_; have BK419 := n1_; have BK420 := n2_; have BK428 := n3_; have HK := n4_; have HB := n5_; clear n0_ n1_ n2_ n3_ n4_ n5_; (try clear hb); (try clear hb2); (try clear hk); (try clear hi); obtain ⟨hcz92_0, hcz92_1, hcz92_2, hfz92_0, hfz92_1, hfz92_2⟩ := zc9_3 (w := w91) BK419.out; obtain ⟨hcz93_0, hcz93_1, hcz93_2, hcz93_3, hcz93_4, hfz93_0, hfz93_1, hfz93_2, hfz93_3, hfz93_4⟩ := zc9_5 (w := w91) BK428.out) | ((with_reducible refine gate_callee (f := 40) rfl ?_); refine goesL_ (some 33) rfl rfl Try.func40 (by kernel_rfl) rfl #[.agg #[.slice A1_0 l1_0.length c1_0, .int .i64 a1_1, .int .i64 a1_2], .agg #[.int .i64 t422, .int .i64 t423, .int .i64 t424, .int .i64 t425, .int .i64 t426], .int .i64 0] rfl zT9 ?_; (with_reducible refine (impl_Work.calls k _ _ l1_0 a1_1 a1_2 t422 t423 t424 t425 t426 0 t438 t441 t442 t443 _ ?side1 ?side2 A53.out).mono ?_); (case side1 => exact Kd.C_kept_now HR1_0.out (zB9_6)); (case side2 => exact HC1_0.out); rintro e w94 ⟨v439, rfl, ho0, hb⟩; refine ⟨_, rfl, ?_⟩; have n0_ := Aside0.mk (Kd.R_elder' (zR9 HO0.out) (Kd.R_base ho0) hb); have n1_ := Aside0.mk (Kd.R_lower (Kd.R_new' (Kd.R_newM (M := fun k_ => (P0_ k_ ∨ w.heap.size ≤ k_)) ho0 (by first | exact HK.out.1 | exact (show Kept w _ (fun k_ => P0_ k_) from zB9_6).1) (fun k_ h_ => .inr h_)) (Kd.R_lt (zR9 HO0.out))) (below_size (zB9_7))); have n2_ := Aside0.mk (zb9 BK419.out hb); have n3_ := Aside0.mk (zb9 BK420.out hb); have n4_ := Aside0.mk (zb9 BK428.out hb); have n5_ := Aside0.mk (Kept.below (S := (fun k_ => P0_ k_)) (zB9_6) hb); have n6_ := Aside0.mk (below_step (zB9_7) hb); clear HO0; clear BK419; clear BK420; clear BK428; clear HK; clear HB; have HO0 := n0_; have HO440 := n1_; have BK419 := n2_; have BK420 := n3_; have BK428 := n4_; have HK := n5_; have HB := n6_; clear n0_ n1_ n2_ n3_ n4_ n5_ n6_; (try clear hb); (try clear hb2); (try clear hk); (try clear hi); (try clear ho0); obtain ⟨Ao95, co95, eo95⟩ := Kd.R_slice HO440.out; subst eo95; obtain ⟨hcz96_0, hcz96_1, hcz96_2, hfz96_0, hfz96_1, hfz96_2⟩ := zc9_3 (w := w94) BK419.out; obtain ⟨hcz97_0, hcz97_1, hcz97_2, hfz97_0, hfz97_1, hfz97_2⟩ := zc9_3 (w := w94) BK420.out))
   refine bodyPost_ret (results_cell_row rfl _ _ gb420 29 #[.slice Ao95 t438.length co95, .int .i64 t441, .int .i64 t442] (0, 0) _ rfl (by refine zP9 ?_; refine blk_put (cs := #[.slice Ao95 t438.length co95, .int .i64 t441, .int .i64 0]) ?_ 2 _ rfl; refine zP9 ?_; refine blk_put (cs := #[.slice Ao95 t438.length co95, .int .i64 0, .int .i64 0]) ?_ 1 _ rfl; refine zP9 ?_; refine blk_put (cs := #[.slice none 0 0, .int .i64 0, .int .i64 0]) ?_ 0 _ rfl; refine zP9 ?_; refine blk_far ?_ NB420_419.out _; refine zP9 ?_; refine blk_far ?_ NB420_419.out _; refine zP9 ?_; refine blk_far ?_ NB420_419.out _; refine zP9 ?_; exact BK420.out) Try.underlying29 rfl (by kernel_rfl)) rfl ?_
   exact ⟨_, zE9, by (with_reducible repeat (first | apply Kd.R_alloc | apply Kd.R_drewN | apply Kd.R_drew)); exact Kd.R_mono (Kd.R_far (p := ⟨gb420, 2, none⟩) (Kd.R_far (p := ⟨gb420, 1, none⟩) (Kd.R_far (p := ⟨gb420, 0, none⟩) (Kd.R_far (p := ⟨gb419, 2, none⟩) (Kd.R_far (p := ⟨gb419, 1, none⟩) (Kd.R_far (p := ⟨gb419, 0, none⟩) (Kd.R_types (Kd.R_types HO440.out BK419.out (by decide)) BK420.out (by decide)) (fun _ hk => hk.1.2) (.slice Ao95 t438.length co95)) (fun _ hk => hk.1.2) (.int .i64 t441)) (fun _ hk => hk.1.2) (.int .i64 t442)) (fun _ hk => hk.2) (.slice Ao95 t438.length co95)) (fun _ hk => hk.2) (.int .i64 t441)) (fun _ hk => hk.2) (.int .i64 t442)) (fun _ hk => ⟨hk.1.1.1.1, hk.1.1.2⟩), by (with_reducible repeat (first | apply Kd.R_alloc | apply Kd.R_drewN | apply Kd.R_drew)); exact Kd.R_mono (Kd.R_far (p := ⟨gb420, 2, none⟩) (Kd.R_far (p := ⟨gb420, 1, none⟩) (Kd.R_far (p := ⟨gb420, 0, none⟩) (Kd.R_far (p := ⟨gb419, 2, none⟩) (Kd.R_far (p := ⟨gb419, 1, none⟩) (Kd.R_far (p := ⟨gb419, 0, none⟩) (Kd.R_types (Kd.R_types HO0.out BK419.out (by decide)) BK420.out (by decide)) (fun _ hk => hk.1.2) (.slice Ao95 t438.length co95)) (fun _ hk => hk.1.2) (.int .i64 t441)) (fun _ hk => hk.1.2) (.int .i64 t442)) (fun _ hk => hk.2) (.slice Ao95 t438.length co95)) (fun _ hk => hk.2) (.int .i64 t441)) (fun _ hk => hk.2) (.int .i64 t442)) (fun _ hk => hk.1.1.1), zB9_7, zB9_6⟩
  rw [if_pos c54] at H
  have c54b0 : decide (0 ≤ t443) = true := decide_eq_true c54
  clear c54
  by_cases c55 : 0 ≤ t429
  rotate_left
  ·rw [if_neg c55] at H
   exact absurd H (by simp)
  rw [if_pos c55] at H
  have c55b0 : decide (0 ≤ t429) = true := decide_eq_true c55
  clear c55
  by_cases c56 : t429 < (l0.length : Int)
  rotate_left
  ·rw [if_neg c56] at H
   exact absurd H (by simp)
  rw [if_pos c56] at H
  have c56b0 : decide (t429 < (l0.length : Int)) = true := decide_eq_true c56
  clear c56
  obtain ⟨y444, hy444⟩ : ∃ y_ : List Int, y_ = (l0.set (t429 : Int).toNat t443) := ⟨_, rfl⟩
  replace H : (some (t438, t441, t442, y444)) = some (r1, r2, r3, r4) := by first | (rw [hy444]; with_reducible exact H) | (have H2_ := (Option.bind_some _ _).symm.trans H; rw [hy444]; with_reducible exact H2_) | (have H2_ := (Option.bind_some _ _).symm.trans H; with_reducible exact H2_) | with_reducible exact H | (rw [hy444]; exact H) | exact H
  have Ny444 := Aside0.mk hy444
  clear hy444
  simp only [Option.some.injEq, Prod.mk.injEq] at H
  obtain ⟨rfl, rfl, rfl, rfl⟩ := H
  go_enter Try.func23, Try.ntmps23
  go_wp2_with (first | ((with_reducible refine gate_dst (N := 3) rfl ?_); refine box_event ?hg (N := 3) ?hd (cs := #[.slice A1_0 l1_0.length c1_0, .int .i64 a1_1, .int .i64 a1_2]) (t := 29) ?hr ?_; (case hd => rfl); (case hg => rfl); (case hr => first | (go_simp; done) | (go_simp; rfl)); intro gb419 hg w58 hbox hb; have n0_ := Aside0.mk (Kd.R_below (zR9 HO0.out) hb); have n1_ := Aside0.mk (Kept.below (S := (fun k_ => P0_ k_)) (zB9_0) hb); have n2_ := Aside0.mk (below_step (zB9_1) hb); have n3_ := Aside0.mk (hbox); have n4_ := Aside0.mk ((by rw [hg]; exact (by first | exact HK.out.1 | exact (show Kept w _ (fun k_ => P0_ k_) from zB9_0).1) : w.heap.size ≤ gb419)); have n5_ := Aside0.mk ((by rw [hg]; exact (below_size (zB9_1)) : w0.heap.size ≤ gb419)); clear HO0; clear HK; clear HB; have HO0 := n0_; have HK := n1_; have HB := n2_; have BK419 := n3_; have GW419 := n4_; have GE419 := n5_; clear n0_ n1_ n2_ n3_ n4_ n5_; clear hb hbox hg) | ((with_reducible refine gate_dst (N := 4) rfl ?_); refine box_event ?hg (N := 4) ?hd (cs := #[.slice none 0 0, .int .i64 0, .int .i64 0]) (t := 29) ?hr ?_; (case hd => rfl); (case hg => rfl); (case hr => first | (go_simp; done) | (go_simp; rfl)); intro gb420 hg w59 hbox hb; have n0_ := Aside0.mk (Kd.R_below (zR9 HO0.out) hb); have n1_ := Aside0.mk (zb9 BK419.out hb); have n2_ := Aside0.mk (Kept.below (S := (fun k_ => P0_ k_)) (zB9_2) hb); have n3_ := Aside0.mk (below_step (zB9_3) hb); have n4_ := Aside0.mk (hbox); have n5_ := Aside0.mk ((by rw [hg]; exact (by first | exact HK.out.1 | exact (show Kept w _ (fun k_ => P0_ k_) from zB9_2).1) : w.heap.size ≤ gb420)); have n6_ := Aside0.mk ((by rw [hg]; exact (below_size (zB9_3)) : w0.heap.size ≤ gb420)); have n7_ := Aside0.mk ((zn9 BK419.out hg : gb419 ≠ gb420)); have n8_ := Aside0.mk ((zm9 BK419.out hg : gb420 ≠ gb419)); clear HO0; clear BK419; clear HK; clear HB; have HO0 := n0_; have BK419 := n1_; have HK := n2_; have HB := n3_; have BK420 := n4_; have GW420 := n5_; have GE420 := n6_; have NB419_420 := n7_; have NB420_419 := n8_; clear n0_ n1_ n2_ n3_ n4_ n5_ n6_ n7_ n8_; clear hb hbox hg; have hnb60 := NB419_420.out; have hnc60 := NB420_419.out; obtain ⟨hcz61_0, hcz61_1, hcz61_2, hfz61_0, hfz61_1, hfz61_2⟩ := zc9_3 (w := w59) BK419.out; obtain ⟨Ao62, co62, eo62⟩ := Kd.R_slice HO0.out; subst eo62; have p421 : 0 ≤ (a1_1 : Int) := zA9; have q421 : a1_1 < (l0.length : Int) := zA9; obtain ⟨ad421, e421, hx421_0⟩ := Kd.at_int (Kd.R_reads' HO0.out).2.2 a1_1 p421 q421; cases e421; replace p421 := eq_true p421; replace q421 := eq_true q421) | ((with_reducible refine gate_callee (f := 16) rfl ?_); refine goesL_ (some 16) rfl rfl Try.func16 (by kernel_rfl) rfl #[.int .i64 (rd l0 a1_1)] rfl zT9 ?_; (with_reducible refine (impl_Decode.calls (rd l0 a1_1) t422 t423 t424 t425 t426 t427 _ A5.out).mono ?_); rintro e w63 ⟨rfl, hb⟩; refine ⟨_, rfl, ?_⟩; have n0_ := Aside0.mk (Kd.R_below (zR9 HO0.out) hb); have n1_ := Aside0.mk (zb9 BK419.out hb); have n2_ := Aside0.mk (zb9 BK420.out hb); have n3_ := Aside0.mk (Kept.below (S := (fun k_ => P0_ k_)) (zB9_4) hb); have n4_ := Aside0.mk (below_step (zB9_5) hb); clear HO0; clear BK419; clear BK420; clear HK; clear HB; have HO0 := n0_; have BK419 := n1_; have BK420 := n2_; have HK := n3_; have HB := n4_; clear n0_ n1_ n2_ n3_ n4_; (try clear hb); (try clear hb2); (try clear hk); (try clear hi)) | ((with_reducible refine gate_dst (N := 5) rfl ?_); refine box_event ?hg (N := 5) ?hd (cs := #[.int .i64 0, .int .i64 0, .int .i64 0, .int .i64 0, .int .i64 0]) (t := 41) ?hr ?_; (case hd => rfl); (case hg => rfl); (case hr => first | (go_simp; done) | (go_simp; rfl)); intro gb428 hg w64 hbox hb; have n0_ := Aside0.mk (Kd.R_below (zR9 HO0.out) hb); have n1_ := Aside0.mk (zb9 BK419.out hb); have n2_ := Aside0.mk (zb9 BK420.out hb); have n3_ := Aside0.mk (Kept.below (S := (fun k_ => P0_ k_)) (zB9_4) hb); have n4_ := Aside0.mk (below_step (zB9_5) hb); have n5_ := Aside0.mk (hbox); have n6_ := Aside0.mk ((by rw [hg]; exact (by first | exact HK.out.1 | exact (show Kept w _ (fun k_ => P0_ k_) from zB9_4).1) : w.heap.size ≤ gb428)); have n7_ := Aside0.mk ((by rw [hg]; exact (below_size (zB9_5)) : w0.heap.size ≤ gb428)); have n8_ := Aside0.mk ((zn9 BK419.out hg : gb419 ≠ gb428)); have n9_ := Aside0.mk ((zm9 BK419.out hg : gb428 ≠ gb419)); have n10_ := Aside0.mk ((zn9 BK420.out hg : gb420 ≠ gb428)); have n11_ := Aside0.mk ((zm9 BK420.out hg : gb428 ≠ gb420)); clear HO0; clear BK419; clear BK420; clear HK; clear HB; have HO0 := n0_; have BK419 := n1_; have BK420 := n2_; have HK := n3_; have HB := n4_; have BK428 := n5_; have GW428 := n6_; have GE428 := n7_; have NB419_428 := n8_; have NB428_419 := n9_; have NB420_428 := n10_; have NB428_420 := n11_; clear n0_ n1_ n2_ n3_ n4_ n5_ n6_ n7_ n8_ n9_ n10_ n11_; clear hb hbox hg; have hnb65 := NB428_419.out; have hnc65 := NB419_428.out; have hnb66 := NB428_420.out; have hnc66 := NB420_428.out; obtain ⟨hcz67_0, hcz67_1, hcz67_2, hcz67_3, hcz67_4, hfz67_0, hfz67_1, hfz67_2, hfz67_3, hfz67_4⟩ := zc9_5 (w := w64) BK428.out; obtain ⟨hcz68_0, hcz68_1, hcz68_2, hfz68_0, hfz68_1, hfz68_2⟩ := zc9_3 (w := w64) BK419.out) | ((with_reducible refine gate_callee (f := 39) rfl ?_); refine goesL_ (some 22) rfl rfl Try.func39 (by kernel_rfl) rfl #[.agg #[.int .i64 t422, .int .i64 t423, .int .i64 t424, .int .i64 t425, .int .i64 t426], .slice A1_0 l1_0.length c1_0] rfl zT9 ?_; (with_reducible refine (impl_Target.calls t422 t423 t424 t425 t426 _ _ l1_0 t429 _ ?side1 ?side2 A6.out).mono ?_); (case side1 => exact Kd.C_kept_now HR1_0.out (zB9_6)); (case side2 => exact HC1_0.out); rintro e w69 ⟨rfl, hb⟩; refine ⟨_, rfl, ?_⟩; have n0_ := Aside0.mk (Kd.R_below (by (with_reducible repeat (first | apply Kd.R_alloc | apply Kd.R_drewN | apply Kd.R_drew)); exact (Kd.R_mono (Kd.R_far (p := ⟨gb428, 4, none⟩) (Kd.R_far (p := ⟨gb428, 3, none⟩) (Kd.R_far (p := ⟨gb428, 2, none⟩) (Kd.R_far (p := ⟨gb428, 1, none⟩) (Kd.R_far (p := ⟨gb428, 0, none⟩) (Kd.R_types HO0.out BK428.out (by decide)) (fun _ hk => hk.2) (.int .i64 t422)) (fun _ hk => hk.2) (.int .i64 t423)) (fun _ hk => hk.2) (.int .i64 t424)) (fun _ hk => hk.2) (.int .i64 t425)) (fun _ hk => hk.2) (.int .i64 t426)) (fun _ h_ => h_.1))) hb); have n1_ := Aside0.mk (blk_below (g := gb419) (o := .cells #[.slice A1_0 l1_0.length c1_0, .int .i64 a1_1, .int .i64 a1_2] 29 (0, 0)) (by refine zP9 ?_; refine blk_far ?_ NB419_428.out _; refine zP9 ?_; refine blk_far ?_ NB419_428.out _; refine zP9 ?_; refine blk_far ?_ NB419_428.out _; refine zP9 ?_; refine blk_far ?_ NB419_428.out _; refine zP9 ?_; refine blk_far ?_ NB419_428.out _; refine zP9 ?_; exact BK419.out) hb); have n2_ := Aside0.mk (blk_below (g := gb420) (o := .cells #[.slice none 0 0, .int .i64 0, .int .i64 0] 29 (0, 0)) (by refine zP9 ?_; refine blk_far ?_ NB420_428.out _; refine zP9 ?_; refine blk_far ?_ NB420_428.out _; refine zP9 ?_; refine blk_far ?_ NB420_428.out _; refine zP9 ?_; refine blk_far ?_ NB420_428.out _; refine zP9 ?_; refine blk_far ?_ NB420_428.out _; refine zP9 ?_; exact BK420.out) hb); have n3_ := Aside0.mk (blk_below (g := gb428) (o := .cells #[.int .i64 t422, .int .i64 t423, .int .i64 t424, .int .i64 t425, .int .i64 t426] 41 (0, 0)) (by refine zP9 ?_; refine blk_put (cs := #[.int .i64 t422, .int .i64 t423, .int .i64 t424, .int .i64 t425, .int .i64 0]) ?_ 4 _ rfl; refine zP9 ?_; refine blk_put (cs := #[.int .i64 t422, .int .i64 t423, .int .i64 t424, .int .i64 0, .int .i64 0]) ?_ 3 _ rfl; refine zP9 ?_; refine blk_put (cs := #[.int .i64 t422, .int .i64 t423, .int .i64 0, .int .i64 0, .int .i64 0]) ?_ 2 _ rfl; refine zP9 ?_; refine blk_put (cs := #[.int .i64 t422, .int .i64 0, .int .i64 0, .int .i64 0, .int .i64 0]) ?_ 1 _ rfl; refine zP9 ?_; refine blk_put (cs := #[.int .i64 0, .int .i64 0, .int .i64 0, .int .i64 0, .int .i64 0]) ?_ 0 _ rfl; refine zP9 ?_; exact BK428.out) hb); have n4_ := Aside0.mk (Kept.below (S := (fun k_ => P0_ k_)) (zB9_6) hb); have n5_ := Aside0.mk (below_step (zB9_7) hb); clear HO0; clear BK419; clear BK420; clear BK428; clear HK; clear HB; have HO0 := n0_; have BK419 := n1_; have BK420 := n2_; have BK428 := n3_; have HK := n4_; have HB := n5_; clear n0_ n1_ n2_ n3_ n4_ n5_; (try clear hb); (try clear hb2); (try clear hk); (try clear hi); obtain ⟨hcz70_0, hcz70_1, hcz70_2, hfz70_0, hfz70_1, hfz70_2⟩ := zc9_3 (w := w69) BK419.out; obtain ⟨hcz71_0, hcz71_1, hcz71_2, hcz71_3, hcz71_4, hfz71_0, hfz71_1, hfz71_2, hfz71_3, hfz71_4⟩ := zc9_5 (w := w69) BK428.out) | ((with_reducible refine gate_callee (f := 40) rfl ?_); refine goesL_ (some 33) rfl rfl Try.func40 (by kernel_rfl) rfl #[.agg #[.slice A1_0 l1_0.length c1_0, .int .i64 a1_1, .int .i64 a1_2], .agg #[.int .i64 t422, .int .i64 t423, .int .i64 t424, .int .i64 t425, .int .i64 t426], .int .i64 0] rfl zT9 ?_; (with_reducible refine (impl_Work.calls k _ _ l1_0 a1_1 a1_2 t422 t423 t424 t425 t426 0 t438 t441 t442 t443 _ ?side1 ?side2 A53.out).mono ?_); (case side1 => exact Kd.C_kept_now HR1_0.out (zB9_6)); (case side2 => exact HC1_0.out); rintro e w72 ⟨v439, rfl, ho0, hb⟩; refine ⟨_, rfl, ?_⟩; have n0_ := Aside0.mk (Kd.R_elder' (zR9 HO0.out) (Kd.R_base ho0) hb); have n1_ := Aside0.mk (Kd.R_lower (Kd.R_new' (Kd.R_newM (M := fun k_ => (P0_ k_ ∨ w.heap.size ≤ k_)) ho0 (by first | exact HK.out.1 | exact (show Kept w _ (fun k_ => P0_ k_) from zB9_6).1) (fun k_ h_ => .inr h_)) (Kd.R_lt (zR9 HO0.out))) (below_size (zB9_7))); have n2_ := Aside0.mk (zb9 BK419.out hb); have n3_ := Aside0.mk (zb9 BK420.out hb); have n4_ := Aside0.mk (zb9 BK428.out hb); have n5_ := Aside0.mk (Kept.below (S := (fun k_ => P0_ k_)) (zB9_6) hb); have n6_ := Aside0.mk (below_step (zB9_7) hb); clear HO0; clear BK419; clear BK420; clear BK428; clear HK; clear HB; have HO0 := n0_; have HO440 := n1_; have BK419 := n2_; have BK420 := n3_; have BK428 := n4_; have HK := n5_; have HB := n6_; clear n0_ n1_ n2_ n3_ n4_ n5_ n6_; (try clear hb); (try clear hb2); (try clear hk); (try clear hi); (try clear ho0); obtain ⟨Ao73, co73, eo73⟩ := Kd.R_slice HO440.out; subst eo73; obtain ⟨hcz74_0, hcz74_1, hcz74_2, hfz74_0, hfz74_1, hfz74_2⟩ := zc9_3 (w := w72) BK419.out) | ((with_reducible refine gate_store (t := 29) (p := 3) rfl ?_); refine store_event (t := 29) (p := 3) (v := ?vo_w75) (w1 := (((w72.setCell ⟨gb419, 0, none⟩ (.slice Ao73 t438.length co73)).setCell ⟨gb419, 1, none⟩ (.int .i64 t441)).setCell ⟨gb419, 2, none⟩ (.int .i64 t442))) ?hg ?ho ?hn ?hr ?_; (case ho => rfl); (case hg => rfl); (case hn => rfl); (case hr => first | (go_simp; done) | (go_simp; rfl)); intro w75 hw; have n0_ : Aside0 (Kd.R (Kd.int .i64) 3 w75 w0.heap.size (fun k_ => (P0_ k_ ∨ w.heap.size ≤ k_) ∧ some k_ ≠ (.slice Ao73 t438.length co73 : Value).ownBlock) (.slice (some ad421) l0.length co62) l0) := ⟨(by rw [hw]; exact (by (with_reducible repeat (first | apply Kd.R_alloc | apply Kd.R_drewN | apply Kd.R_drew)); exact Kd.R_mono (Kd.R_far (p := ⟨gb419, 2, none⟩) (Kd.R_far (p := ⟨gb419, 1, none⟩) (Kd.R_far (p := ⟨gb419, 0, none⟩) (Kd.R_types HO0.out BK419.out (by decide)) (fun _ hk => hk.2) (.slice Ao73 t438.length co73)) (fun _ hk => hk.2) (.int .i64 t441)) (fun _ hk => hk.2) (.int .i64 t442)) (fun _ hk => ⟨hk.1.1, hk.1.2⟩)))⟩; have n1_ : Aside0 (Kd.R (Kd.int .i64) 3 w75 w0.heap.size (fun k_ => (P0_ k_ ∨ w.heap.size ≤ k_) ∧ some k_ ≠ (.slice (some ad421) l0.length co62 : Value).ownBlock) (.slice Ao73 t438.length co73) t438) := ⟨(by rw [hw]; exact (by (with_reducible repeat (first | apply Kd.R_alloc | apply Kd.R_drewN | apply Kd.R_drew)); exact Kd.R_mono (Kd.R_far (p := ⟨gb419, 2, none⟩) (Kd.R_far (p := ⟨gb419, 1, none⟩) (Kd.R_far (p := ⟨gb419, 0, none⟩) (Kd.R_types HO440.out BK419.out (by decide)) (fun _ hk => hk.2) (.slice Ao73 t438.length co73)) (fun _ hk => hk.2) (.int .i64 t441)) (fun _ hk => hk.2) (.int .i64 t442)) (fun _ hk => ⟨hk.1.1.1, hk.1.2⟩)))⟩; have n2_ : Aside0 (w75.heap[gb419]? = some (.cells #[.slice Ao73 t438.length co73, .int .i64 t441, .int .i64 t442] 29 (0, 0))) := ⟨(by rw [hw]; exact (by refine zP9 ?_; refine blk_put (cs := #[.slice Ao73 t438.length co73, .int .i64 t441, .int .i64 a1_2]) ?_ 2 _ rfl; refine zP9 ?_; refine blk_put (cs := #[.slice Ao73 t438.length co73, .int .i64 a1_1, .int .i64 a1_2]) ?_ 1 _ rfl; refine zP9 ?_; refine blk_put (cs := #[.slice A1_0 l1_0.length c1_0, .int .i64 a1_1, .int .i64 a1_2]) ?_ 0 _ rfl; refine zP9 ?_; exact BK419.out))⟩; have n3_ : Aside0 (w75.heap[gb420]? = some (.cells #[.slice none 0 0, .int .i64 0, .int .i64 0] 29 (0, 0))) := ⟨(by rw [hw]; exact (by refine zP9 ?_; refine blk_far ?_ NB420_419.out _; refine zP9 ?_; refine blk_far ?_ NB420_419.out _; refine zP9 ?_; refine blk_far ?_ NB420_419.out _; refine zP9 ?_; exact BK420.out))⟩; have n4_ : Aside0 (w75.heap[gb428]? = some (.cells #[.int .i64 t422, .int .i64 t423, .int .i64 t424, .int .i64 t425, .int .i64 t426] 41 (0, 0))) := ⟨(by rw [hw]; exact (by refine zP9 ?_; refine blk_far ?_ NB428_419.out _; refine zP9 ?_; refine blk_far ?_ NB428_419.out _; refine zP9 ?_; refine blk_far ?_ NB428_419.out _; refine zP9 ?_; exact BK428.out))⟩; have n5_ : Aside0 (Kept w w75 (fun k_ => P0_ k_)) := ⟨(by rw [hw]; exact (zB9_6))⟩; have n6_ : Aside0 (Below w0.heap.size w0 w75) := ⟨(by rw [hw]; exact (zB9_7))⟩; clear hw; clear HO0; clear HO440; clear BK419; clear BK420; clear BK428; clear HK; clear HB; have HO0 := n0_; have HO440 := n1_; have BK419 := n2_; have BK420 := n3_; have BK428 := n4_; have HK := n5_; have HB := n6_; clear n0_ n1_ n2_ n3_ n4_ n5_ n6_; have p57 : 0 ≤ (t429 : Int) := zA9; have q57 : (t429 : Int) < ((l0.length : Int) : Int) := zA9; obtain ⟨go57, co57, eo57, gb57, gl57, cl57, HG57⟩ := Kd.R_form HO0.out (by omega); (first | cases eo57 | (injection eo57 with ea_ en_ ec_; (first | subst ea_ | (injection ea_ with ea_; subst ea_)); subst ec_; clear en_)); have GB57 := Aside0.mk gb57; have GG57 := Aside0.mk HG57; clear gb57 gl57 HG57; have HMgo57 := Aside0.mk (show (P0_ go57 ∨ w.heap.size ≤ go57) from (HO0.out.1 _ rfl).1); (first | simp only [add_plain] at hx421_0 | skip); (first | simp only [add_plain] at hx430_0 | skip); obtain ⟨hx57_0, hf57_0⟩ := Kd.R_celln 0 HO0.out (t429 : Int) p57 q57; replace p57 := eq_true p57; replace q57 := eq_true q57; obtain ⟨hy76_, hz76_⟩ := Kd.R_celln 0 HO0.out (t429 : Int) (zA9) (zA9); have HP76 := Kd.R_putg HO0.out (t429 : Int) t443) | ((with_reducible refine gate_store (t := 3) (p := 41) rfl ?_); refine store_event (t := 3) (p := 41) (v := ?vo_w77) (w1 := (w75.setCell ⟨go57, (t429 : Int).toNat, none⟩ (.int .i64 t443))) ?hg ?ho ?hn ?hr ?_; (case ho => rfl); (case hg => rfl); (case hn => rfl); (case hr => first | (go_simp; done) | (go_simp; rfl)); intro w77 hw; have hg : w75.grownBy w77 (some go57) := (by rw [hw]; exact HP76.2); have hp_ : Kd.R (Kd.int .i64) 3 w77 w0.heap.size (fun k_ => (P0_ k_ ∨ w.heap.size ≤ k_) ∧ some k_ ≠ (.slice Ao73 t438.length co73 : Value).ownBlock) (.slice (some ⟨go57, 0, none⟩) l0.length co62) y444 := (by rw [hw, Ny444.out]; exact HP76.1); clear HP76; have n0_ := Aside0.mk (hp_); have n1_ := Aside0.mk (zg9 BK419.out hg (Kd.R_ne HO0.out BK419.out (by decide))); have n2_ := Aside0.mk (zg9 BK420.out hg (Kd.R_ne HO0.out BK420.out (by decide))); have n3_ := Aside0.mk (zg9 BK428.out hg (Kd.R_ne HO0.out BK428.out (by decide))); have n4_ := Aside0.mk (Kd.R_after (v := (.slice (some ⟨go57, 0, none⟩) l0.length co62)) (v1 := (.slice (some ⟨go57, 0, none⟩) l0.length co62)) (ok := (fun k_ => (P0_ k_ ∨ w.heap.size ≤ k_))) (zR9 HO440.out) hg (.inl rfl)); have n5_ := Aside0.mk ((by rw [hw]; exact below_set (HB.out) GB57.out : Below w0.heap.size w0 w77)); have n6_ := Aside0.mk (Kept.of_grown (S := (fun k_ => P0_ k_)) hg (zB9_6) (fun k_ e_ => (HO0.out.1 k_ e_).1)); clear HO0; clear BK419; clear BK420; clear BK428; clear HO440; clear HB; clear HK; have HO0 := n0_; have BK419 := n1_; have BK420 := n2_; have BK428 := n3_; have HO440 := n4_; have HB := n5_; have HK := n6_; clear n0_ n1_ n2_ n3_ n4_ n5_ n6_; clear hg hw hp_; obtain ⟨hcz78_0, hcz78_1, hcz78_2, hfz78_0, hfz78_1, hfz78_2⟩ := zc9_3 (w := w77) BK419.out; obtain ⟨hcz79_0, hcz79_1, hcz79_2, hfz79_0, hfz79_1, hfz79_2⟩ := zc9_3 (w := w77) BK420.out))
  refine bodyPost_ret (results_cell_row rfl _ _ gb420 29 #[.slice Ao73 t438.length co73, .int .i64 t441, .int .i64 t442] (0, 0) _ rfl (by refine zP9 ?_; refine blk_put (cs := #[.slice Ao73 t438.length co73, .int .i64 t441, .int .i64 0]) ?_ 2 _ rfl; refine zP9 ?_; refine blk_put (cs := #[.slice Ao73 t438.length co73, .int .i64 0, .int .i64 0]) ?_ 1 _ rfl; refine zP9 ?_; refine blk_put (cs := #[.slice none 0 0, .int .i64 0, .int .i64 0]) ?_ 0 _ rfl; refine zP9 ?_; exact BK420.out) Try.underlying29 rfl (by kernel_rfl)) rfl ?_
  exact ⟨_, zE9, by (with_reducible repeat (first | apply Kd.R_alloc | apply Kd.R_drewN | apply Kd.R_drew)); exact Kd.R_mono (Kd.R_far (p := ⟨gb420, 2, none⟩) (Kd.R_far (p := ⟨gb420, 1, none⟩) (Kd.R_far (p := ⟨gb420, 0, none⟩) (Kd.R_types HO440.out BK420.out (by decide)) (fun _ hk => hk.2) (.slice Ao73 t438.length co73)) (fun _ hk => hk.2) (.int .i64 t441)) (fun _ hk => hk.2) (.int .i64 t442)) (fun _ hk => ⟨hk.1.1, hk.1.2⟩), by (with_reducible repeat (first | apply Kd.R_alloc | apply Kd.R_drewN | apply Kd.R_drew)); exact Kd.R_mono (Kd.R_far (p := ⟨gb420, 2, none⟩) (Kd.R_far (p := ⟨gb420, 1, none⟩) (Kd.R_far (p := ⟨gb420, 0, none⟩) (Kd.R_types HO0.out BK420.out (by decide)) (fun _ hk => hk.2) (.slice Ao73 t438.length co73)) (fun _ hk => hk.2) (.int .i64 t441)) (fun _ hk => hk.2) (.int .i64 t442)) (fun _ hk => hk.1.1), zB9_7, zB9_6⟩
 rw [if_pos c7] at H
 have c7b0 : decide (0 ≤ t429) = true := decide_eq_true c7
 clear c7
 by_cases c8 : 0 ≤ t429
 rotate_left
 ·rw [if_neg c8] at H
  exact absurd H (by simp)
 rw [if_pos c8] at H
 have c8b0 : decide (0 ≤ t429) = true := decide_eq_true c8
 clear c8
 by_cases c9 : t429 < (l0.length : Int)
 rotate_left
 ·rw [if_neg c9] at H
  exact absurd H (by simp)
 rw [if_pos c9] at H
 have c9b0 : decide (t429 < (l0.length : Int)) = true := decide_eq_true c9
 clear c9
 replace H := Option.bind_eq_some_iff.mp H
 obtain ⟨⟨t431, t434, t435, t436⟩, A100, H⟩ := H
 replace H : (if t436 ≥ 0 then (some (t431, t434, t435, (l0.set (t429 : Int).toNat t436))) else (some (t431, t434, t435, l0))) = some (r1, r2, r3, r4) := H
 have A10 := Aside0.mk A100
 clear A100
 by_cases c11 : t436 ≥ 0
 rotate_left
 ·rw [if_neg c11] at H
  have c11b0 : decide (0 ≤ t436) = false := decide_eq_false c11
  clear c11
  simp only [Option.some.injEq, Prod.mk.injEq] at H
  obtain ⟨rfl, rfl, rfl, rfl⟩ := H
  go_enter Try.func23, Try.ntmps23
  go_wp2_with (first | ((with_reducible refine gate_dst (N := 3) rfl ?_); refine box_event ?hg (N := 3) ?hd (cs := #[.slice A1_0 l1_0.length c1_0, .int .i64 a1_1, .int .i64 a1_2]) (t := 29) ?hr ?_; (case hd => rfl); (case hg => rfl); (case hr => first | (go_simp; done) | (go_simp; rfl)); intro gb419 hg w35 hbox hb; have n0_ := Aside0.mk (Kd.R_below (zR9 HO0.out) hb); have n1_ := Aside0.mk (Kept.below (S := (fun k_ => P0_ k_)) (zB9_0) hb); have n2_ := Aside0.mk (below_step (zB9_1) hb); have n3_ := Aside0.mk (hbox); have n4_ := Aside0.mk ((by rw [hg]; exact (by first | exact HK.out.1 | exact (show Kept w _ (fun k_ => P0_ k_) from zB9_0).1) : w.heap.size ≤ gb419)); have n5_ := Aside0.mk ((by rw [hg]; exact (below_size (zB9_1)) : w0.heap.size ≤ gb419)); clear HO0; clear HK; clear HB; have HO0 := n0_; have HK := n1_; have HB := n2_; have BK419 := n3_; have GW419 := n4_; have GE419 := n5_; clear n0_ n1_ n2_ n3_ n4_ n5_; clear hb hbox hg) | ((with_reducible refine gate_dst (N := 4) rfl ?_); refine box_event ?hg (N := 4) ?hd (cs := #[.slice none 0 0, .int .i64 0, .int .i64 0]) (t := 29) ?hr ?_; (case hd => rfl); (case hg => rfl); (case hr => first | (go_simp; done) | (go_simp; rfl)); intro gb420 hg w36 hbox hb; have n0_ := Aside0.mk (Kd.R_below (zR9 HO0.out) hb); have n1_ := Aside0.mk (zb9 BK419.out hb); have n2_ := Aside0.mk (Kept.below (S := (fun k_ => P0_ k_)) (zB9_2) hb); have n3_ := Aside0.mk (below_step (zB9_3) hb); have n4_ := Aside0.mk (hbox); have n5_ := Aside0.mk ((by rw [hg]; exact (by first | exact HK.out.1 | exact (show Kept w _ (fun k_ => P0_ k_) from zB9_2).1) : w.heap.size ≤ gb420)); have n6_ := Aside0.mk ((by rw [hg]; exact (below_size (zB9_3)) : w0.heap.size ≤ gb420)); have n7_ := Aside0.mk ((zn9 BK419.out hg : gb419 ≠ gb420)); have n8_ := Aside0.mk ((zm9 BK419.out hg : gb420 ≠ gb419)); clear HO0; clear BK419; clear HK; clear HB; have HO0 := n0_; have BK419 := n1_; have HK := n2_; have HB := n3_; have BK420 := n4_; have GW420 := n5_; have GE420 := n6_; have NB419_420 := n7_; have NB420_419 := n8_; clear n0_ n1_ n2_ n3_ n4_ n5_ n6_ n7_ n8_; clear hb hbox hg; have hnb37 := NB419_420.out; have hnc37 := NB420_419.out; obtain ⟨hcz38_0, hcz38_1, hcz38_2, hfz38_0, hfz38_1, hfz38_2⟩ := zc9_3 (w := w36) BK419.out; obtain ⟨Ao39, co39, eo39⟩ := Kd.R_slice HO0.out; subst eo39; have p421 : 0 ≤ (a1_1 : Int) := zA9; have q421 : a1_1 < (l0.length : Int) := zA9; obtain ⟨ad421, e421, hx421_0⟩ := Kd.at_int (Kd.R_reads' HO0.out).2.2 a1_1 p421 q421; cases e421; replace p421 := eq_true p421; replace q421 := eq_true q421) | ((with_reducible refine gate_callee (f := 16) rfl ?_); refine goesL_ (some 16) rfl rfl Try.func16 (by kernel_rfl) rfl #[.int .i64 (rd l0 a1_1)] rfl zT9 ?_; (with_reducible refine (impl_Decode.calls (rd l0 a1_1) t422 t423 t424 t425 t426 t427 _ A5.out).mono ?_); rintro e w40 ⟨rfl, hb⟩; refine ⟨_, rfl, ?_⟩; have n0_ := Aside0.mk (Kd.R_below (zR9 HO0.out) hb); have n1_ := Aside0.mk (zb9 BK419.out hb); have n2_ := Aside0.mk (zb9 BK420.out hb); have n3_ := Aside0.mk (Kept.below (S := (fun k_ => P0_ k_)) (zB9_4) hb); have n4_ := Aside0.mk (below_step (zB9_5) hb); clear HO0; clear BK419; clear BK420; clear HK; clear HB; have HO0 := n0_; have BK419 := n1_; have BK420 := n2_; have HK := n3_; have HB := n4_; clear n0_ n1_ n2_ n3_ n4_; (try clear hb); (try clear hb2); (try clear hk); (try clear hi)) | ((with_reducible refine gate_dst (N := 5) rfl ?_); refine box_event ?hg (N := 5) ?hd (cs := #[.int .i64 0, .int .i64 0, .int .i64 0, .int .i64 0, .int .i64 0]) (t := 41) ?hr ?_; (case hd => rfl); (case hg => rfl); (case hr => first | (go_simp; done) | (go_simp; rfl)); intro gb428 hg w41 hbox hb; have n0_ := Aside0.mk (Kd.R_below (zR9 HO0.out) hb); have n1_ := Aside0.mk (zb9 BK419.out hb); have n2_ := Aside0.mk (zb9 BK420.out hb); have n3_ := Aside0.mk (Kept.below (S := (fun k_ => P0_ k_)) (zB9_4) hb); have n4_ := Aside0.mk (below_step (zB9_5) hb); have n5_ := Aside0.mk (hbox); have n6_ := Aside0.mk ((by rw [hg]; exact (by first | exact HK.out.1 | exact (show Kept w _ (fun k_ => P0_ k_) from zB9_4).1) : w.heap.size ≤ gb428)); have n7_ := Aside0.mk ((by rw [hg]; exact (below_size (zB9_5)) : w0.heap.size ≤ gb428)); have n8_ := Aside0.mk ((zn9 BK419.out hg : gb419 ≠ gb428)); have n9_ := Aside0.mk ((zm9 BK419.out hg : gb428 ≠ gb419)); have n10_ := Aside0.mk ((zn9 BK420.out hg : gb420 ≠ gb428)); have n11_ := Aside0.mk ((zm9 BK420.out hg : gb428 ≠ gb420)); clear HO0; clear BK419; clear BK420; clear HK; clear HB; have HO0 := n0_; have BK419 := n1_; have BK420 := n2_; have HK := n3_; have HB := n4_; have BK428 := n5_; have GW428 := n6_; have GE428 := n7_; have NB419_428 := n8_; have NB428_419 := n9_; have NB420_428 := n10_; have NB428_420 := n11_; clear n0_ n1_ n2_ n3_ n4_ n5_ n6_ n7_ n8_ n9_ n10_ n11_; clear hb hbox hg; have hnb42 := NB428_419.out; have hnc42 := NB419_428.out; have hnb43 := NB428_420.out; have hnc43 := NB420_428.out; obtain ⟨hcz44_0, hcz44_1, hcz44_2, hcz44_3, hcz44_4, hfz44_0, hfz44_1, hfz44_2, hfz44_3, hfz44_4⟩ := zc9_5 (w := w41) BK428.out; obtain ⟨hcz45_0, hcz45_1, hcz45_2, hfz45_0, hfz45_1, hfz45_2⟩ := zc9_3 (w := w41) BK419.out) | ((with_reducible refine gate_callee (f := 39) rfl ?_); refine goesL_ (some 22) rfl rfl Try.func39 (by kernel_rfl) rfl #[.agg #[.int .i64 t422, .int .i64 t423, .int .i64 t424, .int .i64 t425, .int .i64 t426], .slice A1_0 l1_0.length c1_0] rfl zT9 ?_; (with_reducible refine (impl_Target.calls t422 t423 t424 t425 t426 _ _ l1_0 t429 _ ?side1 ?side2 A6.out).mono ?_); (case side1 => exact Kd.C_kept_now HR1_0.out (zB9_6)); (case side2 => exact HC1_0.out); rintro e w46 ⟨rfl, hb⟩; refine ⟨_, rfl, ?_⟩; have n0_ := Aside0.mk (Kd.R_below (by (with_reducible repeat (first | apply Kd.R_alloc | apply Kd.R_drewN | apply Kd.R_drew)); exact (Kd.R_mono (Kd.R_far (p := ⟨gb428, 4, none⟩) (Kd.R_far (p := ⟨gb428, 3, none⟩) (Kd.R_far (p := ⟨gb428, 2, none⟩) (Kd.R_far (p := ⟨gb428, 1, none⟩) (Kd.R_far (p := ⟨gb428, 0, none⟩) (Kd.R_types HO0.out BK428.out (by decide)) (fun _ hk => hk.2) (.int .i64 t422)) (fun _ hk => hk.2) (.int .i64 t423)) (fun _ hk => hk.2) (.int .i64 t424)) (fun _ hk => hk.2) (.int .i64 t425)) (fun _ hk => hk.2) (.int .i64 t426)) (fun _ h_ => h_.1))) hb); have n1_ := Aside0.mk (blk_below (g := gb419) (o := .cells #[.slice A1_0 l1_0.length c1_0, .int .i64 a1_1, .int .i64 a1_2] 29 (0, 0)) (by refine zP9 ?_; refine blk_far ?_ NB419_428.out _; refine zP9 ?_; refine blk_far ?_ NB419_428.out _; refine zP9 ?_; refine blk_far ?_ NB419_428.out _; refine zP9 ?_; refine blk_far ?_ NB419_428.out _; refine zP9 ?_; refine blk_far ?_ NB419_428.out _; refine zP9 ?_; exact BK419.out) hb); have n2_ := Aside0.mk (blk_below (g := gb420) (o := .cells #[.slice none 0 0, .int .i64 0, .int .i64 0] 29 (0, 0)) (by refine zP9 ?_; refine blk_far ?_ NB420_428.out _; refine zP9 ?_; refine blk_far ?_ NB420_428.out _; refine zP9 ?_; refine blk_far ?_ NB420_428.out _; refine zP9 ?_; refine blk_far ?_ NB420_428.out _; refine zP9 ?_; refine blk_far ?_ NB420_428.out _; refine zP9 ?_; exact BK420.out) hb); have n3_ := Aside0.mk (blk_below (g := gb428) (o := .cells #[.int .i64 t422, .int .i64 t423, .int .i64 t424, .int .i64 t425, .int .i64 t426] 41 (0, 0)) (by refine zP9 ?_; refine blk_put (cs := #[.int .i64 t422, .int .i64 t423, .int .i64 t424, .int .i64 t425, .int .i64 0]) ?_ 4 _ rfl; refine zP9 ?_; refine blk_put (cs := #[.int .i64 t422, .int .i64 t423, .int .i64 t424, .int .i64 0, .int .i64 0]) ?_ 3 _ rfl; refine zP9 ?_; refine blk_put (cs := #[.int .i64 t422, .int .i64 t423, .int .i64 0, .int .i64 0, .int .i64 0]) ?_ 2 _ rfl; refine zP9 ?_; refine blk_put (cs := #[.int .i64 t422, .int .i64 0, .int .i64 0, .int .i64 0, .int .i64 0]) ?_ 1 _ rfl; refine zP9 ?_; refine blk_put (cs := #[.int .i64 0, .int .i64 0, .int .i64 0, .int .i64 0, .int .i64 0]) ?_ 0 _ rfl; refine zP9 ?_; exact BK428.out) hb); have n4_ := Aside0.mk (Kept.below (S := (fun k_ => P0_ k_)) (zB9_6) hb); have n5_ := Aside0.mk (below_step (zB9_7) hb); clear HO0; clear BK419; clear BK420; clear BK428; clear HK; clear HB; have HO0 := n0_; have BK419 := n1_; have BK420 := n2_; have BK428 := n3_; have HK := n4_; have HB := n5_; clear n0_ n1_ n2_ n3_ n4_ n5_; (try clear hb); (try clear hb2); (try clear hk); (try clear hi); have p430 : 0 ≤ (t429 : Int) := zA9; have q430 : t429 < (l0.length : Int) := zA9; obtain ⟨ad430, e430, hx430_0⟩ := Kd.at_int (Kd.R_reads' HO0.out).2.2 t429 p430 q430; obtain rfl : ad421 = ad430 := (by injection e430); replace p430 := eq_true p430; replace q430 := eq_true q430; obtain ⟨hcz47_0, hcz47_1, hcz47_2, hfz47_0, hfz47_1, hfz47_2⟩ := zc9_3 (w := w46) BK419.out; obtain ⟨hcz48_0, hcz48_1, hcz48_2, hcz48_3, hcz48_4, hfz48_0, hfz48_1, hfz48_2, hfz48_3, hfz48_4⟩ := zc9_5 (w := w46) BK428.out) | ((with_reducible refine gate_callee (f := 40) rfl ?_); refine goesL_ (some 33) rfl rfl Try.func40 (by kernel_rfl) rfl #[.agg #[.slice A1_0 l1_0.length c1_0, .int .i64 a1_1, .int .i64 a1_2], .agg #[.int .i64 t422, .int .i64 t423, .int .i64 t424, .int .i64 t425, .int .i64 t426], .int .i64 (rd l0 t429)] rfl zT9 ?_; (with_reducible refine (impl_Work.calls k _ _ l1_0 a1_1 a1_2 t422 t423 t424 t425 t426 (rd l0 t429) t431 t434 t435 t436 _ ?side1 ?side2 A10.out).mono ?_); (case side1 => exact Kd.C_kept_now HR1_0.out (zB9_6)); (case side2 => exact HC1_0.out); rintro e w49 ⟨v432, rfl, ho0, hb⟩; refine ⟨_, rfl, ?_⟩; have n0_ := Aside0.mk (Kd.R_elder' (zR9 HO0.out) (Kd.R_base ho0) hb); have n1_ := Aside0.mk (Kd.R_lower (Kd.R_new' (Kd.R_newM (M := fun k_ => (P0_ k_ ∨ w.heap.size ≤ k_)) ho0 (by first | exact HK.out.1 | exact (show Kept w _ (fun k_ => P0_ k_) from zB9_6).1) (fun k_ h_ => .inr h_)) (Kd.R_lt (zR9 HO0.out))) (below_size (zB9_7))); have n2_ := Aside0.mk (zb9 BK419.out hb); have n3_ := Aside0.mk (zb9 BK420.out hb); have n4_ := Aside0.mk (zb9 BK428.out hb); have n5_ := Aside0.mk (Kept.below (S := (fun k_ => P0_ k_)) (zB9_6) hb); have n6_ := Aside0.mk (below_step (zB9_7) hb); clear HO0; clear BK419; clear BK420; clear BK428; clear HK; clear HB; have HO0 := n0_; have HO433 := n1_; have BK419 := n2_; have BK420 := n3_; have BK428 := n4_; have HK := n5_; have HB := n6_; clear n0_ n1_ n2_ n3_ n4_ n5_ n6_; (try clear hb); (try clear hb2); (try clear hk); (try clear hi); (try clear ho0); obtain ⟨Ao50, co50, eo50⟩ := Kd.R_slice HO433.out; subst eo50; obtain ⟨hcz51_0, hcz51_1, hcz51_2, hfz51_0, hfz51_1, hfz51_2⟩ := zc9_3 (w := w49) BK419.out; obtain ⟨hcz52_0, hcz52_1, hcz52_2, hfz52_0, hfz52_1, hfz52_2⟩ := zc9_3 (w := w49) BK420.out))
  refine bodyPost_ret (results_cell_row rfl _ _ gb420 29 #[.slice Ao50 t431.length co50, .int .i64 t434, .int .i64 t435] (0, 0) _ rfl (by refine zP9 ?_; refine blk_put (cs := #[.slice Ao50 t431.length co50, .int .i64 t434, .int .i64 0]) ?_ 2 _ rfl; refine zP9 ?_; refine blk_put (cs := #[.slice Ao50 t431.length co50, .int .i64 0, .int .i64 0]) ?_ 1 _ rfl; refine zP9 ?_; refine blk_put (cs := #[.slice none 0 0, .int .i64 0, .int .i64 0]) ?_ 0 _ rfl; refine zP9 ?_; refine blk_far ?_ NB420_419.out _; refine zP9 ?_; refine blk_far ?_ NB420_419.out _; refine zP9 ?_; refine blk_far ?_ NB420_419.out _; refine zP9 ?_; exact BK420.out) Try.underlying29 rfl (by kernel_rfl)) rfl ?_
  exact ⟨_, zE9, by (with_reducible repeat (first | apply Kd.R_alloc | apply Kd.R_drewN | apply Kd.R_drew)); exact Kd.R_mono (Kd.R_far (p := ⟨gb420, 2, none⟩) (Kd.R_far (p := ⟨gb420, 1, none⟩) (Kd.R_far (p := ⟨gb420, 0, none⟩) (Kd.R_far (p := ⟨gb419, 2, none⟩) (Kd.R_far (p := ⟨gb419, 1, none⟩) (Kd.R_far (p := ⟨gb419, 0, none⟩) (Kd.R_types (Kd.R_types HO433.out BK419.out (by decide)) BK420.out (by decide)) (fun _ hk => hk.1.2) (.slice Ao50 t431.length co50)) (fun _ hk => hk.1.2) (.int .i64 t434)) (fun _ hk => hk.1.2) (.int .i64 t435)) (fun _ hk => hk.2) (.slice Ao50 t431.length co50)) (fun _ hk => hk.2) (.int .i64 t434)) (fun _ hk => hk.2) (.int .i64 t435)) (fun _ hk => ⟨hk.1.1.1.1, hk.1.1.2⟩), by (with_reducible repeat (first | apply Kd.R_alloc | apply Kd.R_drewN | apply Kd.R_drew)); exact Kd.R_mono (Kd.R_far (p := ⟨gb420, 2, none⟩) (Kd.R_far (p := ⟨gb420, 1, none⟩) (Kd.R_far (p := ⟨gb420, 0, none⟩) (Kd.R_far (p := ⟨gb419, 2, none⟩) (Kd.R_far (p := ⟨gb419, 1, none⟩) (Kd.R_far (p := ⟨gb419, 0, none⟩) (Kd.R_types (Kd.R_types HO0.out BK419.out (by decide)) BK420.out (by decide)) (fun _ hk => hk.1.2) (.slice Ao50 t431.length co50)) (fun _ hk => hk.1.2) (.int .i64 t434)) (fun _ hk => hk.1.2) (.int .i64 t435)) (fun _ hk => hk.2) (.slice Ao50 t431.length co50)) (fun _ hk => hk.2) (.int .i64 t434)) (fun _ hk => hk.2) (.int .i64 t435)) (fun _ hk => hk.1.1.1), zB9_7, zB9_6⟩
 rw [if_pos c11] at H
 have c11b0 : decide (0 ≤ t436) = true := decide_eq_true c11
 clear c11
 obtain ⟨y437, hy437⟩ : ∃ y_ : List Int, y_ = (l0.set (t429 : Int).toNat t436) := ⟨_, rfl⟩
 replace H : (some (t431, t434, t435, y437)) = some (r1, r2, r3, r4) := by first | (rw [hy437]; with_reducible exact H) | (have H2_ := (Option.bind_some _ _).symm.trans H; rw [hy437]; with_reducible exact H2_) | (have H2_ := (Option.bind_some _ _).symm.trans H; with_reducible exact H2_) | with_reducible exact H | (rw [hy437]; exact H) | exact H
 have Ny437 := Aside0.mk hy437
 clear hy437
 simp only [Option.some.injEq, Prod.mk.injEq] at H
 obtain ⟨rfl, rfl, rfl, rfl⟩ := H
 go_enter Try.func23, Try.ntmps23
 go_wp2_with (first | ((with_reducible refine gate_dst (N := 3) rfl ?_); refine box_event ?hg (N := 3) ?hd (cs := #[.slice A1_0 l1_0.length c1_0, .int .i64 a1_1, .int .i64 a1_2]) (t := 29) ?hr ?_; (case hd => rfl); (case hg => rfl); (case hr => first | (go_simp; done) | (go_simp; rfl)); intro gb419 hg w13 hbox hb; have n0_ := Aside0.mk (Kd.R_below (zR9 HO0.out) hb); have n1_ := Aside0.mk (Kept.below (S := (fun k_ => P0_ k_)) (zB9_0) hb); have n2_ := Aside0.mk (below_step (zB9_1) hb); have n3_ := Aside0.mk (hbox); have n4_ := Aside0.mk ((by rw [hg]; exact (by first | exact HK.out.1 | exact (show Kept w _ (fun k_ => P0_ k_) from zB9_0).1) : w.heap.size ≤ gb419)); have n5_ := Aside0.mk ((by rw [hg]; exact (below_size (zB9_1)) : w0.heap.size ≤ gb419)); clear HO0; clear HK; clear HB; have HO0 := n0_; have HK := n1_; have HB := n2_; have BK419 := n3_; have GW419 := n4_; have GE419 := n5_; clear n0_ n1_ n2_ n3_ n4_ n5_; clear hb hbox hg) | ((with_reducible refine gate_dst (N := 4) rfl ?_); refine box_event ?hg (N := 4) ?hd (cs := #[.slice none 0 0, .int .i64 0, .int .i64 0]) (t := 29) ?hr ?_; (case hd => rfl); (case hg => rfl); (case hr => first | (go_simp; done) | (go_simp; rfl)); intro gb420 hg w14 hbox hb; have n0_ := Aside0.mk (Kd.R_below (zR9 HO0.out) hb); have n1_ := Aside0.mk (zb9 BK419.out hb); have n2_ := Aside0.mk (Kept.below (S := (fun k_ => P0_ k_)) (zB9_2) hb); have n3_ := Aside0.mk (below_step (zB9_3) hb); have n4_ := Aside0.mk (hbox); have n5_ := Aside0.mk ((by rw [hg]; exact (by first | exact HK.out.1 | exact (show Kept w _ (fun k_ => P0_ k_) from zB9_2).1) : w.heap.size ≤ gb420)); have n6_ := Aside0.mk ((by rw [hg]; exact (below_size (zB9_3)) : w0.heap.size ≤ gb420)); have n7_ := Aside0.mk ((zn9 BK419.out hg : gb419 ≠ gb420)); have n8_ := Aside0.mk ((zm9 BK419.out hg : gb420 ≠ gb419)); clear HO0; clear BK419; clear HK; clear HB; have HO0 := n0_; have BK419 := n1_; have HK := n2_; have HB := n3_; have BK420 := n4_; have GW420 := n5_; have GE420 := n6_; have NB419_420 := n7_; have NB420_419 := n8_; clear n0_ n1_ n2_ n3_ n4_ n5_ n6_ n7_ n8_; clear hb hbox hg; have hnb15 := NB419_420.out; have hnc15 := NB420_419.out; obtain ⟨hcz16_0, hcz16_1, hcz16_2, hfz16_0, hfz16_1, hfz16_2⟩ := zc9_3 (w := w14) BK419.out; obtain ⟨Ao17, co17, eo17⟩ := Kd.R_slice HO0.out; subst eo17; have p421 : 0 ≤ (a1_1 : Int) := zA9; have q421 : a1_1 < (l0.length : Int) := zA9; obtain ⟨ad421, e421, hx421_0⟩ := Kd.at_int (Kd.R_reads' HO0.out).2.2 a1_1 p421 q421; cases e421; replace p421 := eq_true p421; replace q421 := eq_true q421) | ((with_reducible refine gate_callee (f := 16) rfl ?_); refine goesL_ (some 16) rfl rfl Try.func16 (by kernel_rfl) rfl #[.int .i64 (rd l0 a1_1)] rfl zT9 ?_; (with_reducible refine (impl_Decode.calls (rd l0 a1_1) t422 t423 t424 t425 t426 t427 _ A5.out).mono ?_); rintro e w18 ⟨rfl, hb⟩; refine ⟨_, rfl, ?_⟩; have n0_ := Aside0.mk (Kd.R_below (zR9 HO0.out) hb); have n1_ := Aside0.mk (zb9 BK419.out hb); have n2_ := Aside0.mk (zb9 BK420.out hb); have n3_ := Aside0.mk (Kept.below (S := (fun k_ => P0_ k_)) (zB9_4) hb); have n4_ := Aside0.mk (below_step (zB9_5) hb); clear HO0; clear BK419; clear BK420; clear HK; clear HB; have HO0 := n0_; have BK419 := n1_; have BK420 := n2_; have HK := n3_; have HB := n4_; clear n0_ n1_ n2_ n3_ n4_; (try clear hb); (try clear hb2); (try clear hk); (try clear hi)) | ((with_reducible refine gate_dst (N := 5) rfl ?_); refine box_event ?hg (N := 5) ?hd (cs := #[.int .i64 0, .int .i64 0, .int .i64 0, .int .i64 0, .int .i64 0]) (t := 41) ?hr ?_; (case hd => rfl); (case hg => rfl); (case hr => first | (go_simp; done) | (go_simp; rfl)); intro gb428 hg w19 hbox hb; have n0_ := Aside0.mk (Kd.R_below (zR9 HO0.out) hb); have n1_ := Aside0.mk (zb9 BK419.out hb); have n2_ := Aside0.mk (zb9 BK420.out hb); have n3_ := Aside0.mk (Kept.below (S := (fun k_ => P0_ k_)) (zB9_4) hb); have n4_ := Aside0.mk (below_step (zB9_5) hb); have n5_ := Aside0.mk (hbox); have n6_ := Aside0.mk ((by rw [hg]; exact (by first | exact HK.out.1 | exact (show Kept w _ (fun k_ => P0_ k_) from zB9_4).1) : w.heap.size ≤ gb428)); have n7_ := Aside0.mk ((by rw [hg]; exact (below_size (zB9_5)) : w0.heap.size ≤ gb428)); have n8_ := Aside0.mk ((zn9 BK419.out hg : gb419 ≠ gb428)); have n9_ := Aside0.mk ((zm9 BK419.out hg : gb428 ≠ gb419)); have n10_ := Aside0.mk ((zn9 BK420.out hg : gb420 ≠ gb428)); have n11_ := Aside0.mk ((zm9 BK420.out hg : gb428 ≠ gb420)); clear HO0; clear BK419; clear BK420; clear HK; clear HB; have HO0 := n0_; have BK419 := n1_; have BK420 := n2_; have HK := n3_; have HB := n4_; have BK428 := n5_; have GW428 := n6_; have GE428 := n7_; have NB419_428 := n8_; have NB428_419 := n9_; have NB420_428 := n10_; have NB428_420 := n11_; clear n0_ n1_ n2_ n3_ n4_ n5_ n6_ n7_ n8_ n9_ n10_ n11_; clear hb hbox hg; have hnb20 := NB428_419.out; have hnc20 := NB419_428.out; have hnb21 := NB428_420.out; have hnc21 := NB420_428.out; obtain ⟨hcz22_0, hcz22_1, hcz22_2, hcz22_3, hcz22_4, hfz22_0, hfz22_1, hfz22_2, hfz22_3, hfz22_4⟩ := zc9_5 (w := w19) BK428.out; obtain ⟨hcz23_0, hcz23_1, hcz23_2, hfz23_0, hfz23_1, hfz23_2⟩ := zc9_3 (w := w19) BK419.out) | ((with_reducible refine gate_callee (f := 39) rfl ?_); refine goesL_ (some 22) rfl rfl Try.func39 (by kernel_rfl) rfl #[.agg #[.int .i64 t422, .int .i64 t423, .int .i64 t424, .int .i64 t425, .int .i64 t426], .slice A1_0 l1_0.length c1_0] rfl zT9 ?_; (with_reducible refine (impl_Target.calls t422 t423 t424 t425 t426 _ _ l1_0 t429 _ ?side1 ?side2 A6.out).mono ?_); (case side1 => exact Kd.C_kept_now HR1_0.out (zB9_6)); (case side2 => exact HC1_0.out); rintro e w24 ⟨rfl, hb⟩; refine ⟨_, rfl, ?_⟩; have n0_ := Aside0.mk (Kd.R_below (by (with_reducible repeat (first | apply Kd.R_alloc | apply Kd.R_drewN | apply Kd.R_drew)); exact (Kd.R_mono (Kd.R_far (p := ⟨gb428, 4, none⟩) (Kd.R_far (p := ⟨gb428, 3, none⟩) (Kd.R_far (p := ⟨gb428, 2, none⟩) (Kd.R_far (p := ⟨gb428, 1, none⟩) (Kd.R_far (p := ⟨gb428, 0, none⟩) (Kd.R_types HO0.out BK428.out (by decide)) (fun _ hk => hk.2) (.int .i64 t422)) (fun _ hk => hk.2) (.int .i64 t423)) (fun _ hk => hk.2) (.int .i64 t424)) (fun _ hk => hk.2) (.int .i64 t425)) (fun _ hk => hk.2) (.int .i64 t426)) (fun _ h_ => h_.1))) hb); have n1_ := Aside0.mk (blk_below (g := gb419) (o := .cells #[.slice A1_0 l1_0.length c1_0, .int .i64 a1_1, .int .i64 a1_2] 29 (0, 0)) (by refine zP9 ?_; refine blk_far ?_ NB419_428.out _; refine zP9 ?_; refine blk_far ?_ NB419_428.out _; refine zP9 ?_; refine blk_far ?_ NB419_428.out _; refine zP9 ?_; refine blk_far ?_ NB419_428.out _; refine zP9 ?_; refine blk_far ?_ NB419_428.out _; refine zP9 ?_; exact BK419.out) hb); have n2_ := Aside0.mk (blk_below (g := gb420) (o := .cells #[.slice none 0 0, .int .i64 0, .int .i64 0] 29 (0, 0)) (by refine zP9 ?_; refine blk_far ?_ NB420_428.out _; refine zP9 ?_; refine blk_far ?_ NB420_428.out _; refine zP9 ?_; refine blk_far ?_ NB420_428.out _; refine zP9 ?_; refine blk_far ?_ NB420_428.out _; refine zP9 ?_; refine blk_far ?_ NB420_428.out _; refine zP9 ?_; exact BK420.out) hb); have n3_ := Aside0.mk (blk_below (g := gb428) (o := .cells #[.int .i64 t422, .int .i64 t423, .int .i64 t424, .int .i64 t425, .int .i64 t426] 41 (0, 0)) (by refine zP9 ?_; refine blk_put (cs := #[.int .i64 t422, .int .i64 t423, .int .i64 t424, .int .i64 t425, .int .i64 0]) ?_ 4 _ rfl; refine zP9 ?_; refine blk_put (cs := #[.int .i64 t422, .int .i64 t423, .int .i64 t424, .int .i64 0, .int .i64 0]) ?_ 3 _ rfl; refine zP9 ?_; refine blk_put (cs := #[.int .i64 t422, .int .i64 t423, .int .i64 0, .int .i64 0, .int .i64 0]) ?_ 2 _ rfl; refine zP9 ?_; refine blk_put (cs := #[.int .i64 t422, .int .i64 0, .int .i64 0, .int .i64 0, .int .i64 0]) ?_ 1 _ rfl; refine zP9 ?_; refine blk_put (cs := #[.int .i64 0, .int .i64 0, .int .i64 0, .int .i64 0, .int .i64 0]) ?_ 0 _ rfl; refine zP9 ?_; exact BK428.out) hb); have n4_ := Aside0.mk (Kept.below (S := (fun k_ => P0_ k_)) (zB9_6) hb); have n5_ := Aside0.mk (below_step (zB9_7) hb); clear HO0; clear BK419; clear BK420; clear BK428; clear HK; clear HB; have HO0 := n0_; have BK419 := n1_; have BK420 := n2_; have BK428 := n3_; have HK := n4_; have HB := n5_; clear n0_ n1_ n2_ n3_ n4_ n5_; (try clear hb); (try clear hb2); (try clear hk); (try clear hi); have p430 : 0 ≤ (t429 : Int) := zA9; have q430 : t429 < (l0.length : Int) := zA9; obtain ⟨ad430, e430, hx430_0⟩ := Kd.at_int (Kd.R_reads' HO0.out).2.2 t429 p430 q430; obtain rfl : ad421 = ad430 := (by injection e430); replace p430 := eq_true p430; replace q430 := eq_true q430; obtain ⟨hcz25_0, hcz25_1, hcz25_2, hfz25_0, hfz25_1, hfz25_2⟩ := zc9_3 (w := w24) BK419.out; obtain ⟨hcz26_0, hcz26_1, hcz26_2, hcz26_3, hcz26_4, hfz26_0, hfz26_1, hfz26_2, hfz26_3, hfz26_4⟩ := zc9_5 (w := w24) BK428.out) | ((with_reducible refine gate_callee (f := 40) rfl ?_); refine goesL_ (some 33) rfl rfl Try.func40 (by kernel_rfl) rfl #[.agg #[.slice A1_0 l1_0.length c1_0, .int .i64 a1_1, .int .i64 a1_2], .agg #[.int .i64 t422, .int .i64 t423, .int .i64 t424, .int .i64 t425, .int .i64 t426], .int .i64 (rd l0 t429)] rfl zT9 ?_; (with_reducible refine (impl_Work.calls k _ _ l1_0 a1_1 a1_2 t422 t423 t424 t425 t426 (rd l0 t429) t431 t434 t435 t436 _ ?side1 ?side2 A10.out).mono ?_); (case side1 => exact Kd.C_kept_now HR1_0.out (zB9_6)); (case side2 => exact HC1_0.out); rintro e w27 ⟨v432, rfl, ho0, hb⟩; refine ⟨_, rfl, ?_⟩; have n0_ := Aside0.mk (Kd.R_elder' (zR9 HO0.out) (Kd.R_base ho0) hb); have n1_ := Aside0.mk (Kd.R_lower (Kd.R_new' (Kd.R_newM (M := fun k_ => (P0_ k_ ∨ w.heap.size ≤ k_)) ho0 (by first | exact HK.out.1 | exact (show Kept w _ (fun k_ => P0_ k_) from zB9_6).1) (fun k_ h_ => .inr h_)) (Kd.R_lt (zR9 HO0.out))) (below_size (zB9_7))); have n2_ := Aside0.mk (zb9 BK419.out hb); have n3_ := Aside0.mk (zb9 BK420.out hb); have n4_ := Aside0.mk (zb9 BK428.out hb); have n5_ := Aside0.mk (Kept.below (S := (fun k_ => P0_ k_)) (zB9_6) hb); have n6_ := Aside0.mk (below_step (zB9_7) hb); clear HO0; clear BK419; clear BK420; clear BK428; clear HK; clear HB; have HO0 := n0_; have HO433 := n1_; have BK419 := n2_; have BK420 := n3_; have BK428 := n4_; have HK := n5_; have HB := n6_; clear n0_ n1_ n2_ n3_ n4_ n5_ n6_; (try clear hb); (try clear hb2); (try clear hk); (try clear hi); (try clear ho0); obtain ⟨Ao28, co28, eo28⟩ := Kd.R_slice HO433.out; subst eo28; obtain ⟨hcz29_0, hcz29_1, hcz29_2, hfz29_0, hfz29_1, hfz29_2⟩ := zc9_3 (w := w27) BK419.out) | ((with_reducible refine gate_store (t := 29) (p := 3) rfl ?_); refine store_event (t := 29) (p := 3) (v := ?vo_w30) (w1 := (((w27.setCell ⟨gb419, 0, none⟩ (.slice Ao28 t431.length co28)).setCell ⟨gb419, 1, none⟩ (.int .i64 t434)).setCell ⟨gb419, 2, none⟩ (.int .i64 t435))) ?hg ?ho ?hn ?hr ?_; (case ho => rfl); (case hg => rfl); (case hn => rfl); (case hr => first | (go_simp; done) | (go_simp; rfl)); intro w30 hw; have n0_ : Aside0 (Kd.R (Kd.int .i64) 3 w30 w0.heap.size (fun k_ => (P0_ k_ ∨ w.heap.size ≤ k_) ∧ some k_ ≠ (.slice Ao28 t431.length co28 : Value).ownBlock) (.slice (some ad421) l0.length co17) l0) := ⟨(by rw [hw]; exact (by (with_reducible repeat (first | apply Kd.R_alloc | apply Kd.R_drewN | apply Kd.R_drew)); exact Kd.R_mono (Kd.R_far (p := ⟨gb419, 2, none⟩) (Kd.R_far (p := ⟨gb419, 1, none⟩) (Kd.R_far (p := ⟨gb419, 0, none⟩) (Kd.R_types HO0.out BK419.out (by decide)) (fun _ hk => hk.2) (.slice Ao28 t431.length co28)) (fun _ hk => hk.2) (.int .i64 t434)) (fun _ hk => hk.2) (.int .i64 t435)) (fun _ hk => ⟨hk.1.1, hk.1.2⟩)))⟩; have n1_ : Aside0 (Kd.R (Kd.int .i64) 3 w30 w0.heap.size (fun k_ => (P0_ k_ ∨ w.heap.size ≤ k_) ∧ some k_ ≠ (.slice (some ad421) l0.length co17 : Value).ownBlock) (.slice Ao28 t431.length co28) t431) := ⟨(by rw [hw]; exact (by (with_reducible repeat (first | apply Kd.R_alloc | apply Kd.R_drewN | apply Kd.R_drew)); exact Kd.R_mono (Kd.R_far (p := ⟨gb419, 2, none⟩) (Kd.R_far (p := ⟨gb419, 1, none⟩) (Kd.R_far (p := ⟨gb419, 0, none⟩) (Kd.R_types HO433.out BK419.out (by decide)) (fun _ hk => hk.2) (.slice Ao28 t431.length co28)) (fun _ hk => hk.2) (.int .i64 t434)) (fun _ hk => hk.2) (.int .i64 t435)) (fun _ hk => ⟨hk.1.1.1, hk.1.2⟩)))⟩; have n2_ : Aside0 (w30.heap[gb419]? = some (.cells #[.slice Ao28 t431.length co28, .int .i64 t434, .int .i64 t435] 29 (0, 0))) := ⟨(by rw [hw]; exact (by refine zP9 ?_; refine blk_put (cs := #[.slice Ao28 t431.length co28, .int .i64 t434, .int .i64 a1_2]) ?_ 2 _ rfl; refine zP9 ?_; refine blk_put (cs := #[.slice Ao28 t431.length co28, .int .i64 a1_1, .int .i64 a1_2]) ?_ 1 _ rfl; refine zP9 ?_; refine blk_put (cs := #[.slice A1_0 l1_0.length c1_0, .int .i64 a1_1, .int .i64 a1_2]) ?_ 0 _ rfl; refine zP9 ?_; exact BK419.out))⟩; have n3_ : Aside0 (w30.heap[gb420]? = some (.cells #[.slice none 0 0, .int .i64 0, .int .i64 0] 29 (0, 0))) := ⟨(by rw [hw]; exact (by refine zP9 ?_; refine blk_far ?_ NB420_419.out _; refine zP9 ?_; refine blk_far ?_ NB420_419.out _; refine zP9 ?_; refine blk_far ?_ NB420_419.out _; refine zP9 ?_; exact BK420.out))⟩; have n4_ : Aside0 (w30.heap[gb428]? = some (.cells #[.int .i64 t422, .int .i64 t423, .int .i64 t424, .int .i64 t425, .int .i64 t426] 41 (0, 0))) := ⟨(by rw [hw]; exact (by refine zP9 ?_; refine blk_far ?_ NB428_419.out _; refine zP9 ?_; refine blk_far ?_ NB428_419.out _; refine zP9 ?_; refine blk_far ?_ NB428_419.out _; refine zP9 ?_; exact BK428.out))⟩; have n5_ : Aside0 (Kept w w30 (fun k_ => P0_ k_)) := ⟨(by rw [hw]; exact (zB9_6))⟩; have n6_ : Aside0 (Below w0.heap.size w0 w30) := ⟨(by rw [hw]; exact (zB9_7))⟩; clear hw; clear HO0; clear HO433; clear BK419; clear BK420; clear BK428; clear HK; clear HB; have HO0 := n0_; have HO433 := n1_; have BK419 := n2_; have BK420 := n3_; have BK428 := n4_; have HK := n5_; have HB := n6_; clear n0_ n1_ n2_ n3_ n4_ n5_ n6_; have p12 : 0 ≤ (t429 : Int) := zA9; have q12 : (t429 : Int) < ((l0.length : Int) : Int) := zA9; obtain ⟨go12, co12, eo12, gb12, gl12, cl12, HG12⟩ := Kd.R_form HO0.out (by omega); (first | cases eo12 | (injection eo12 with ea_ en_ ec_; (first | subst ea_ | (injection ea_ with ea_; subst ea_)); subst ec_; clear en_)); have GB12 := Aside0.mk gb12; have GG12 := Aside0.mk HG12; clear gb12 gl12 HG12; have HMgo12 := Aside0.mk (show (P0_ go12 ∨ w.heap.size ≤ go12) from (HO0.out.1 _ rfl).1); (first | simp only [add_plain] at hx421_0 | skip); (first | simp only [add_plain] at hx430_0 | skip); obtain ⟨hx12_0, hf12_0⟩ := Kd.R_celln 0 HO0.out (t429 : Int) p12 q12; replace p12 := eq_true p12; replace q12 := eq_true q12; obtain ⟨hy31_, hz31_⟩ := Kd.R_celln 0 HO0.out (t429 : Int) (zA9) (zA9); have HP31 := Kd.R_putg HO0.out (t429 : Int) t436) | ((with_reducible refine gate_store (t := 3) (p := 41) rfl ?_); refine store_event (t := 3) (p := 41) (v := ?vo_w32) (w1 := (w30.setCell ⟨go12, (t429 : Int).toNat, none⟩ (.int .i64 t436))) ?hg ?ho ?hn ?hr ?_; (case ho => rfl); (case hg => rfl); (case hn => rfl); (case hr => first | (go_simp; done) | (go_simp; rfl)); intro w32 hw; have hg : w30.grownBy w32 (some go12) := (by rw [hw]; exact HP31.2); have hp_ : Kd.R (Kd.int .i64) 3 w32 w0.heap.size (fun k_ => (P0_ k_ ∨ w.heap.size ≤ k_) ∧ some k_ ≠ (.slice Ao28 t431.length co28 : Value).ownBlock) (.slice (some ⟨go12, 0, none⟩) l0.length co17) y437 := (by rw [hw, Ny437.out]; exact HP31.1); clear HP31; have n0_ := Aside0.mk (hp_); have n1_ := Aside0.mk (zg9 BK419.out hg (Kd.R_ne HO0.out BK419.out (by decide))); have n2_ := Aside0.mk (zg9 BK420.out hg (Kd.R_ne HO0.out BK420.out (by decide))); have n3_ := Aside0.mk (zg9 BK428.out hg (Kd.R_ne HO0.out BK428.out (by decide))); have n4_ := Aside0.mk (Kd.R_after (v := (.slice (some ⟨go12, 0, none⟩) l0.length co17)) (v1 := (.slice (some ⟨go12, 0, none⟩) l0.length co17)) (ok := (fun k_ => (P0_ k_ ∨ w.heap.size ≤ k_))) (zR9 HO433.out) hg (.inl rfl)); have n5_ := Aside0.mk ((by rw [hw]; exact below_set (HB.out) GB12.out : Below w0.heap.size w0 w32)); have n6_ := Aside0.mk (Kept.of_grown (S := (fun k_ => P0_ k_)) hg (zB9_6) (fun k_ e_ => (HO0.out.1 k_ e_).1)); clear HO0; clear BK419; clear BK420; clear BK428; clear HO433; clear HB; clear HK; have HO0 := n0_; have BK419 := n1_; have BK420 := n2_; have BK428 := n3_; have HO433 := n4_; have HB := n5_; have HK := n6_; clear n0_ n1_ n2_ n3_ n4_ n5_ n6_; clear hg hw hp_; obtain ⟨hcz33_0, hcz33_1, hcz33_2, hfz33_0, hfz33_1, hfz33_2⟩ := zc9_3 (w := w32) BK419.out; obtain ⟨hcz34_0, hcz34_1, hcz34_2, hfz34_0, hfz34_1, hfz34_2⟩ := zc9_3 (w := w32) BK420.out))
 refine bodyPost_ret (results_cell_row rfl _ _ gb420 29 #[.slice Ao28 t431.length co28, .int .i64 t434, .int .i64 t435] (0, 0) _ rfl (by refine zP9 ?_; refine blk_put (cs := #[.slice Ao28 t431.length co28, .int .i64 t434, .int .i64 0]) ?_ 2 _ rfl; refine zP9 ?_; refine blk_put (cs := #[.slice Ao28 t431.length co28, .int .i64 0, .int .i64 0]) ?_ 1 _ rfl; refine zP9 ?_; refine blk_put (cs := #[.slice none 0 0, .int .i64 0, .int .i64 0]) ?_ 0 _ rfl; refine zP9 ?_; exact BK420.out) Try.underlying29 rfl (by kernel_rfl)) rfl ?_
 exact ⟨_, zE9, by (with_reducible repeat (first | apply Kd.R_alloc | apply Kd.R_drewN | apply Kd.R_drew)); exact Kd.R_mono (Kd.R_far (p := ⟨gb420, 2, none⟩) (Kd.R_far (p := ⟨gb420, 1, none⟩) (Kd.R_far (p := ⟨gb420, 0, none⟩) (Kd.R_types HO433.out BK420.out (by decide)) (fun _ hk => hk.2) (.slice Ao28 t431.length co28)) (fun _ hk => hk.2) (.int .i64 t434)) (fun _ hk => hk.2) (.int .i64 t435)) (fun _ hk => ⟨hk.1.1, hk.1.2⟩), by (with_reducible repeat (first | apply Kd.R_alloc | apply Kd.R_drewN | apply Kd.R_drew)); exact Kd.R_mono (Kd.R_far (p := ⟨gb420, 2, none⟩) (Kd.R_far (p := ⟨gb420, 1, none⟩) (Kd.R_far (p := ⟨gb420, 0, none⟩) (Kd.R_types HO0.out BK420.out (by decide)) (fun _ hk => hk.2) (.slice Ao28 t431.length co28)) (fun _ hk => hk.2) (.int .i64 t434)) (fun _ hk => hk.2) (.int .i64 t435)) (fun _ hk => hk.1.1), zB9_7, zB9_6⟩

/-! ### impl_FlatStep: function 7 -/
def impl_FlatStep.j0 : Nat → List Int → Bool → List Int → Int → Int → Option (List Int × List Int × Int × Int)
 | 0, _, _, _, _, _ => none
 | k + 1, x0, x15, x438000, x438001, x438002 => if x15 = true then ((impl_copyHart.f x438000 x438001 x438002).bind fun bt444 => (some (x0, bt444.1, bt444.2.1, bt444.2.2))) else ((impl_step.f k x0 x438000 x438001 x438002).bind fun bt449 => (some (bt449.2.2.2, bt449.1, bt449.2.1, bt449.2.2.1)))
def impl_FlatStep.f (k : Nat) (l0 : List Int) (l1_0 : List Int) (a1_1 : Int) (a1_2 : Int) : Option (List Int × List Int × Int × Int) := (slices_Clone_int_int.f l0).bind fun t439 => ((impl_memOk.f k t439).bind fun t442 => (if t442 = true then ((impl_goes.f k l1_0 a1_1 a1_2).bind fun t443 => (impl_FlatStep.j0 k t439 (!t443) l1_0 a1_1 a1_2)) else (impl_FlatStep.j0 k t439 true l1_0 a1_1 a1_2)))
theorem impl_FlatStep.mono_l : ∀ k, (∀ y0 y1 y2 y3 y4, LeO (impl_FlatStep.j0 k y0 y1 y2 y3 y4) (impl_FlatStep.j0 (k + 1) y0 y1 y2 y3 y4))
 | 0 => fun _ _ _ _ _ r h => by simp [impl_FlatStep.j0] at h
 | k + 1 => by
  have ih0 := impl_FlatStep.mono_l k
  ·intro y0 y1 y2 y3 y4
   unfold impl_FlatStep.j0
   repeat' first
   | (with_reducible exact ih0 _ _ _ _ _)
   | (with_reducible exact impl_goes.mono _ _ _ _)
   | (with_reducible exact impl_memOk.mono _ _)
   | (with_reducible exact impl_step.mono _ _ _ _ _)
   | (with_reducible exact LeO.refl _)
   | (with_reducible exact LeO.none _)
   | (with_reducible refine LeO.ite ?_ ?_)
   | (with_reducible refine LeO.bind ?_ (fun _ => ?_))
   | exact ih0 _ _ _ _ _
   | exact impl_goes.mono _ _ _ _
   | exact impl_memOk.mono _ _
   | exact impl_step.mono _ _ _ _ _
   | exact LeO.none _
   | refine LeO.ite ?_ ?_
   | refine LeO.bind ?_ (fun _ => ?_)
theorem impl_FlatStep.mono : ∀ a0 a1 a2 a3 k, LeO (impl_FlatStep.f k a0 a1 a2 a3) (impl_FlatStep.f (k + 1) a0 a1 a2 a3) := by
 intro a0 a1 a2 a3 k
 have ih0 := impl_FlatStep.mono_l k
 unfold impl_FlatStep.f
 repeat' first
   | (with_reducible exact ih0 _ _ _ _ _)
   | (with_reducible exact impl_goes.mono _ _ _ _)
   | (with_reducible exact impl_memOk.mono _ _)
   | (with_reducible exact impl_step.mono _ _ _ _ _)
   | (with_reducible exact LeO.refl _)
   | (with_reducible exact LeO.none _)
   | (with_reducible refine LeO.ite ?_ ?_)
   | (with_reducible refine LeO.bind ?_ (fun _ => ?_))
   | exact ih0 _ _ _ _ _
   | exact impl_goes.mono _ _ _ _
   | exact impl_memOk.mono _ _
   | exact impl_step.mono _ _ _ _ _
   | exact LeO.none _
   | refine LeO.ite ?_ ?_
   | refine LeO.bind ?_ (fun _ => ?_)
set_option maxHeartbeats 8000000 in
set_option maxRecDepth 100000 in
theorem impl_FlatStep.calls (k : Nat) (A0 : Option Addr) (c0 : Nat) (l0 : List Int) (A1_0 : Option Addr) (c1_0 : Nat) (l1_0 : List Int) (a1_1 : Int) (a1_2 : Int) (r1 : List Int) (r2 : List Int) (r3 : Int) (r4 : Int) (w : World) (hr0 : Kd.C (Kd.int .i64) w A0 l0.length l0) (hc0 : l0.length ≤ c0) (hr1_0 : Kd.C (Kd.int .i64) w A1_0 l1_0.length l1_0) (hc1_0 : l1_0.length ≤ c1_0) (h : impl_FlatStep.f k l0 l1_0 a1_1 a1_2 = some (r1, r2, r3, r4)) :
  Calls Try.prog 7 #[.slice A0 l0.length c0, .agg #[.slice A1_0 l1_0.length c1_0, .int .i64 a1_1, .int .i64 a1_2]] w fun e w' => ∃ v0_ v1_ : Value, e = .returned (.tuple #[v0_, .agg #[v1_, .int .i64 r3, .int .i64 r4]]) ∧ Kd.R (Kd.int .i64) 3 w' w.heap.size (fun k_ => some k_ ≠ (v1_ : Value).ownBlock) v0_ r1 ∧ Kd.R (Kd.int .i64) 3 w' w.heap.size (fun k_ => some k_ ≠ (v0_ : Value).ownBlock) v1_ r2 ∧ Below w.heap.size w w' := by
 have hu29 := Try.underlying29
 have HR0 := Aside0.mk hr0
 have HC0 := Aside0.mk hc0
 clear hr0 hc0
 have HR1_0 := Aside0.mk hr1_0
 have HC1_0 := Aside0.mk hc1_0
 clear hr1_0 hc1_0
 have HB := Aside0.mk (Below.refl w.heap.size w)
 have H : ((slices_Clone_int_int.f l0).bind fun t439 => ((impl_memOk.f k t439).bind fun t442 => (if t442 = true then ((impl_goes.f k l1_0 a1_1 a1_2).bind fun t443 => (impl_FlatStep.j0 k t439 (!t443) l1_0 a1_1 a1_2)) else (impl_FlatStep.j0 k t439 true l1_0 a1_1 a1_2)))) = some (r1, r2, r3, r4) := h
 clear h
 replace H := Option.bind_eq_some_iff.mp H
 obtain ⟨t439, A30, H⟩ := H
 replace H : ((impl_memOk.f k t439).bind fun t442 => (if t442 = true then ((impl_goes.f k l1_0 a1_1 a1_2).bind fun t443 => (impl_FlatStep.j0 k t439 (!t443) l1_0 a1_1 a1_2)) else (impl_FlatStep.j0 k t439 true l1_0 a1_1 a1_2))) = some (r1, r2, r3, r4) := H
 have A3 := Aside0.mk A30
 clear A30
 have HC4 := Aside0.mk H
 clear H
 go_enter Try.func7, Try.ntmps7
 go_upto_region 2 with (first | ((with_reducible refine gate_dst (N := 3) rfl ?_); refine box_event ?hg (N := 3) ?hd (cs := #[.slice A1_0 l1_0.length c1_0, .int .i64 a1_1, .int .i64 a1_2]) (t := 29) ?hr ?_; (case hd => rfl); (case hg => rfl); (case hr => first | (go_simp; done) | (go_simp; rfl)); intro gb437 hg w5 hbox hb; have n0_ := Aside0.mk (below_step (zB9_1) hb); have n1_ := Aside0.mk (hbox); have n2_ := Aside0.mk ((by rw [hg]; exact (below_size (zB9_1)) : w.heap.size ≤ gb437)); have n3_ := Aside0.mk ((by rw [hg]; exact (below_size (zB9_1)) : w.heap.size ≤ gb437)); clear HB; have HB := n0_; have BK437 := n1_; have GW437 := n2_; have GE437 := n3_; clear n0_ n1_ n2_ n3_; clear hb hbox hg) | ((with_reducible refine gate_dst (N := 5) rfl ?_); refine box_event ?hg (N := 5) ?hd (cs := #[.slice none 0 0, .int .i64 0, .int .i64 0]) (t := 29) ?hr ?_; (case hd => rfl); (case hg => rfl); (case hr => first | (go_simp; done) | (go_simp; rfl)); intro gb438 hg w6 hbox hb; have n0_ := Aside0.mk (zb9 BK437.out hb); have n1_ := Aside0.mk (below_step (zB9_8) hb); have n2_ := Aside0.mk (hbox); have n3_ := Aside0.mk ((by rw [hg]; exact (below_size (zB9_8)) : w.heap.size ≤ gb438)); have n4_ := Aside0.mk ((by rw [hg]; exact (below_size (zB9_8)) : w.heap.size ≤ gb438)); have n5_ := Aside0.mk ((zn9 BK437.out hg : gb437 ≠ gb438)); have n6_ := Aside0.mk ((zm9 BK437.out hg : gb438 ≠ gb437)); clear BK437; clear HB; have BK437 := n0_; have HB := n1_; have BK438 := n2_; have GW438 := n3_; have GE438 := n4_; have NB437_438 := n5_; have NB438_437 := n6_; clear n0_ n1_ n2_ n3_ n4_ n5_ n6_; clear hb hbox hg) | ((with_reducible refine gate_callee (f := 20) rfl ?_); refine goesL_ (some 7) rfl rfl Try.func20 (by kernel_rfl) rfl #[.slice A0 l0.length c0] rfl zT9 ?_; (with_reducible refine (slices_Clone_int_int.calls _ _ l0 t439 _ ?side1 ?side2 A3.out).mono ?_); (case side1 => exact zC9 (Kd.C_below HR0.out HB.out)); (case side2 => exact HC0.out); rintro e w7 ⟨v440, rfl, ho0, hb⟩; refine ⟨_, rfl, ?_⟩; have n0_ := Aside0.mk (Kd.R_lower ho0 (below_size (zB9_9))); have n1_ := Aside0.mk (zb9 BK437.out hb); have n2_ := Aside0.mk (zb9 BK438.out hb); have n3_ := Aside0.mk (below_step (zB9_9) hb); clear BK437; clear BK438; clear HB; have HO441 := n0_; have BK437 := n1_; have BK438 := n2_; have HB := n3_; clear n0_ n1_ n2_ n3_; (try clear hb); (try clear hb2); (try clear hk); (try clear hi); (try clear ho0)))
 (try simp only [Act.put, List.setIfInBounds_toArray, List.set_cons_zero, List.set_cons_succ])
 go_cut [15] (fun v15 wc => ∃ (kq : Nat) (x15_3 : Bool), v15 = .bool x15_3 ∧ Aside0 (impl_FlatStep.j0 kq t439 x15_3 l1_0 a1_1 a1_2 = some (r1, r2, r3, r4)) ∧ Aside0 (kq ≤ k) ∧ Aside0 (Kd.R (Kd.int .i64) 3 wc w.heap.size (fun _ => True) v440 t439) ∧ Aside0 (wc.heap[gb437]? = some (.cells #[(.slice A1_0 l1_0.length c1_0), .int .i64 a1_1, .int .i64 a1_2] 29 (0, 0))) ∧ Aside0 (wc.heap[gb438]? = some (.cells #[(.slice none 0 0), .int .i64 0, .int .i64 0] 29 (0, 0))) ∧ Aside0 (Below w.heap.size w wc))
 case first =>
  have H := HC4.out
  clear HC4
  replace H := Option.bind_eq_some_iff.mp H
  obtain ⟨t442, A80, H⟩ := H
  replace H : (if t442 = true then ((impl_goes.f k l1_0 a1_1 a1_2).bind fun t443 => (impl_FlatStep.j0 k t439 (!t443) l1_0 a1_1 a1_2)) else (impl_FlatStep.j0 k t439 true l1_0 a1_1 a1_2)) = some (r1, r2, r3, r4) := H
  have A8 := Aside0.mk A80
  clear A80
  by_cases c9 : t442 = true
  rotate_left
  ·replace c9 := Bool.eq_false_iff.mpr c9
   subst c9
   have H1 : (impl_FlatStep.j0 k t439 true l1_0 a1_1 a1_2) = some (r1, r2, r3, r4) := by rw [if_neg (show ¬ (false = true) by decide)] at H; exact H
   clear H
   have H := H1
   clear H1
   have H' := Aside0.mk H
   clear H
   obtain ⟨Ao15, co15, eo15⟩ := Kd.R_slice HO441.out
   subst eo15
   go_wp2_with (first | ((with_reducible refine gate_callee (f := 14) rfl ?_); refine goesL_ (some 9) rfl rfl Try.func14 (by kernel_rfl) rfl #[.slice Ao15 t439.length co15] rfl zT9 ?_; (with_reducible refine (impl_memOk.calls k _ _ t439 false _ ?side1 ?side2 A8.out).mono ?_); (case side1 => exact zC9 (Kd.R_reads' HO441.out).2.2); (case side2 => exact (Kd.R_reads' HO441.out).2.1); rintro e w' ⟨rfl, ⟨nd, rfl⟩⟩; refine ⟨_, rfl, ?_⟩))
   go_meet
   case rel => exact ⟨_, (true), (by first | rfl | (simp; done) | (simp [*]; done)), H', ⟨by first | omega | exact Nat.le_refl _⟩, ⟨zR9 HO441.out⟩, ⟨zK9 BK437.out⟩, ⟨zK9 BK438.out⟩, ⟨zB9_9⟩⟩
  subst c9
  have H1 : ((impl_goes.f k l1_0 a1_1 a1_2).bind fun t443 => (impl_FlatStep.j0 k t439 (!t443) l1_0 a1_1 a1_2)) = some (r1, r2, r3, r4) := by rw [if_pos rfl] at H; exact H
  clear H
  have H := H1
  clear H1
  replace H := Option.bind_eq_some_iff.mp H
  obtain ⟨t443, A100, H⟩ := H
  replace H : (impl_FlatStep.j0 k t439 (!t443) l1_0 a1_1 a1_2) = some (r1, r2, r3, r4) := H
  have A10 := Aside0.mk A100
  clear A100
  have H' := Aside0.mk H
  clear H
  obtain ⟨Ao11, co11, eo11⟩ := Kd.R_slice HO441.out
  subst eo11
  go_wp2_with (first | ((with_reducible refine gate_callee (f := 14) rfl ?_); refine goesL_ (some 9) rfl rfl Try.func14 (by kernel_rfl) rfl #[.slice Ao11 t439.length co11] rfl zT9 ?_; (with_reducible refine (impl_memOk.calls k _ _ t439 true _ ?side1 ?side2 A8.out).mono ?_); (case side1 => exact zC9 (Kd.R_reads' HO441.out).2.2); (case side2 => exact (Kd.R_reads' HO441.out).2.1); rintro e w' ⟨rfl, ⟨nd, rfl⟩⟩; refine ⟨_, rfl, ?_⟩; have hnb12 := NB437_438.out; have hnc12 := NB438_437.out; obtain ⟨hcz13_0, hcz13_1, hcz13_2, hfz13_0, hfz13_1, hfz13_2⟩ := zc9_3 (w := w7) BK437.out) | (go_at_call 21; (with_reducible refine (impl_goes.calls k _ _ l1_0 a1_1 a1_2 t443 _ ?side1 ?side2 A10.out).mono ?_); (case side1 => repeat (first | exact (Kd.C_below HR1_0.out (zB9_9)) | (with_reducible refine Kd.C_alloc ?_ _) | (with_reducible refine Kd.C_drewN ?_ _) | (with_reducible refine Kd.C_drew ?_))); (case side2 => exact HC1_0.out); rintro e w14 ⟨rfl, hb⟩; have n0_ := Aside0.mk (Kd.R_below (zR9 HO441.out) hb); have n1_ := Aside0.mk (zb9 BK437.out hb); have n2_ := Aside0.mk (zb9 BK438.out hb); have n3_ := Aside0.mk (below_step (zB9_9) hb); clear HO441; clear BK437; clear BK438; clear HB; have HO441 := n0_; have BK437 := n1_; have BK438 := n2_; have HB := n3_; clear n0_ n1_ n2_ n3_; (try clear hb); (try clear hb2); (try clear hk); (try clear hi)))
  go_meet
  case rel => exact ⟨_, (!t443), (by first | rfl | (simp; done) | (simp [*]; done)), H', ⟨by first | omega | exact Nat.le_refl _⟩, ⟨zR9 HO441.out⟩, ⟨zK9 BK437.out⟩, ⟨zK9 BK438.out⟩, ⟨zB9_9⟩⟩
 case rest =>
  clear HC4
  try clear c1
  try clear c2
  try clear p2
  try clear c7
  try clear c9
  try clear c12
  try clear c14
  try clear hcz13_0
  try clear hcz13_1
  try clear hcz13_2
  try clear hfz13_0
  try clear hfz13_1
  try clear hfz13_2
  obtain ⟨kq, x15_3, rfl, HA, HJ3, HO_0, BK437, BK438, HB⟩ := hcut
  cases kq with
  | zero => exact absurd HA.out (by simp [impl_FlatStep.j0])
  | succ kj3 =>
   have H := HA.out
   clear HA
   simp only [impl_FlatStep.j0] at H
   by_cases c16 : x15_3 = true
   ·subst c16
    have H1 : ((impl_copyHart.f l1_0 a1_1 a1_2).bind fun bt444 => (some (t439, bt444.1, bt444.2.1, bt444.2.2))) = some (r1, r2, r3, r4) := by rw [if_pos rfl] at H; exact H
    clear H
    have H := H1
    clear H1
    replace H := Option.bind_eq_some_iff.mp H
    obtain ⟨⟨t444, t447, t448⟩, A170, H⟩ := H
    replace H : (some (t439, t444, t447, t448)) = some (r1, r2, r3, r4) := H
    have A17 := Aside0.mk A170
    clear A170
    simp only [Option.some.injEq, Prod.mk.injEq] at H
    obtain ⟨rfl, rfl, rfl, rfl⟩ := H
    have hnb18 := NB437_438.out
    have hnc18 := NB438_437.out
    obtain ⟨hcz19_0, hcz19_1, hcz19_2, hfz19_0, hfz19_1, hfz19_2⟩ := zc9_3 (w := wc) BK437.out
    go_wp2_with (first | ((with_reducible refine gate_callee (f := 22) rfl ?_); refine goesL_ (some 18) rfl rfl Try.func22 (by kernel_rfl) rfl #[.agg #[.slice A1_0 l1_0.length c1_0, .int .i64 a1_1, .int .i64 a1_2]] rfl zT9 ?_; (with_reducible refine (impl_copyHart.calls _ _ l1_0 a1_1 a1_2 t444 t447 t448 _ ?side1 ?side2 A17.out).mono ?_); (case side1 => exact zC9 (Kd.C_below HR1_0.out HB.out)); (case side2 => exact HC1_0.out); rintro e w20 ⟨v445, rfl, ho0, hb⟩; refine ⟨_, rfl, ?_⟩; have n0_ := Aside0.mk (Kd.R_elder' (zR9 HO_0.out) (Kd.R_base ho0) hb); have n1_ := Aside0.mk (Kd.R_lower (Kd.R_new' ho0 (Kd.R_lt (zR9 HO_0.out))) (below_size (zB9_9))); have n2_ := Aside0.mk (zb9 BK437.out hb); have n3_ := Aside0.mk (zb9 BK438.out hb); have n4_ := Aside0.mk (below_step (zB9_9) hb); clear HO_0; clear BK437; clear BK438; clear HB; have HO_0 := n0_; have HO446 := n1_; have BK437 := n2_; have BK438 := n3_; have HB := n4_; clear n0_ n1_ n2_ n3_ n4_; (try clear hb); (try clear hb2); (try clear hk); (try clear hi); (try clear ho0); obtain ⟨Ao21, co21, eo21⟩ := Kd.R_slice HO446.out; subst eo21; obtain ⟨hcz22_0, hcz22_1, hcz22_2, hfz22_0, hfz22_1, hfz22_2⟩ := zc9_3 (w := w20) BK438.out))
    refine bodyPost_ret (results_tc rfl _ _ gb438 29 #[.slice Ao21 t444.length co21, .int .i64 t447, .int .i64 t448] (0, 0) _ rfl (by refine zP9 ?_; refine blk_put (cs := #[.slice Ao21 t444.length co21, .int .i64 t447, .int .i64 0]) ?_ 2 _ rfl; refine zP9 ?_; refine blk_put (cs := #[.slice Ao21 t444.length co21, .int .i64 0, .int .i64 0]) ?_ 1 _ rfl; refine zP9 ?_; refine blk_put (cs := #[.slice none 0 0, .int .i64 0, .int .i64 0]) ?_ 0 _ rfl; refine zP9 ?_; exact BK438.out) Try.underlying29 rfl (by kernel_rfl)) rfl ?_
    exact ⟨_, _, zE9, by (with_reducible repeat (first | apply Kd.R_alloc | apply Kd.R_drewN | apply Kd.R_drew)); exact Kd.R_mono (Kd.R_far (p := ⟨gb438, 2, none⟩) (Kd.R_far (p := ⟨gb438, 1, none⟩) (Kd.R_far (p := ⟨gb438, 0, none⟩) (Kd.R_types HO_0.out BK438.out (by decide)) (fun _ hk => hk.2) (.slice Ao21 t444.length co21)) (fun _ hk => hk.2) (.int .i64 t447)) (fun _ hk => hk.2) (.int .i64 t448)) (fun _ hk => hk.1.2), by (with_reducible repeat (first | apply Kd.R_alloc | apply Kd.R_drewN | apply Kd.R_drew)); exact Kd.R_mono (Kd.R_far (p := ⟨gb438, 2, none⟩) (Kd.R_far (p := ⟨gb438, 1, none⟩) (Kd.R_far (p := ⟨gb438, 0, none⟩) (Kd.R_types HO446.out BK438.out (by decide)) (fun _ hk => hk.2) (.slice Ao21 t444.length co21)) (fun _ hk => hk.2) (.int .i64 t447)) (fun _ hk => hk.2) (.int .i64 t448)) (fun _ hk => hk.1.2), zB9_9⟩
   replace c16 := Bool.eq_false_iff.mpr c16
   subst c16
   have H1 : ((impl_step.f kj3 t439 l1_0 a1_1 a1_2).bind fun bt449 => (some (bt449.2.2.2, bt449.1, bt449.2.1, bt449.2.2.1))) = some (r1, r2, r3, r4) := by rw [if_neg (show ¬ (false = true) by decide)] at H; exact H
   clear H
   have H := H1
   clear H1
   replace H := Option.bind_eq_some_iff.mp H
   obtain ⟨⟨t449, t452, t453, t454⟩, A230, H⟩ := H
   replace H : (some (t454, t449, t452, t453)) = some (r1, r2, r3, r4) := H
   have A23 := Aside0.mk A230
   clear A230
   simp only [Option.some.injEq, Prod.mk.injEq] at H
   obtain ⟨rfl, rfl, rfl, rfl⟩ := H
   have hnb24 := NB437_438.out
   have hnc24 := NB438_437.out
   obtain ⟨hcz25_0, hcz25_1, hcz25_2, hfz25_0, hfz25_1, hfz25_2⟩ := zc9_3 (w := wc) BK437.out
   obtain ⟨Ao26, co26, eo26⟩ := Kd.R_slice HO_0.out
   subst eo26
   try go_wp2_with (first | ((with_reducible refine gate_callee (f := 23) rfl ?_); refine goesL_ (some 21) rfl rfl Try.func23 (by kernel_rfl) rfl #[.slice Ao26 t439.length co26, .agg #[.slice A1_0 l1_0.length c1_0, .int .i64 a1_1, .int .i64 a1_2]] rfl zT9 ?_; (with_reducible refine (impl_step.calls kj3 (fun k_ => some k_ = (.slice Ao26 t439.length co26 : Value).ownBlock) (.slice Ao26 t439.length co26) t439 _ _ l1_0 a1_1 a1_2 t449 t452 t453 t454 w _ ?side1 ?side2 ?side3 ?side4 A23.out).mono ?_); (case side1 => exact zB9_9); (case side2 => exact Kd.R_tight rfl HO_0.out); (case side3 => exact Kd.C_kept_came (Kd.heap_int .i64) HR1_0.out (zB9_9) (fun k_ hs_ => (fun e_ => Kd.R_base HO_0.out k_ e_.symm) hs_)); (case side4 => exact HC1_0.out); rintro e w27 ⟨v450, rfl, ho0, hy0, hb, hkp⟩; refine ⟨_, rfl, ?_⟩; have n0_ := Aside0.mk (Kd.R_reok rfl hy0 (fun k_ e_ => HO_0.out.1 k_ e_)); have n1_ := Aside0.mk (blk_kept (zK9 BK437.out) hkp (fun hs_ => (fun e_ => (Kd.R_ne HO_0.out BK437.out (by decide)) e_) hs_)); have n2_ := Aside0.mk (blk_kept (zK9 BK438.out) hkp (fun hs_ => (fun e_ => (Kd.R_ne HO_0.out BK438.out (by decide)) e_) hs_)); have n3_ := Aside0.mk (Kd.R_mono (ok' := fun k_ => some k_ ≠ (.slice Ao26 t439.length co26 : Value).ownBlock) ho0 (fun k_ hk_ => hk_.2)); have n4_ := Aside0.mk (hb); clear HO_0; clear BK437; clear BK438; clear HB; have HO_0 := n0_; have BK437 := n1_; have BK438 := n2_; have HO451 := n3_; have HB := n4_; clear n0_ n1_ n2_ n3_ n4_; (try clear hb); (try clear hkp); (try clear ho0); (try clear hy0); obtain ⟨Ao28, co28, eo28⟩ := Kd.R_slice HO451.out; subst eo28; obtain ⟨hcz29_0, hcz29_1, hcz29_2, hfz29_0, hfz29_1, hfz29_2⟩ := zc9_3 (w := w27) BK437.out))
   have n0_ : Aside0 (Kd.R (Kd.int .i64) 3 (((w27.setCell ⟨gb437, 0, none⟩ (.slice Ao28 t449.length co28)).setCell ⟨gb437, 1, none⟩ (.int .i64 t452)).setCell ⟨gb437, 2, none⟩ (.int .i64 t453)) w.heap.size (fun _ => True) (.slice Ao26 t439.length co26) t454) := ⟨by (with_reducible repeat (first | apply Kd.R_alloc | apply Kd.R_drewN | apply Kd.R_drew)); exact Kd.R_mono (Kd.R_far (p := ⟨gb437, 2, none⟩) (Kd.R_far (p := ⟨gb437, 1, none⟩) (Kd.R_far (p := ⟨gb437, 0, none⟩) (Kd.R_types HO_0.out BK437.out (by decide)) (fun _ hk => hk.2) (.slice Ao28 t449.length co28)) (fun _ hk => hk.2) (.int .i64 t452)) (fun _ hk => hk.2) (.int .i64 t453)) (fun _ hk => trivial)⟩
   have n1_ : Aside0 (Kd.R (Kd.int .i64) 3 (((w27.setCell ⟨gb437, 0, none⟩ (.slice Ao28 t449.length co28)).setCell ⟨gb437, 1, none⟩ (.int .i64 t452)).setCell ⟨gb437, 2, none⟩ (.int .i64 t453)) w.heap.size (fun k_ => some k_ ≠ (.slice Ao26 t439.length co26 : Value).ownBlock) (.slice Ao28 t449.length co28) t449) := ⟨by (with_reducible repeat (first | apply Kd.R_alloc | apply Kd.R_drewN | apply Kd.R_drew)); exact Kd.R_mono (Kd.R_far (p := ⟨gb437, 2, none⟩) (Kd.R_far (p := ⟨gb437, 1, none⟩) (Kd.R_far (p := ⟨gb437, 0, none⟩) (Kd.R_types HO451.out BK437.out (by decide)) (fun _ hk => hk.2) (.slice Ao28 t449.length co28)) (fun _ hk => hk.2) (.int .i64 t452)) (fun _ hk => hk.2) (.int .i64 t453)) (fun _ hk => hk.1)⟩
   have n2_ : Aside0 ((((w27.setCell ⟨gb437, 0, none⟩ (.slice Ao28 t449.length co28)).setCell ⟨gb437, 1, none⟩ (.int .i64 t452)).setCell ⟨gb437, 2, none⟩ (.int .i64 t453)).heap[gb437]? = some (.cells #[.slice Ao28 t449.length co28, .int .i64 t452, .int .i64 t453] 29 (0, 0))) := ⟨by refine zP9 ?_; refine blk_put (cs := #[.slice Ao28 t449.length co28, .int .i64 t452, .int .i64 a1_2]) ?_ 2 _ rfl; refine zP9 ?_; refine blk_put (cs := #[.slice Ao28 t449.length co28, .int .i64 a1_1, .int .i64 a1_2]) ?_ 1 _ rfl; refine zP9 ?_; refine blk_put (cs := #[.slice A1_0 l1_0.length c1_0, .int .i64 a1_1, .int .i64 a1_2]) ?_ 0 _ rfl; refine zP9 ?_; exact BK437.out⟩
   have n3_ : Aside0 ((((w27.setCell ⟨gb437, 0, none⟩ (.slice Ao28 t449.length co28)).setCell ⟨gb437, 1, none⟩ (.int .i64 t452)).setCell ⟨gb437, 2, none⟩ (.int .i64 t453)).heap[gb438]? = some (.cells #[.slice none 0 0, .int .i64 0, .int .i64 0] 29 (0, 0))) := ⟨by refine zP9 ?_; refine blk_far ?_ NB438_437.out _; refine zP9 ?_; refine blk_far ?_ NB438_437.out _; refine zP9 ?_; refine blk_far ?_ NB438_437.out _; refine zP9 ?_; exact BK438.out⟩
   have n4_ : Aside0 (Below w.heap.size w (((w27.setCell ⟨gb437, 0, none⟩ (.slice Ao28 t449.length co28)).setCell ⟨gb437, 1, none⟩ (.int .i64 t452)).setCell ⟨gb437, 2, none⟩ (.int .i64 t453))) := ⟨zB9_9⟩
   (try clear HO_0)
   (try clear HO451)
   (try clear BK437)
   (try clear BK438)
   (try clear HB)
   generalize (((w27.setCell ⟨gb437, 0, none⟩ (.slice Ao28 t449.length co28)).setCell ⟨gb437, 1, none⟩ (.int .i64 t452)).setCell ⟨gb437, 2, none⟩ (.int .i64 t453)) = w30 at n0_ n1_ n2_ n3_ n4_ ⊢
   have HO_0 := n0_
   have HO451 := n1_
   have BK437 := n2_
   have BK438 := n3_
   have HB := n4_
   clear n0_ n1_ n2_ n3_ n4_
   have n0_ := Aside0.mk (Kd.R_drew HO_0.out)
   have n1_ := Aside0.mk (Kd.R_drew HO451.out)
   have n2_ := Aside0.mk (blk_drew BK437.out)
   have n3_ := Aside0.mk (blk_drew BK438.out)
   have n4_ := Aside0.mk (below_drew1 HB.out)
   clear HO_0 HO451 BK437 BK438 HB
   have HO_0 := n0_
   have HO451 := n1_
   have BK437 := n2_
   have BK438 := n3_
   have HB := n4_
   clear n0_ n1_ n2_ n3_ n4_
   refine start_ (n := 4) (S := fun w' => w'.cell? ⟨gb437, 0, none⟩ = some (.slice Ao28 t449.length co28) ∧ w'.cell? ⟨gb437, 1, none⟩ = some (.int .i64 t452) ∧ w'.cell? ⟨gb437, 2, none⟩ = some (.int .i64 t453)) (ds := []) #[false, false, false, false] (by kernel_rfl) rfl rfl ⟨(blk_cell BK437.out 0).trans rfl, (blk_cell BK437.out 1).trans rfl, (blk_cell BK437.out 2).trans rfl⟩ (fun hHeld => ?_)
   generalize w30.drew = w31 at HO_0 HO451 BK437 BK438 HB hHeld ⊢
   refine pure_ (i := 0) (N := some 22) (v := ?_) (a' := ?_) #[true, false, false, false] rfl rfl (by kernel_rfl) (fun _ _ _ h => h) (Or.inl ⟨by rfl, ?_⟩) ?_ ?_
   rotate_left
   ·intro w'
    go_simp
    with_reducible rfl
   rotate_left
   ·exact zV9
   refine pure_ (i := 2) (N := some 4) (v := ?_) (a' := ?_) #[true, false, true, false] rfl rfl (by kernel_rfl) (fun _ _ _ h => h) (Or.inl ⟨by rfl, ?_⟩) ?_ ?_
   rotate_left
   ·intro w'
    go_simp
    with_reducible rfl
   rotate_left
   ·exact zV9
   refine take_ (i := 1) (N := some 23) (v := ?_) (a' := ?_) #[true, true, true, false] rfl rfl (by kernel_rfl) (fun _ _ _ h => h) (Or.inl ⟨by rfl, ?_⟩) hHeld ?_ ?_
   rotate_left
   ·rintro w' ⟨s0, s1, s2⟩
    go_simp
    with_reducible rfl
   rotate_left
   ·exact zV9
   refine one_ (i := 3) (N := none) #[true, true, true, true] rfl rfl (by kernel_rfl) (by decide) (fun K hK => ?_)
   have hs32 : w31.cell? ⟨gb438, 0, none⟩ = some (.slice none 0 0) := (blk_cell BK438.out 0).trans rfl
   have hfs32 := blk_frozen BK438.out 0
   have hns32_0 := NB437_438.out
   have hms32_0 := NB438_437.out
   have hs33 : w31.cell? ⟨gb438, 1, none⟩ = some (.int .i64 0) := (blk_cell BK438.out 1).trans rfl
   have hfs33 := blk_frozen BK438.out 1
   have hns33_0 := NB437_438.out
   have hms33_0 := NB438_437.out
   have hs34 : w31.cell? ⟨gb438, 2, none⟩ = some (.int .i64 0) := (blk_cell BK438.out 2).trans rfl
   have hfs34 := blk_frozen BK438.out 2
   have hns34_0 := NB437_438.out
   have hms34_0 := NB438_437.out
   refine skip_ (w1 := ?_) (by rfl) rfl ?_ ?_
   rotate_left
   ·go_simp
    rfl
   refine hK.out _ _ ⟨((cell_far (p := ⟨gb438, _, none⟩) NB437_438.out _).trans (((cell_far (p := ⟨gb438, _, none⟩) NB437_438.out _).trans (((cell_far (p := ⟨gb438, _, none⟩) NB437_438.out _).trans (hHeld.1)))))), ((cell_far (p := ⟨gb438, _, none⟩) NB437_438.out _).trans (((cell_far (p := ⟨gb438, _, none⟩) NB437_438.out _).trans (((cell_far (p := ⟨gb438, _, none⟩) NB437_438.out _).trans (hHeld.2.1)))))), ((cell_far (p := ⟨gb438, _, none⟩) NB437_438.out _).trans (((cell_far (p := ⟨gb438, _, none⟩) NB437_438.out _).trans (((cell_far (p := ⟨gb438, _, none⟩) NB437_438.out _).trans (hHeld.2.2))))))⟩ (fun hHeld => ?_)
   clear hK K
   refine done_ (by kernel_rfl) ?_
   try go_wp2
   refine bodyPost_ret (results_tc rfl _ _ gb438 29 #[.slice Ao28 t449.length co28, .int .i64 t452, .int .i64 t453] (0, 0) _ rfl (by refine zP9 ?_; refine blk_put (cs := #[.slice Ao28 t449.length co28, .int .i64 t452, .int .i64 0]) ?_ 2 _ rfl; refine zP9 ?_; refine blk_put (cs := #[.slice Ao28 t449.length co28, .int .i64 0, .int .i64 0]) ?_ 1 _ rfl; refine zP9 ?_; refine blk_put (cs := #[.slice none 0 0, .int .i64 0, .int .i64 0]) ?_ 0 _ rfl; refine zP9 ?_; exact BK438.out) Try.underlying29 rfl (by kernel_rfl)) rfl ?_
   exact ⟨_, _, zE9, by (with_reducible repeat (first | apply Kd.R_alloc | apply Kd.R_drewN | apply Kd.R_drew)); exact Kd.R_mono (Kd.R_far (p := ⟨gb438, 2, none⟩) (Kd.R_far (p := ⟨gb438, 1, none⟩) (Kd.R_far (p := ⟨gb438, 0, none⟩) (Kd.R_types (Kd.R_tight rfl HO_0.out) BK438.out (by decide)) (fun _ hk => hk.2) (.slice Ao28 t449.length co28)) (fun _ hk => hk.2) (.int .i64 t452)) (fun _ hk => hk.2) (.int .i64 t453)) (fun k_ hk hs_ => (HO451.out.1 k_ hs_.symm) hk.1), by (with_reducible repeat (first | apply Kd.R_alloc | apply Kd.R_drewN | apply Kd.R_drew)); exact Kd.R_mono (Kd.R_far (p := ⟨gb438, 2, none⟩) (Kd.R_far (p := ⟨gb438, 1, none⟩) (Kd.R_far (p := ⟨gb438, 0, none⟩) (Kd.R_types HO451.out BK438.out (by decide)) (fun _ hk => hk.2) (.slice Ao28 t449.length co28)) (fun _ hk => hk.2) (.int .i64 t452)) (fun _ hk => hk.2) (.int .i64 t453)) (fun _ hk => hk.1), zB9_9⟩

/-! ### laws_within: function 8 -/
def laws_within.l0 : Nat → List Int → Int → Int → Option (Bool)
 | 0, _, _, _ => none
 | k + 1, x0, x1, x5 => if x5 < (x0.length : Int) then (if 0 ≤ x5 then (if (rd x0 x5) = x1 then (some true) else (laws_within.l0 k x0 x1 (wrap64 (x5 + 1)))) else (none)) else (some false)
def laws_within.f (k : Nat) (l0 : List Int) (a1 : Int) : Option (Bool) := laws_within.l0 k l0 a1 0
theorem laws_within.mono_l : ∀ k, (∀ y0 y1 y2, LeO (laws_within.l0 k y0 y1 y2) (laws_within.l0 (k + 1) y0 y1 y2))
 | 0 => fun _ _ _ r h => by simp [laws_within.l0] at h
 | k + 1 => by
  have ih0 := laws_within.mono_l k
  ·intro y0 y1 y2
   unfold laws_within.l0
   repeat' first
   | (with_reducible exact ih0 _ _ _)
   | (with_reducible exact LeO.refl _)
   | (with_reducible exact LeO.none _)
   | (with_reducible refine LeO.ite ?_ ?_)
   | (with_reducible refine LeO.bind ?_ (fun _ => ?_))
   | exact ih0 _ _ _
   | exact LeO.none _
   | refine LeO.ite ?_ ?_
   | refine LeO.bind ?_ (fun _ => ?_)
theorem laws_within.mono : ∀ a0 a1 k, LeO (laws_within.f k a0 a1) (laws_within.f (k + 1) a0 a1) := by
 intro a0 a1 k
 have ih0 := laws_within.mono_l k
 unfold laws_within.f
 repeat' first
   | (with_reducible exact ih0 _ _ _)
   | (with_reducible exact LeO.refl _)
   | (with_reducible exact LeO.none _)
   | (with_reducible refine LeO.ite ?_ ?_)
   | (with_reducible refine LeO.bind ?_ (fun _ => ?_))
   | exact ih0 _ _ _
   | exact LeO.none _
   | refine LeO.ite ?_ ?_
   | refine LeO.bind ?_ (fun _ => ?_)
set_option maxHeartbeats 8000000 in
set_option maxRecDepth 100000 in
theorem laws_within.calls (k : Nat) (A0 : Option Addr) (c0 : Nat) (l0 : List Int) (a1 : Int) (r : Bool) (w : World) (hr0 : Kd.C (Kd.int .i64) w A0 l0.length l0) (hc0 : l0.length ≤ c0) (h : laws_within.f k l0 a1 = some r) :
  Calls Try.prog 8 #[.slice A0 l0.length c0, .int .i64 a1] w fun e w' => e = .returned (.bool r) ∧ Drawn0 w w' := by
 have HR0 := Aside0.mk hr0
 have HC0 := Aside0.mk hc0
 clear hr0 hc0
 have H : (laws_within.l0 k l0 a1 0) = some r := h
 clear h
 have H' := Aside0.mk H
 clear H
 go_enter Try.func8, Try.ntmps8
 go_wp2
 go_loopg [5] k (fun kq v5 w' => ∃ (x5_1 : Int), v5 = .int .i64 x5_1 ∧ Aside0 (laws_within.l0 kq l0 a1 x5_1 = some r) ∧ Aside0 (kq ≤ k) ∧ Drawn0 w w')
 case atStart => exact ⟨(0), (by first | rfl | (simp; done) | (simp [*]; done)), H', ⟨Nat.le_refl _⟩, by repeat (first | exact Drawn0.refl _ | apply Drawn0.step)⟩
 case round =>
  clear H'
  try clear p2
  obtain ⟨x5_1, rfl, HA, HK1, ⟨m1, rfl⟩⟩ := hrel
  cases gk with
  | zero => exact absurd HA.out (by simp [laws_within.l0])
  | succ k1 =>
   have H := HA.out
   clear HA
   simp only [laws_within.l0] at H
   by_cases c3 : x5_1 < (l0.length : Int)
   rotate_left
   ·rw [if_neg c3] at H
    have c3b0 : decide (x5_1 < (l0.length : Int)) = false := decide_eq_false c3
    clear c3
    obtain rfl := Option.some.inj H
    go_wp2
    go_ret
    exact ⟨by first | rfl | (simp; done) | (simp [*]; done), by repeat (first | exact Drawn0.refl _ | apply Drawn0.step)⟩
   rw [if_pos c3] at H
   have c3b0 : decide (x5_1 < (l0.length : Int)) = true := decide_eq_true c3
   clear c3
   by_cases c4 : 0 ≤ x5_1
   rotate_left
   ·rw [if_neg c4] at H
    exact absurd H (by simp)
   rw [if_pos c4] at H
   have c4b0 : decide (0 ≤ x5_1) = true := decide_eq_true c4
   clear c4
   by_cases c5 : (rd l0 x5_1) = a1
   ·rw [if_pos c5] at H
    have c5b0 : ((rd l0 x5_1) == a1) = true := beq_iff_eq.mpr c5
    have c5b1 : ((rd l0 x5_1) != a1) = false := bne_eq_false_iff_eq.mpr c5
    clear c5
    obtain rfl := Option.some.inj H
    have p445 : 0 ≤ (x5_1 : Int) := zA9
    have q445 : x5_1 < (l0.length : Int) := zA9
    obtain ⟨ad445, e445, hx445_0⟩ := Kd.at_int HR0.out x5_1 p445 q445
    cases e445
    replace p445 := eq_true p445
    replace q445 := eq_true q445
    go_wp2
    go_ret
    exact ⟨by first | rfl | (simp; done) | (simp [*]; done), by repeat (first | exact Drawn0.refl _ | apply Drawn0.step)⟩
   rw [if_neg c5] at H
   have c5b0 : ((rd l0 x5_1) == a1) = false := beq_eq_false_iff_ne.mpr c5
   have c5b1 : ((rd l0 x5_1) != a1) = true := bne_iff_ne.mpr c5
   have H' := Aside0.mk H
   clear H
   have p445 : 0 ≤ (x5_1 : Int) := zA9
   have q445 : x5_1 < (l0.length : Int) := zA9
   obtain ⟨ad445, e445, hx445_0⟩ := Kd.at_int HR0.out x5_1 p445 q445
   cases e445
   replace p445 := eq_true p445
   replace q445 := eq_true q445
   go_wp2
   go_roundg k1
   case measure => have := HK1.out; omega
   case rel => exact ⟨(wrap64 (x5_1 + 1)), (by first | rfl | (simp; done) | (simp [*]; done)), H', ⟨by have := HK1.out; omega⟩, by repeat (first | exact Drawn0.refl _ | apply Drawn0.step)⟩

/-! ### slices_Index_int_int: function 42 -/
def slices_Index_int_int.l0 : Nat → List Int → Int → Int → Int → Option (Int)
 | 0, _, _, _, _ => none
 | k + 1, x0, x1, x7, x8 => if x8 < x7 then (if 0 ≤ x8 then (if x8 < (x0.length : Int) then (if x1 = (rd x0 x8) then (some x8) else (slices_Index_int_int.l0 k x0 x1 x7 (wrap64 (x8 + 1)))) else (none)) else (none)) else (some (-1))
def slices_Index_int_int.f (k : Nat) (l0 : List Int) (a1 : Int) : Option (Int) := slices_Index_int_int.l0 k l0 a1 (l0.length : Int) 0
theorem slices_Index_int_int.mono_l : ∀ k, (∀ y0 y1 y2 y3, LeO (slices_Index_int_int.l0 k y0 y1 y2 y3) (slices_Index_int_int.l0 (k + 1) y0 y1 y2 y3))
 | 0 => fun _ _ _ _ r h => by simp [slices_Index_int_int.l0] at h
 | k + 1 => by
  have ih0 := slices_Index_int_int.mono_l k
  ·intro y0 y1 y2 y3
   unfold slices_Index_int_int.l0
   repeat' first
   | (with_reducible exact ih0 _ _ _ _)
   | (with_reducible exact LeO.refl _)
   | (with_reducible exact LeO.none _)
   | (with_reducible refine LeO.ite ?_ ?_)
   | (with_reducible refine LeO.bind ?_ (fun _ => ?_))
   | exact ih0 _ _ _ _
   | exact LeO.none _
   | refine LeO.ite ?_ ?_
   | refine LeO.bind ?_ (fun _ => ?_)
theorem slices_Index_int_int.mono : ∀ a0 a1 k, LeO (slices_Index_int_int.f k a0 a1) (slices_Index_int_int.f (k + 1) a0 a1) := by
 intro a0 a1 k
 have ih0 := slices_Index_int_int.mono_l k
 unfold slices_Index_int_int.f
 repeat' first
   | (with_reducible exact ih0 _ _ _ _)
   | (with_reducible exact LeO.refl _)
   | (with_reducible exact LeO.none _)
   | (with_reducible refine LeO.ite ?_ ?_)
   | (with_reducible refine LeO.bind ?_ (fun _ => ?_))
   | exact ih0 _ _ _ _
   | exact LeO.none _
   | refine LeO.ite ?_ ?_
   | refine LeO.bind ?_ (fun _ => ?_)
set_option maxHeartbeats 8000000 in
set_option maxRecDepth 100000 in
theorem slices_Index_int_int.calls (k : Nat) (A0 : Option Addr) (c0 : Nat) (l0 : List Int) (a1 : Int) (r : Int) (w : World) (hr0 : Kd.C (Kd.int .i64) w A0 l0.length l0) (hc0 : l0.length ≤ c0) (h : slices_Index_int_int.f k l0 a1 = some r) :
  Calls Try.prog 42 #[.slice A0 l0.length c0, .int .i64 a1] w fun e w' => e = .returned (.int .i64 r) ∧ Drawn0 w w' := by
 have HR0 := Aside0.mk hr0
 have HC0 := Aside0.mk hc0
 clear hr0 hc0
 have H : (slices_Index_int_int.l0 k l0 a1 (l0.length : Int) 0) = some r := h
 clear h
 have H' := Aside0.mk H
 clear H
 go_enter Try.func42, Try.ntmps42
 go_wp2
 go_loopg [8] k (fun kq v8 w' => ∃ (x8_1 : Int), v8 = .int .i64 x8_1 ∧ Aside0 (slices_Index_int_int.l0 kq l0 a1 (l0.length : Int) x8_1 = some r) ∧ Aside0 (kq ≤ k) ∧ Drawn0 w w')
 case atStart => exact ⟨(0), (by first | rfl | (simp; done) | (simp [*]; done)), H', ⟨Nat.le_refl _⟩, by repeat (first | exact Drawn0.refl _ | apply Drawn0.step)⟩
 case round =>
  clear H'
  try clear p2
  obtain ⟨x8_1, rfl, HA, HK1, ⟨m1, rfl⟩⟩ := hrel
  cases gk with
  | zero => exact absurd HA.out (by simp [slices_Index_int_int.l0])
  | succ k1 =>
   have H := HA.out
   clear HA
   simp only [slices_Index_int_int.l0] at H
   by_cases c3 : x8_1 < (l0.length : Int)
   rotate_left
   ·rw [if_neg c3] at H
    have c3b0 : decide (x8_1 < (l0.length : Int)) = false := decide_eq_false c3
    clear c3
    obtain rfl := Option.some.inj H
    go_wp2
    go_ret
    exact ⟨by first | rfl | (simp; done) | (simp [*]; done), by repeat (first | exact Drawn0.refl _ | apply Drawn0.step)⟩
   rw [if_pos c3] at H
   have c3b0 : decide (x8_1 < (l0.length : Int)) = true := decide_eq_true c3
   clear c3
   by_cases c4 : 0 ≤ x8_1
   rotate_left
   ·rw [if_neg c4] at H
    exact absurd H (by simp)
   rw [if_pos c4] at H
   have c4b0 : decide (0 ≤ x8_1) = true := decide_eq_true c4
   clear c4
   by_cases c5 : x8_1 < (l0.length : Int)
   rotate_left
   ·rw [if_neg c5] at H
    exact absurd H (by simp)
   rw [if_pos c5] at H
   have c5b0 : decide (x8_1 < (l0.length : Int)) = true := decide_eq_true c5
   clear c5
   by_cases c6 : a1 = (rd l0 x8_1)
   ·rw [if_pos c6] at H
    have c6b0 : (a1 == (rd l0 x8_1)) = true := beq_iff_eq.mpr c6
    have c6b1 : (a1 != (rd l0 x8_1)) = false := bne_eq_false_iff_eq.mpr c6
    clear c6
    obtain rfl := Option.some.inj H
    have p446 : 0 ≤ (x8_1 : Int) := zA9
    have q446 : x8_1 < (l0.length : Int) := zA9
    obtain ⟨ad446, e446, hx446_0⟩ := Kd.at_int HR0.out x8_1 p446 q446
    cases e446
    replace p446 := eq_true p446
    replace q446 := eq_true q446
    go_wp2
    go_ret
    exact ⟨by first | rfl | (simp; done) | (simp [*]; done), by repeat (first | exact Drawn0.refl _ | apply Drawn0.step)⟩
   rw [if_neg c6] at H
   have c6b0 : (a1 == (rd l0 x8_1)) = false := beq_eq_false_iff_ne.mpr c6
   have c6b1 : (a1 != (rd l0 x8_1)) = true := bne_iff_ne.mpr c6
   have H' := Aside0.mk H
   clear H
   have p446 : 0 ≤ (x8_1 : Int) := zA9
   have q446 : x8_1 < (l0.length : Int) := zA9
   obtain ⟨ad446, e446, hx446_0⟩ := Kd.at_int HR0.out x8_1 p446 q446
   cases e446
   replace p446 := eq_true p446
   replace q446 := eq_true q446
   go_wp2
   go_roundg k1
   case measure => have := HK1.out; omega
   case rel => exact ⟨(wrap64 (x8_1 + 1)), (by first | rfl | (simp; done) | (simp [*]; done)), H', ⟨by have := HK1.out; omega⟩, by repeat (first | exact Drawn0.refl _ | apply Drawn0.step)⟩

/-! ### slices_Contains_int_int: function 26 -/
def slices_Contains_int_int.f (k : Nat) (l0 : List Int) (a1 : Int) : Option (Bool) := (slices_Index_int_int.f k l0 a1).bind fun t447 => (some (decide (t447 ≥ 0)))
theorem slices_Contains_int_int.mono : ∀ a0 a1 k, LeO (slices_Contains_int_int.f k a0 a1) (slices_Contains_int_int.f (k + 1) a0 a1) := by
 intro a0 a1 k
 unfold slices_Contains_int_int.f
 repeat' first
   | (with_reducible exact slices_Index_int_int.mono _ _ _)
   | (with_reducible exact LeO.refl _)
   | (with_reducible exact LeO.none _)
   | (with_reducible refine LeO.ite ?_ ?_)
   | (with_reducible refine LeO.bind ?_ (fun _ => ?_))
   | exact slices_Index_int_int.mono _ _ _
   | exact LeO.none _
   | refine LeO.ite ?_ ?_
   | refine LeO.bind ?_ (fun _ => ?_)
set_option maxHeartbeats 8000000 in
set_option maxRecDepth 100000 in
theorem slices_Contains_int_int.calls (k : Nat) (A0 : Option Addr) (c0 : Nat) (l0 : List Int) (a1 : Int) (r : Bool) (w : World) (hr0 : Kd.C (Kd.int .i64) w A0 l0.length l0) (hc0 : l0.length ≤ c0) (h : slices_Contains_int_int.f k l0 a1 = some r) :
  Calls Try.prog 26 #[.slice A0 l0.length c0, .int .i64 a1] w fun e w' => e = .returned (.bool r) ∧ Drawn0 w w' := by
 have HR0 := Aside0.mk hr0
 have HC0 := Aside0.mk hc0
 clear hr0 hc0
 have H : ((slices_Index_int_int.f k l0 a1).bind fun t447 => (some (decide (t447 ≥ 0)))) = some r := h
 clear h
 replace H := Option.bind_eq_some_iff.mp H
 obtain ⟨t447, A30, H⟩ := H
 replace H : (some (decide (t447 ≥ 0))) = some r := H
 have A3 := Aside0.mk A30
 clear A30
 obtain rfl := Option.some.inj H
 go_enter Try.func26, Try.ntmps26
 go_wp2_with (first | ((with_reducible refine gate_callee (f := 42) rfl ?_); refine goesL_ (some 7) rfl rfl Try.func42 (by kernel_rfl) rfl #[.slice A0 l0.length c0, .int .i64 a1] rfl zT9 ?_; (with_reducible refine (slices_Index_int_int.calls k _ _ l0 a1 t447 _ ?side1 ?side2 A3.out).mono ?_); (case side1 => exact zC9 HR0.out); (case side2 => exact HC0.out); rintro e w' ⟨rfl, ⟨nd, rfl⟩⟩; refine ⟨_, rfl, ?_⟩))
 go_ret
 exact ⟨by first | rfl | (simp; done) | (simp [*]; done), by repeat (first | exact Drawn0.refl _ | apply Drawn0.step)⟩

end Go.Proofs.Ytmfhfnpinmlloaa.PFnGoes
