-- made by wip/tools/myprint.py out of the seat's translation
import Derived.Test.YtajhfpeijagpnaaPFnResumesx0
import Derived.Test.YtajhfpeijagpnaaPFnResumesx5
import Derived.Test.YtajhfpeijagpnaaPFnResumesx6
import Derived.Test.YtajhfpeijagpnaaPFnResumesx7
import Derived.Test.YtajhfpeijagpnaaPFnResumesx8
namespace Go.Proofs.Ytajhfpeijagpnaa.PFnResumes
open Go.RowKit Go.Proofs.YtajhfpeijagpnaaW.PrintWords Go.Proofs.YtajhfpeijagpnaaW.PrintLast Go.Proofs.YtajhfpeijagpnaaW.PrintMore
attribute [local go_sem] max2_int min2_int max_two min_two max_three min_three max_four min_four   -- for this text's walks alone
set_option linter.unusedVariables false
set_option linter.unusedSimpArgs false
theorem zc9_3 {w : World} {g : Nat} {a0 a1 a2 : Value} {t : TypeId} (h : w.heap[g]? = some (.cells #[a0, a1, a2] t (0, 0))) : w.cell? ⟨g, 0, none⟩ = some a0 ∧ w.cell? ⟨g, 1, none⟩ = some a1 ∧ w.cell? ⟨g, 2, none⟩ = some a2 ∧ w.frozen? ⟨g, 0, none⟩ = false ∧ w.frozen? ⟨g, 1, none⟩ = false ∧ w.frozen? ⟨g, 2, none⟩ = false := ⟨(blk_cell h 0).trans rfl, (blk_cell h 1).trans rfl, (blk_cell h 2).trans rfl, blk_frozen h 0, blk_frozen h 1, blk_frozen h 2⟩
theorem zc9_5 {w : World} {g : Nat} {a0 a1 a2 a3 a4 : Value} {t : TypeId} (h : w.heap[g]? = some (.cells #[a0, a1, a2, a3, a4] t (0, 0))) : w.cell? ⟨g, 0, none⟩ = some a0 ∧ w.cell? ⟨g, 1, none⟩ = some a1 ∧ w.cell? ⟨g, 2, none⟩ = some a2 ∧ w.cell? ⟨g, 3, none⟩ = some a3 ∧ w.cell? ⟨g, 4, none⟩ = some a4 ∧ w.frozen? ⟨g, 0, none⟩ = false ∧ w.frozen? ⟨g, 1, none⟩ = false ∧ w.frozen? ⟨g, 2, none⟩ = false ∧ w.frozen? ⟨g, 3, none⟩ = false ∧ w.frozen? ⟨g, 4, none⟩ = false := ⟨(blk_cell h 0).trans rfl, (blk_cell h 1).trans rfl, (blk_cell h 2).trans rfl, (blk_cell h 3).trans rfl, (blk_cell h 4).trans rfl, blk_frozen h 0, blk_frozen h 1, blk_frozen h 2, blk_frozen h 3, blk_frozen h 4⟩
theorem zR9 {p q : Prop} (x : q) (h : q → p := by intro h; (with_reducible repeat (first | apply Kd.R_alloc | apply Kd.R_drewN | apply Kd.R_drew)); exact h) : p := h x
theorem zS9 {p q : Prop} (x : q) (h : q → p := by intro h; (with_reducible repeat (first | apply Kd.S_alloc | apply Kd.S_drewN | apply Kd.S_drew)); exact h) : p := h x
theorem zK9 {p q : Prop} (x : q) (h : q → p := by intro h; (with_reducible repeat (first | refine blk_drewN ?_ _ | refine blk_drew ?_ | refine blk_alloc ?_ _)); exact h) : p := h x
theorem zA9 {p : Prop} [Decidable p] (h : decide p = true := by first | (with_reducible assumption) | assumption) : p := of_decide_eq_true h
theorem zT9 {p : Prop} (h : p := by (try simp only [List.map_toArray, List.map_cons, List.map_nil]); first | done | rfl | (simp only [List.length_drop, List.length_take]; rfl)) : p := h
theorem zC9 {p q : Prop} (x : q) (h : q → p := by intro h; repeat (first | exact h | (with_reducible refine Kd.C_alloc ?_ _) | (with_reducible refine Kd.C_drewN ?_ _) | (with_reducible refine Kd.C_drew ?_))) : p := h x
theorem zb9 {W w w1 : World} {g : Nat} {o : Obj} (x : W.heap[g]? = some o) (hb : Below w.heap.size w w1) (h : W.heap[g]? = some o → w.heap[g]? = some o := by intro h; (with_reducible repeat (first | refine blk_drewN ?_ _ | refine blk_drew ?_ | refine blk_alloc ?_ _)); exact h) : w1.heap[g]? = some o := blk_below (h x) hb
theorem zg9 {W w w1 : World} {g : Nat} {o : Obj} {row : Option Nat} (x : W.heap[g]? = some o) (hg : w.grownBy w1 row) (hne : some g ≠ row) (h : W.heap[g]? = some o → w.heap[g]? = some o := by intro h; (with_reducible repeat (first | refine blk_drewN ?_ _ | refine blk_drew ?_ | refine blk_alloc ?_ _)); exact h) : w1.heap[g]? = some o := blk_grown (h x) hg hne
theorem zn9 {W w : World} {g g' : Nat} {o : Obj} (x : W.heap[g]? = some o) (hg : g' = w.heap.size) (h : W.heap[g]? = some o → w.heap[g]? = some o := by intro h; (with_reducible repeat (first | refine blk_drewN ?_ _ | refine blk_drew ?_ | refine blk_alloc ?_ _)); exact h) : g ≠ g' := by rw [hg]; exact Nat.ne_of_lt (blk_lt (h x))
theorem zm9 {W w : World} {g g' : Nat} {o : Obj} (x : W.heap[g]? = some o) (hg : g' = w.heap.size) (h : W.heap[g]? = some o → w.heap[g]? = some o := by intro h; (with_reducible repeat (first | refine blk_drewN ?_ _ | refine blk_drew ?_ | refine blk_alloc ?_ _)); exact h) : g' ≠ g := by rw [hg]; exact Nat.ne_of_gt (blk_lt (h x))
theorem zP9 {p q : Prop} (x : q) (h : q → p := by intro h; (with_reducible repeat (first | refine blk_drewN ?_ _ | refine blk_drew ?_ | refine blk_alloc ?_ _)); exact h) : p := h x
theorem zE9 {p : Prop} (h : p := by first | rfl | (simp [errW_none, errW_some] <;> rfl) | (simp [*, errW_none, errW_some] <;> rfl)) : p := h
theorem zB9_0 {p : Prop} (h : p := by repeat (first | (with_reducible first | exact HK.out | apply Kept.alloc | apply Kept.drewN | apply Kept.drew) | exact HK.out)) : p := h
theorem zB9_1 {p : Prop} (h : p := by repeat (first | (with_reducible first | exact HB.out | apply below_alloc | apply pw_below_drewN | apply below_drew1) | exact HB.out)) : p := h
theorem zB9_2 {p : Prop} (h : p := by repeat (first | (with_reducible first | exact HK.out | apply Kept.alloc | apply Kept.drewN | apply Kept.drew | refine Kept.setCell ?_ (.inr GW405.out) _) | exact HK.out)) : p := h
theorem zB9_3 {p : Prop} (h : p := by repeat (first | (with_reducible first | exact HB.out | apply below_alloc | apply pw_below_drewN | apply below_drew1 | refine below_set ?_ GE405.out) | exact HB.out)) : p := h
theorem zB9_4 {p : Prop} (h : p := by repeat (first | (with_reducible first | exact HK.out | apply Kept.alloc | apply Kept.drewN | apply Kept.drew | refine Kept.setCell ?_ (.inr GW405.out) _ | refine Kept.setCell ?_ (.inr GW406.out) _) | exact HK.out)) : p := h
theorem zB9_5 {p : Prop} (h : p := by repeat (first | (with_reducible first | exact HB.out | apply below_alloc | apply pw_below_drewN | apply below_drew1 | refine below_set ?_ GE405.out | refine below_set ?_ GE406.out) | exact HB.out)) : p := h
theorem zB9_6 {p : Prop} (h : p := by repeat (first | (with_reducible first | exact HK.out | apply Kept.alloc | apply Kept.drewN | apply Kept.drew | refine Kept.setCell ?_ (.inr GW405.out) _ | refine Kept.setCell ?_ (.inr GW406.out) _ | refine Kept.setCell ?_ (.inr GW414.out) _) | exact HK.out)) : p := h
theorem zB9_7 {p : Prop} (h : p := by repeat (first | (with_reducible first | exact HB.out | apply below_alloc | apply pw_below_drewN | apply below_drew1 | refine below_set ?_ GE405.out | refine below_set ?_ GE406.out | refine below_set ?_ GE414.out) | exact HB.out)) : p := h

/-! ### impl_step: function 72 -/
def impl_step.f (k : Nat) (l0 : List Int) (l1_0 : List Int) (a1_1 : Int) (a1_2 : Int) : Option (List Int × Int × Int × List Int) := if 0 ≤ a1_1 then (if a1_1 < (l0.length : Int) then ((impl_Decode.f (rd l0 a1_1)).bind fun bt408 => ((impl_Target.f bt408.1 bt408.2.1 bt408.2.2.1 bt408.2.2.2.1 bt408.2.2.2.2.1 l1_0).bind fun t415 => (if t415 ≥ 0 then (if 0 ≤ t415 then (if t415 < (l0.length : Int) then ((impl_Work.f k l1_0 a1_1 a1_2 bt408.1 bt408.2.1 bt408.2.2.1 bt408.2.2.2.1 bt408.2.2.2.2.1 (rd l0 t415)).bind fun bt417 => (if bt417.2.2.2 ≥ 0 then (some (bt417.1, bt417.2.1, bt417.2.2.1, (l0.set (t415 : Int).toNat bt417.2.2.2))) else (some (bt417.1, bt417.2.1, bt417.2.2.1, l0)))) else (none)) else (none)) else ((impl_Work.f k l1_0 a1_1 a1_2 bt408.1 bt408.2.1 bt408.2.2.1 bt408.2.2.2.1 bt408.2.2.2.2.1 0).bind fun bt424 => (if bt424.2.2.2 ≥ 0 then (if 0 ≤ t415 then (if t415 < (l0.length : Int) then (some (bt424.1, bt424.2.1, bt424.2.2.1, (l0.set (t415 : Int).toNat bt424.2.2.2))) else (none)) else (none)) else (some (bt424.1, bt424.2.1, bt424.2.2.1, l0))))))) else (none)) else (none)
theorem impl_step.mono : ∀ a0 a1 a2 a3 k, LeO (impl_step.f k a0 a1 a2 a3) (impl_step.f (k + 1) a0 a1 a2 a3) := by
 intro a0 a1 a2 a3 k
 unfold impl_step.f
 repeat' first
   | (with_reducible exact impl_Work.mono _ _ _ _ _ _ _ _ _ _)
   | (with_reducible exact LeO.refl _)
   | (with_reducible exact LeO.none _)
   | (with_reducible refine LeO.ite ?_ ?_)
   | (with_reducible refine LeO.bind ?_ (fun _ => ?_))
   | exact impl_Work.mono _ _ _ _ _ _ _ _ _ _
   | exact LeO.none _
   | refine LeO.ite ?_ ?_
   | refine LeO.bind ?_ (fun _ => ?_)
set_option maxHeartbeats 8000000 in
set_option maxRecDepth 100000 in
theorem impl_step.calls (k : Nat) (P0_ : Nat → Prop) (u9000_ : Value) (l0 : List Int) (A1_0 : Option Addr) (c1_0 : Nat) (l1_0 : List Int) (a1_1 : Int) (a1_2 : Int) (r1 : List Int) (r2 : Int) (r3 : Int) (r4 : List Int) (w0 w : World) (hB : Below w0.heap.size w0 w) (ho0 : Kd.R (Kd.int .i64) 3 w w0.heap.size P0_ u9000_ l0) (hr1_0 : ∀ W_, Kept w W_ (fun k_ => P0_ k_) → Kd.C (Kd.int .i64) W_ A1_0 l1_0.length l1_0) (hc1_0 : l1_0.length ≤ c1_0) (h : impl_step.f k l0 l1_0 a1_1 a1_2 = some (r1, r2, r3, r4)) :
  Calls Try.prog 72 #[u9000_, .agg #[.slice A1_0 l1_0.length c1_0, .int .i64 a1_1, .int .i64 a1_2]] w fun e w' => ∃ v0_ : Value, e = .returned (.agg #[v0_, .int .i64 r2, .int .i64 r3]) ∧ Kd.R (Kd.int .i64) 3 w' w0.heap.size (fun k_ => (P0_ k_ ∨ w.heap.size ≤ k_) ∧ some k_ ≠ (u9000_ : Value).ownBlock) v0_ r1 ∧ Kd.R (Kd.int .i64) 3 w' w0.heap.size (fun k_ => (P0_ k_ ∨ w.heap.size ≤ k_)) u9000_ r4 ∧ Below w0.heap.size w0 w' ∧ Kept w w' (fun k_ => P0_ k_) := by
 have hu47 := Try.underlying47
 have hu66 := Try.underlying66
 have HO0 := Aside0.mk (show Kd.R (Kd.int .i64) 3 w w0.heap.size (fun k_ => (P0_ k_ ∨ w.heap.size ≤ k_)) u9000_ l0 from Kd.R_mono ho0 (fun k_ hk => (.inl hk)))
 have HR1_0 := Aside0.mk hr1_0
 have HC1_0 := Aside0.mk hc1_0
 clear hr1_0 hc1_0
 have HK := Aside0.mk (Kept.refl w (fun k_ => P0_ k_))
 have HW0 := Aside0.mk hB.size
 have HB := Aside0.mk hB
 clear hB
 have H : (if 0 ≤ a1_1 then (if a1_1 < (l0.length : Int) then ((impl_Decode.f (rd l0 a1_1)).bind fun bt408 => ((impl_Target.f bt408.1 bt408.2.1 bt408.2.2.1 bt408.2.2.2.1 bt408.2.2.2.2.1 l1_0).bind fun t415 => (if t415 ≥ 0 then (if 0 ≤ t415 then (if t415 < (l0.length : Int) then ((impl_Work.f k l1_0 a1_1 a1_2 bt408.1 bt408.2.1 bt408.2.2.1 bt408.2.2.2.1 bt408.2.2.2.2.1 (rd l0 t415)).bind fun bt417 => (if bt417.2.2.2 ≥ 0 then (some (bt417.1, bt417.2.1, bt417.2.2.1, (l0.set (t415 : Int).toNat bt417.2.2.2))) else (some (bt417.1, bt417.2.1, bt417.2.2.1, l0)))) else (none)) else (none)) else ((impl_Work.f k l1_0 a1_1 a1_2 bt408.1 bt408.2.1 bt408.2.2.1 bt408.2.2.2.1 bt408.2.2.2.2.1 0).bind fun bt424 => (if bt424.2.2.2 ≥ 0 then (if 0 ≤ t415 then (if t415 < (l0.length : Int) then (some (bt424.1, bt424.2.1, bt424.2.2.1, (l0.set (t415 : Int).toNat bt424.2.2.2))) else (none)) else (none)) else (some (bt424.1, bt424.2.1, bt424.2.2.1, l0))))))) else (none)) else (none)) = some (r1, r2, r3, r4) := h
 clear h
 by_cases c3 : 0 ≤ a1_1
 rotate_left
 ·rw [if_neg c3] at H
  exact absurd H (by simp)
 rw [if_pos c3] at H
 have c3b0 : decide (0 ≤ a1_1) = true := decide_eq_true c3
 clear c3
 by_cases c4 : a1_1 < (l0.length : Int)
 rotate_left
 ·rw [if_neg c4] at H
  exact absurd H (by simp)
 rw [if_pos c4] at H
 have c4b0 : decide (a1_1 < (l0.length : Int)) = true := decide_eq_true c4
 clear c4
 replace H := Option.bind_eq_some_iff.mp H
 obtain ⟨⟨t408, t409, t410, t411, t412, t413⟩, A50, H⟩ := H
 replace H : ((impl_Target.f t408 t409 t410 t411 t412 l1_0).bind fun t415 => (if t415 ≥ 0 then (if 0 ≤ t415 then (if t415 < (l0.length : Int) then ((impl_Work.f k l1_0 a1_1 a1_2 t408 t409 t410 t411 t412 (rd l0 t415)).bind fun bt417 => (if bt417.2.2.2 ≥ 0 then (some (bt417.1, bt417.2.1, bt417.2.2.1, (l0.set (t415 : Int).toNat bt417.2.2.2))) else (some (bt417.1, bt417.2.1, bt417.2.2.1, l0)))) else (none)) else (none)) else ((impl_Work.f k l1_0 a1_1 a1_2 t408 t409 t410 t411 t412 0).bind fun bt424 => (if bt424.2.2.2 ≥ 0 then (if 0 ≤ t415 then (if t415 < (l0.length : Int) then (some (bt424.1, bt424.2.1, bt424.2.2.1, (l0.set (t415 : Int).toNat bt424.2.2.2))) else (none)) else (none)) else (some (bt424.1, bt424.2.1, bt424.2.2.1, l0)))))) = some (r1, r2, r3, r4) := H
 have A5 := Aside0.mk A50
 clear A50
 replace H := Option.bind_eq_some_iff.mp H
 obtain ⟨t415, A60, H⟩ := H
 replace H : (if t415 ≥ 0 then (if 0 ≤ t415 then (if t415 < (l0.length : Int) then ((impl_Work.f k l1_0 a1_1 a1_2 t408 t409 t410 t411 t412 (rd l0 t415)).bind fun bt417 => (if bt417.2.2.2 ≥ 0 then (some (bt417.1, bt417.2.1, bt417.2.2.1, (l0.set (t415 : Int).toNat bt417.2.2.2))) else (some (bt417.1, bt417.2.1, bt417.2.2.1, l0)))) else (none)) else (none)) else ((impl_Work.f k l1_0 a1_1 a1_2 t408 t409 t410 t411 t412 0).bind fun bt424 => (if bt424.2.2.2 ≥ 0 then (if 0 ≤ t415 then (if t415 < (l0.length : Int) then (some (bt424.1, bt424.2.1, bt424.2.2.1, (l0.set (t415 : Int).toNat bt424.2.2.2))) else (none)) else (none)) else (some (bt424.1, bt424.2.1, bt424.2.2.1, l0))))) = some (r1, r2, r3, r4) := H
 have A6 := Aside0.mk A60
 clear A60
 by_cases c7 : t415 ≥ 0
 rotate_left
 ·rw [if_neg c7] at H
  have c7b0 : decide (0 ≤ t415) = false := decide_eq_false c7
  clear c7
  replace H := Option.bind_eq_some_iff.mp H
  obtain ⟨⟨t424, t427, t428, t429⟩, A530, H⟩ := H
  replace H : (if t429 ≥ 0 then (if 0 ≤ t415 then (if t415 < (l0.length : Int) then (some (t424, t427, t428, (l0.set (t415 : Int).toNat t429))) else (none)) else (none)) else (some (t424, t427, t428, l0))) = some (r1, r2, r3, r4) := H
  have A53 := Aside0.mk A530
  clear A530
  by_cases c54 : t429 ≥ 0
  rotate_left
  ·rw [if_neg c54] at H
   have c54b0 : decide (0 ≤ t429) = false := decide_eq_false c54
   clear c54
   simp only [Option.some.injEq, Prod.mk.injEq] at H
   obtain ⟨rfl, rfl, rfl, rfl⟩ := H
   go_enter Try.func72, Try.ntmps72
   go_wp2_with (first | ((with_reducible refine gate_dst (N := 3) rfl ?_); refine box_event ?hg (N := 3) ?hd (cs := #[.slice A1_0 l1_0.length c1_0, .int .i64 a1_1, .int .i64 a1_2]) (t := 47) ?hr ?_; (case hd => rfl); (case hg => rfl); (case hr => first | (go_simp; done) | (go_simp; rfl)); intro gb405 hg w80 hbox hb; have n0_ := Aside0.mk (Kd.R_below (zR9 HO0.out) hb); have n1_ := Aside0.mk (Kept.below (S := (fun k_ => P0_ k_)) (zB9_0) hb); have n2_ := Aside0.mk (below_step (zB9_1) hb); have n3_ := Aside0.mk (hbox); have n4_ := Aside0.mk ((by rw [hg]; exact (by first | exact HK.out.1 | exact (show Kept w _ (fun k_ => P0_ k_) from zB9_0).1) : w.heap.size ≤ gb405)); have n5_ := Aside0.mk ((by rw [hg]; exact (below_size (zB9_1)) : w0.heap.size ≤ gb405)); clear HO0; clear HK; clear HB; have HO0 := n0_; have HK := n1_; have HB := n2_; have BK405 := n3_; have GW405 := n4_; have GE405 := n5_; clear n0_ n1_ n2_ n3_ n4_ n5_; clear hb hbox hg) | ((with_reducible refine gate_dst (N := 4) rfl ?_); refine box_event ?hg (N := 4) ?hd (cs := #[.slice none 0 0, .int .i64 0, .int .i64 0]) (t := 47) ?hr ?_; (case hd => rfl); (case hg => rfl); (case hr => first | (go_simp; done) | (go_simp; rfl)); intro gb406 hg w81 hbox hb; have n0_ := Aside0.mk (Kd.R_below (zR9 HO0.out) hb); have n1_ := Aside0.mk (zb9 BK405.out hb); have n2_ := Aside0.mk (Kept.below (S := (fun k_ => P0_ k_)) (zB9_2) hb); have n3_ := Aside0.mk (below_step (zB9_3) hb); have n4_ := Aside0.mk (hbox); have n5_ := Aside0.mk ((by rw [hg]; exact (by first | exact HK.out.1 | exact (show Kept w _ (fun k_ => P0_ k_) from zB9_2).1) : w.heap.size ≤ gb406)); have n6_ := Aside0.mk ((by rw [hg]; exact (below_size (zB9_3)) : w0.heap.size ≤ gb406)); have n7_ := Aside0.mk ((zn9 BK405.out hg : gb405 ≠ gb406)); have n8_ := Aside0.mk ((zm9 BK405.out hg : gb406 ≠ gb405)); clear HO0; clear BK405; clear HK; clear HB; have HO0 := n0_; have BK405 := n1_; have HK := n2_; have HB := n3_; have BK406 := n4_; have GW406 := n5_; have GE406 := n6_; have NB405_406 := n7_; have NB406_405 := n8_; clear n0_ n1_ n2_ n3_ n4_ n5_ n6_ n7_ n8_; clear hb hbox hg; have hnb82 := NB405_406.out; have hnc82 := NB406_405.out; obtain ⟨hcz83_0, hcz83_1, hcz83_2, hfz83_0, hfz83_1, hfz83_2⟩ := zc9_3 (w := w81) BK405.out; obtain ⟨Ao84, co84, eo84⟩ := Kd.R_slice HO0.out; subst eo84; have p407 : 0 ≤ (a1_1 : Int) := zA9; have q407 : a1_1 < (l0.length : Int) := zA9; obtain ⟨ad407, e407, hx407_0⟩ := Kd.at_int (Kd.R_reads' HO0.out).2.2 a1_1 p407 q407; cases e407; replace p407 := eq_true p407; replace q407 := eq_true q407) | ((with_reducible refine gate_callee (f := 57) rfl ?_); refine goesL_ (some 16) rfl rfl Try.func57 (by kernel_rfl) rfl #[.int .i64 (rd l0 a1_1)] rfl zT9 ?_; (with_reducible refine (impl_Decode.calls (rd l0 a1_1) t408 t409 t410 t411 t412 t413 _ A5.out).mono ?_); rintro e w85 ⟨rfl, hb⟩; refine ⟨_, rfl, ?_⟩; have n0_ := Aside0.mk (Kd.R_below (zR9 HO0.out) hb); have n1_ := Aside0.mk (zb9 BK405.out hb); have n2_ := Aside0.mk (zb9 BK406.out hb); have n3_ := Aside0.mk (Kept.below (S := (fun k_ => P0_ k_)) (zB9_4) hb); have n4_ := Aside0.mk (below_step (zB9_5) hb); clear HO0; clear BK405; clear BK406; clear HK; clear HB; have HO0 := n0_; have BK405 := n1_; have BK406 := n2_; have HK := n3_; have HB := n4_; clear n0_ n1_ n2_ n3_ n4_; (try clear hb); (try clear hb2); (try clear hk); (try clear hi)) | ((with_reducible refine gate_dst (N := 5) rfl ?_); refine box_event ?hg (N := 5) ?hd (cs := #[.int .i64 0, .int .i64 0, .int .i64 0, .int .i64 0, .int .i64 0]) (t := 66) ?hr ?_; (case hd => rfl); (case hg => rfl); (case hr => first | (go_simp; done) | (go_simp; rfl)); intro gb414 hg w86 hbox hb; have n0_ := Aside0.mk (Kd.R_below (zR9 HO0.out) hb); have n1_ := Aside0.mk (zb9 BK405.out hb); have n2_ := Aside0.mk (zb9 BK406.out hb); have n3_ := Aside0.mk (Kept.below (S := (fun k_ => P0_ k_)) (zB9_4) hb); have n4_ := Aside0.mk (below_step (zB9_5) hb); have n5_ := Aside0.mk (hbox); have n6_ := Aside0.mk ((by rw [hg]; exact (by first | exact HK.out.1 | exact (show Kept w _ (fun k_ => P0_ k_) from zB9_4).1) : w.heap.size ≤ gb414)); have n7_ := Aside0.mk ((by rw [hg]; exact (below_size (zB9_5)) : w0.heap.size ≤ gb414)); have n8_ := Aside0.mk ((zn9 BK405.out hg : gb405 ≠ gb414)); have n9_ := Aside0.mk ((zm9 BK405.out hg : gb414 ≠ gb405)); have n10_ := Aside0.mk ((zn9 BK406.out hg : gb406 ≠ gb414)); have n11_ := Aside0.mk ((zm9 BK406.out hg : gb414 ≠ gb406)); clear HO0; clear BK405; clear BK406; clear HK; clear HB; have HO0 := n0_; have BK405 := n1_; have BK406 := n2_; have HK := n3_; have HB := n4_; have BK414 := n5_; have GW414 := n6_; have GE414 := n7_; have NB405_414 := n8_; have NB414_405 := n9_; have NB406_414 := n10_; have NB414_406 := n11_; clear n0_ n1_ n2_ n3_ n4_ n5_ n6_ n7_ n8_ n9_ n10_ n11_; clear hb hbox hg; have hnb87 := NB414_405.out; have hnc87 := NB405_414.out; have hnb88 := NB414_406.out; have hnc88 := NB406_414.out; obtain ⟨hcz89_0, hcz89_1, hcz89_2, hcz89_3, hcz89_4, hfz89_0, hfz89_1, hfz89_2, hfz89_3, hfz89_4⟩ := zc9_5 (w := w86) BK414.out; obtain ⟨hcz90_0, hcz90_1, hcz90_2, hfz90_0, hfz90_1, hfz90_2⟩ := zc9_3 (w := w86) BK405.out) | ((with_reducible refine gate_callee (f := 97) rfl ?_); refine goesL_ (some 22) rfl rfl Try.func97 (by kernel_rfl) rfl #[.agg #[.int .i64 t408, .int .i64 t409, .int .i64 t410, .int .i64 t411, .int .i64 t412], .slice A1_0 l1_0.length c1_0] rfl zT9 ?_; (with_reducible refine (impl_Target.calls t408 t409 t410 t411 t412 _ _ l1_0 t415 _ ?side1 ?side2 A6.out).mono ?_); (case side1 => exact Kd.C_kept_now HR1_0.out (zB9_6)); (case side2 => exact HC1_0.out); rintro e w91 ⟨rfl, hb⟩; refine ⟨_, rfl, ?_⟩; have n0_ := Aside0.mk (Kd.R_below (by (with_reducible repeat (first | apply Kd.R_alloc | apply Kd.R_drewN | apply Kd.R_drew)); exact (Kd.R_mono (Kd.R_far (p := ⟨gb414, 4, none⟩) (Kd.R_far (p := ⟨gb414, 3, none⟩) (Kd.R_far (p := ⟨gb414, 2, none⟩) (Kd.R_far (p := ⟨gb414, 1, none⟩) (Kd.R_far (p := ⟨gb414, 0, none⟩) (Kd.R_types HO0.out BK414.out (by decide)) (fun _ hk => hk.2) (.int .i64 t408)) (fun _ hk => hk.2) (.int .i64 t409)) (fun _ hk => hk.2) (.int .i64 t410)) (fun _ hk => hk.2) (.int .i64 t411)) (fun _ hk => hk.2) (.int .i64 t412)) (fun _ h_ => h_.1))) hb); have n1_ := Aside0.mk (blk_below (g := gb405) (o := .cells #[.slice A1_0 l1_0.length c1_0, .int .i64 a1_1, .int .i64 a1_2] 47 (0, 0)) (by refine zP9 ?_; refine blk_far ?_ NB405_414.out _; refine zP9 ?_; refine blk_far ?_ NB405_414.out _; refine zP9 ?_; refine blk_far ?_ NB405_414.out _; refine zP9 ?_; refine blk_far ?_ NB405_414.out _; refine zP9 ?_; refine blk_far ?_ NB405_414.out _; refine zP9 ?_; exact BK405.out) hb); have n2_ := Aside0.mk (blk_below (g := gb406) (o := .cells #[.slice none 0 0, .int .i64 0, .int .i64 0] 47 (0, 0)) (by refine zP9 ?_; refine blk_far ?_ NB406_414.out _; refine zP9 ?_; refine blk_far ?_ NB406_414.out _; refine zP9 ?_; refine blk_far ?_ NB406_414.out _; refine zP9 ?_; refine blk_far ?_ NB406_414.out _; refine zP9 ?_; refine blk_far ?_ NB406_414.out _; refine zP9 ?_; exact BK406.out) hb); have n3_ := Aside0.mk (blk_below (g := gb414) (o := .cells #[.int .i64 t408, .int .i64 t409, .int .i64 t410, .int .i64 t411, .int .i64 t412] 66 (0, 0)) (by refine zP9 ?_; refine blk_put (cs := #[.int .i64 t408, .int .i64 t409, .int .i64 t410, .int .i64 t411, .int .i64 0]) ?_ 4 _ rfl; refine zP9 ?_; refine blk_put (cs := #[.int .i64 t408, .int .i64 t409, .int .i64 t410, .int .i64 0, .int .i64 0]) ?_ 3 _ rfl; refine zP9 ?_; refine blk_put (cs := #[.int .i64 t408, .int .i64 t409, .int .i64 0, .int .i64 0, .int .i64 0]) ?_ 2 _ rfl; refine zP9 ?_; refine blk_put (cs := #[.int .i64 t408, .int .i64 0, .int .i64 0, .int .i64 0, .int .i64 0]) ?_ 1 _ rfl; refine zP9 ?_; refine blk_put (cs := #[.int .i64 0, .int .i64 0, .int .i64 0, .int .i64 0, .int .i64 0]) ?_ 0 _ rfl; refine zP9 ?_; exact BK414.out) hb); have n4_ := Aside0.mk (Kept.below (S := (fun k_ => P0_ k_)) (zB9_6) hb); have n5_ := Aside0.mk (below_step (zB9_7) hb); clear HO0; clear BK405; clear BK406; clear BK414; clear HK; clear HB; have HO0 := n0_; have BK405 := n1_; have BK406 := n2_; have BK414 := n3_; have HK := n4_; have HB := n5_; clear n0_ n1_ n2_ n3_ n4_ n5_; (try clear hb); (try clear hb2); (try clear hk); (try clear hi); obtain ⟨hcz92_0, hcz92_1, hcz92_2, hfz92_0, hfz92_1, hfz92_2⟩ := zc9_3 (w := w91) BK405.out; obtain ⟨hcz93_0, hcz93_1, hcz93_2, hcz93_3, hcz93_4, hfz93_0, hfz93_1, hfz93_2, hfz93_3, hfz93_4⟩ := zc9_5 (w := w91) BK414.out) | ((with_reducible refine gate_callee (f := 98) rfl ?_); refine goesL_ (some 33) rfl rfl Try.func98 (by kernel_rfl) rfl #[.agg #[.slice A1_0 l1_0.length c1_0, .int .i64 a1_1, .int .i64 a1_2], .agg #[.int .i64 t408, .int .i64 t409, .int .i64 t410, .int .i64 t411, .int .i64 t412], .int .i64 0] rfl zT9 ?_; (with_reducible refine (impl_Work.calls k _ _ l1_0 a1_1 a1_2 t408 t409 t410 t411 t412 0 t424 t427 t428 t429 _ ?side1 ?side2 A53.out).mono ?_); (case side1 => exact Kd.C_kept_now HR1_0.out (zB9_6)); (case side2 => exact HC1_0.out); rintro e w94 ⟨v425, rfl, ho0, hb⟩; refine ⟨_, rfl, ?_⟩; have n0_ := Aside0.mk (Kd.R_elder' (zR9 HO0.out) (Kd.R_base ho0) hb); have n1_ := Aside0.mk (Kd.R_lower (Kd.R_new' (Kd.R_newM (M := fun k_ => (P0_ k_ ∨ w.heap.size ≤ k_)) ho0 (by first | exact HK.out.1 | exact (show Kept w _ (fun k_ => P0_ k_) from zB9_6).1) (fun k_ h_ => .inr h_)) (Kd.R_lt (zR9 HO0.out))) (below_size (zB9_7))); have n2_ := Aside0.mk (zb9 BK405.out hb); have n3_ := Aside0.mk (zb9 BK406.out hb); have n4_ := Aside0.mk (zb9 BK414.out hb); have n5_ := Aside0.mk (Kept.below (S := (fun k_ => P0_ k_)) (zB9_6) hb); have n6_ := Aside0.mk (below_step (zB9_7) hb); clear HO0; clear BK405; clear BK406; clear BK414; clear HK; clear HB; have HO0 := n0_; have HO426 := n1_; have BK405 := n2_; have BK406 := n3_; have BK414 := n4_; have HK := n5_; have HB := n6_; clear n0_ n1_ n2_ n3_ n4_ n5_ n6_; (try clear hb); (try clear hb2); (try clear hk); (try clear hi); (try clear ho0); obtain ⟨Ao95, co95, eo95⟩ := Kd.R_slice HO426.out; subst eo95; obtain ⟨hcz96_0, hcz96_1, hcz96_2, hfz96_0, hfz96_1, hfz96_2⟩ := zc9_3 (w := w94) BK405.out; obtain ⟨hcz97_0, hcz97_1, hcz97_2, hfz97_0, hfz97_1, hfz97_2⟩ := zc9_3 (w := w94) BK406.out))
   refine bodyPost_ret (results_cell_row rfl _ _ gb406 47 #[.slice Ao95 t424.length co95, .int .i64 t427, .int .i64 t428] (0, 0) _ rfl (by refine zP9 ?_; refine blk_put (cs := #[.slice Ao95 t424.length co95, .int .i64 t427, .int .i64 0]) ?_ 2 _ rfl; refine zP9 ?_; refine blk_put (cs := #[.slice Ao95 t424.length co95, .int .i64 0, .int .i64 0]) ?_ 1 _ rfl; refine zP9 ?_; refine blk_put (cs := #[.slice none 0 0, .int .i64 0, .int .i64 0]) ?_ 0 _ rfl; refine zP9 ?_; refine blk_far ?_ NB406_405.out _; refine zP9 ?_; refine blk_far ?_ NB406_405.out _; refine zP9 ?_; refine blk_far ?_ NB406_405.out _; refine zP9 ?_; exact BK406.out) Try.underlying47 rfl (by kernel_rfl)) rfl ?_
   exact ⟨_, zE9, by (with_reducible repeat (first | apply Kd.R_alloc | apply Kd.R_drewN | apply Kd.R_drew)); exact Kd.R_mono (Kd.R_far (p := ⟨gb406, 2, none⟩) (Kd.R_far (p := ⟨gb406, 1, none⟩) (Kd.R_far (p := ⟨gb406, 0, none⟩) (Kd.R_far (p := ⟨gb405, 2, none⟩) (Kd.R_far (p := ⟨gb405, 1, none⟩) (Kd.R_far (p := ⟨gb405, 0, none⟩) (Kd.R_types (Kd.R_types HO426.out BK405.out (by decide)) BK406.out (by decide)) (fun _ hk => hk.1.2) (.slice Ao95 t424.length co95)) (fun _ hk => hk.1.2) (.int .i64 t427)) (fun _ hk => hk.1.2) (.int .i64 t428)) (fun _ hk => hk.2) (.slice Ao95 t424.length co95)) (fun _ hk => hk.2) (.int .i64 t427)) (fun _ hk => hk.2) (.int .i64 t428)) (fun _ hk => ⟨hk.1.1.1.1, hk.1.1.2⟩), by (with_reducible repeat (first | apply Kd.R_alloc | apply Kd.R_drewN | apply Kd.R_drew)); exact Kd.R_mono (Kd.R_far (p := ⟨gb406, 2, none⟩) (Kd.R_far (p := ⟨gb406, 1, none⟩) (Kd.R_far (p := ⟨gb406, 0, none⟩) (Kd.R_far (p := ⟨gb405, 2, none⟩) (Kd.R_far (p := ⟨gb405, 1, none⟩) (Kd.R_far (p := ⟨gb405, 0, none⟩) (Kd.R_types (Kd.R_types HO0.out BK405.out (by decide)) BK406.out (by decide)) (fun _ hk => hk.1.2) (.slice Ao95 t424.length co95)) (fun _ hk => hk.1.2) (.int .i64 t427)) (fun _ hk => hk.1.2) (.int .i64 t428)) (fun _ hk => hk.2) (.slice Ao95 t424.length co95)) (fun _ hk => hk.2) (.int .i64 t427)) (fun _ hk => hk.2) (.int .i64 t428)) (fun _ hk => hk.1.1.1), zB9_7, zB9_6⟩
  rw [if_pos c54] at H
  have c54b0 : decide (0 ≤ t429) = true := decide_eq_true c54
  clear c54
  by_cases c55 : 0 ≤ t415
  rotate_left
  ·rw [if_neg c55] at H
   exact absurd H (by simp)
  rw [if_pos c55] at H
  have c55b0 : decide (0 ≤ t415) = true := decide_eq_true c55
  clear c55
  by_cases c56 : t415 < (l0.length : Int)
  rotate_left
  ·rw [if_neg c56] at H
   exact absurd H (by simp)
  rw [if_pos c56] at H
  have c56b0 : decide (t415 < (l0.length : Int)) = true := decide_eq_true c56
  clear c56
  obtain ⟨y430, hy430⟩ : ∃ y_ : List Int, y_ = (l0.set (t415 : Int).toNat t429) := ⟨_, rfl⟩
  replace H : (some (t424, t427, t428, y430)) = some (r1, r2, r3, r4) := by first | (rw [hy430]; with_reducible exact H) | (have H2_ := (Option.bind_some _ _).symm.trans H; rw [hy430]; with_reducible exact H2_) | (have H2_ := (Option.bind_some _ _).symm.trans H; with_reducible exact H2_) | with_reducible exact H | (rw [hy430]; exact H) | exact H
  have Ny430 := Aside0.mk hy430
  clear hy430
  simp only [Option.some.injEq, Prod.mk.injEq] at H
  obtain ⟨rfl, rfl, rfl, rfl⟩ := H
  go_enter Try.func72, Try.ntmps72
  go_wp2_with (first | ((with_reducible refine gate_dst (N := 3) rfl ?_); refine box_event ?hg (N := 3) ?hd (cs := #[.slice A1_0 l1_0.length c1_0, .int .i64 a1_1, .int .i64 a1_2]) (t := 47) ?hr ?_; (case hd => rfl); (case hg => rfl); (case hr => first | (go_simp; done) | (go_simp; rfl)); intro gb405 hg w58 hbox hb; have n0_ := Aside0.mk (Kd.R_below (zR9 HO0.out) hb); have n1_ := Aside0.mk (Kept.below (S := (fun k_ => P0_ k_)) (zB9_0) hb); have n2_ := Aside0.mk (below_step (zB9_1) hb); have n3_ := Aside0.mk (hbox); have n4_ := Aside0.mk ((by rw [hg]; exact (by first | exact HK.out.1 | exact (show Kept w _ (fun k_ => P0_ k_) from zB9_0).1) : w.heap.size ≤ gb405)); have n5_ := Aside0.mk ((by rw [hg]; exact (below_size (zB9_1)) : w0.heap.size ≤ gb405)); clear HO0; clear HK; clear HB; have HO0 := n0_; have HK := n1_; have HB := n2_; have BK405 := n3_; have GW405 := n4_; have GE405 := n5_; clear n0_ n1_ n2_ n3_ n4_ n5_; clear hb hbox hg) | ((with_reducible refine gate_dst (N := 4) rfl ?_); refine box_event ?hg (N := 4) ?hd (cs := #[.slice none 0 0, .int .i64 0, .int .i64 0]) (t := 47) ?hr ?_; (case hd => rfl); (case hg => rfl); (case hr => first | (go_simp; done) | (go_simp; rfl)); intro gb406 hg w59 hbox hb; have n0_ := Aside0.mk (Kd.R_below (zR9 HO0.out) hb); have n1_ := Aside0.mk (zb9 BK405.out hb); have n2_ := Aside0.mk (Kept.below (S := (fun k_ => P0_ k_)) (zB9_2) hb); have n3_ := Aside0.mk (below_step (zB9_3) hb); have n4_ := Aside0.mk (hbox); have n5_ := Aside0.mk ((by rw [hg]; exact (by first | exact HK.out.1 | exact (show Kept w _ (fun k_ => P0_ k_) from zB9_2).1) : w.heap.size ≤ gb406)); have n6_ := Aside0.mk ((by rw [hg]; exact (below_size (zB9_3)) : w0.heap.size ≤ gb406)); have n7_ := Aside0.mk ((zn9 BK405.out hg : gb405 ≠ gb406)); have n8_ := Aside0.mk ((zm9 BK405.out hg : gb406 ≠ gb405)); clear HO0; clear BK405; clear HK; clear HB; have HO0 := n0_; have BK405 := n1_; have HK := n2_; have HB := n3_; have BK406 := n4_; have GW406 := n5_; have GE406 := n6_; have NB405_406 := n7_; have NB406_405 := n8_; clear n0_ n1_ n2_ n3_ n4_ n5_ n6_ n7_ n8_; clear hb hbox hg; have hnb60 := NB405_406.out; have hnc60 := NB406_405.out; obtain ⟨hcz61_0, hcz61_1, hcz61_2, hfz61_0, hfz61_1, hfz61_2⟩ := zc9_3 (w := w59) BK405.out; obtain ⟨Ao62, co62, eo62⟩ := Kd.R_slice HO0.out; subst eo62; have p407 : 0 ≤ (a1_1 : Int) := zA9; have q407 : a1_1 < (l0.length : Int) := zA9; obtain ⟨ad407, e407, hx407_0⟩ := Kd.at_int (Kd.R_reads' HO0.out).2.2 a1_1 p407 q407; cases e407; replace p407 := eq_true p407; replace q407 := eq_true q407) | ((with_reducible refine gate_callee (f := 57) rfl ?_); refine goesL_ (some 16) rfl rfl Try.func57 (by kernel_rfl) rfl #[.int .i64 (rd l0 a1_1)] rfl zT9 ?_; (with_reducible refine (impl_Decode.calls (rd l0 a1_1) t408 t409 t410 t411 t412 t413 _ A5.out).mono ?_); rintro e w63 ⟨rfl, hb⟩; refine ⟨_, rfl, ?_⟩; have n0_ := Aside0.mk (Kd.R_below (zR9 HO0.out) hb); have n1_ := Aside0.mk (zb9 BK405.out hb); have n2_ := Aside0.mk (zb9 BK406.out hb); have n3_ := Aside0.mk (Kept.below (S := (fun k_ => P0_ k_)) (zB9_4) hb); have n4_ := Aside0.mk (below_step (zB9_5) hb); clear HO0; clear BK405; clear BK406; clear HK; clear HB; have HO0 := n0_; have BK405 := n1_; have BK406 := n2_; have HK := n3_; have HB := n4_; clear n0_ n1_ n2_ n3_ n4_; (try clear hb); (try clear hb2); (try clear hk); (try clear hi)) | ((with_reducible refine gate_dst (N := 5) rfl ?_); refine box_event ?hg (N := 5) ?hd (cs := #[.int .i64 0, .int .i64 0, .int .i64 0, .int .i64 0, .int .i64 0]) (t := 66) ?hr ?_; (case hd => rfl); (case hg => rfl); (case hr => first | (go_simp; done) | (go_simp; rfl)); intro gb414 hg w64 hbox hb; have n0_ := Aside0.mk (Kd.R_below (zR9 HO0.out) hb); have n1_ := Aside0.mk (zb9 BK405.out hb); have n2_ := Aside0.mk (zb9 BK406.out hb); have n3_ := Aside0.mk (Kept.below (S := (fun k_ => P0_ k_)) (zB9_4) hb); have n4_ := Aside0.mk (below_step (zB9_5) hb); have n5_ := Aside0.mk (hbox); have n6_ := Aside0.mk ((by rw [hg]; exact (by first | exact HK.out.1 | exact (show Kept w _ (fun k_ => P0_ k_) from zB9_4).1) : w.heap.size ≤ gb414)); have n7_ := Aside0.mk ((by rw [hg]; exact (below_size (zB9_5)) : w0.heap.size ≤ gb414)); have n8_ := Aside0.mk ((zn9 BK405.out hg : gb405 ≠ gb414)); have n9_ := Aside0.mk ((zm9 BK405.out hg : gb414 ≠ gb405)); have n10_ := Aside0.mk ((zn9 BK406.out hg : gb406 ≠ gb414)); have n11_ := Aside0.mk ((zm9 BK406.out hg : gb414 ≠ gb406)); clear HO0; clear BK405; clear BK406; clear HK; clear HB; have HO0 := n0_; have BK405 := n1_; have BK406 := n2_; have HK := n3_; have HB := n4_; have BK414 := n5_; have GW414 := n6_; have GE414 := n7_; have NB405_414 := n8_; have NB414_405 := n9_; have NB406_414 := n10_; have NB414_406 := n11_; clear n0_ n1_ n2_ n3_ n4_ n5_ n6_ n7_ n8_ n9_ n10_ n11_; clear hb hbox hg; have hnb65 := NB414_405.out; have hnc65 := NB405_414.out; have hnb66 := NB414_406.out; have hnc66 := NB406_414.out; obtain ⟨hcz67_0, hcz67_1, hcz67_2, hcz67_3, hcz67_4, hfz67_0, hfz67_1, hfz67_2, hfz67_3, hfz67_4⟩ := zc9_5 (w := w64) BK414.out; obtain ⟨hcz68_0, hcz68_1, hcz68_2, hfz68_0, hfz68_1, hfz68_2⟩ := zc9_3 (w := w64) BK405.out) | ((with_reducible refine gate_callee (f := 97) rfl ?_); refine goesL_ (some 22) rfl rfl Try.func97 (by kernel_rfl) rfl #[.agg #[.int .i64 t408, .int .i64 t409, .int .i64 t410, .int .i64 t411, .int .i64 t412], .slice A1_0 l1_0.length c1_0] rfl zT9 ?_; (with_reducible refine (impl_Target.calls t408 t409 t410 t411 t412 _ _ l1_0 t415 _ ?side1 ?side2 A6.out).mono ?_); (case side1 => exact Kd.C_kept_now HR1_0.out (zB9_6)); (case side2 => exact HC1_0.out); rintro e w69 ⟨rfl, hb⟩; refine ⟨_, rfl, ?_⟩; have n0_ := Aside0.mk (Kd.R_below (by (with_reducible repeat (first | apply Kd.R_alloc | apply Kd.R_drewN | apply Kd.R_drew)); exact (Kd.R_mono (Kd.R_far (p := ⟨gb414, 4, none⟩) (Kd.R_far (p := ⟨gb414, 3, none⟩) (Kd.R_far (p := ⟨gb414, 2, none⟩) (Kd.R_far (p := ⟨gb414, 1, none⟩) (Kd.R_far (p := ⟨gb414, 0, none⟩) (Kd.R_types HO0.out BK414.out (by decide)) (fun _ hk => hk.2) (.int .i64 t408)) (fun _ hk => hk.2) (.int .i64 t409)) (fun _ hk => hk.2) (.int .i64 t410)) (fun _ hk => hk.2) (.int .i64 t411)) (fun _ hk => hk.2) (.int .i64 t412)) (fun _ h_ => h_.1))) hb); have n1_ := Aside0.mk (blk_below (g := gb405) (o := .cells #[.slice A1_0 l1_0.length c1_0, .int .i64 a1_1, .int .i64 a1_2] 47 (0, 0)) (by refine zP9 ?_; refine blk_far ?_ NB405_414.out _; refine zP9 ?_; refine blk_far ?_ NB405_414.out _; refine zP9 ?_; refine blk_far ?_ NB405_414.out _; refine zP9 ?_; refine blk_far ?_ NB405_414.out _; refine zP9 ?_; refine blk_far ?_ NB405_414.out _; refine zP9 ?_; exact BK405.out) hb); have n2_ := Aside0.mk (blk_below (g := gb406) (o := .cells #[.slice none 0 0, .int .i64 0, .int .i64 0] 47 (0, 0)) (by refine zP9 ?_; refine blk_far ?_ NB406_414.out _; refine zP9 ?_; refine blk_far ?_ NB406_414.out _; refine zP9 ?_; refine blk_far ?_ NB406_414.out _; refine zP9 ?_; refine blk_far ?_ NB406_414.out _; refine zP9 ?_; refine blk_far ?_ NB406_414.out _; refine zP9 ?_; exact BK406.out) hb); have n3_ := Aside0.mk (blk_below (g := gb414) (o := .cells #[.int .i64 t408, .int .i64 t409, .int .i64 t410, .int .i64 t411, .int .i64 t412] 66 (0, 0)) (by refine zP9 ?_; refine blk_put (cs := #[.int .i64 t408, .int .i64 t409, .int .i64 t410, .int .i64 t411, .int .i64 0]) ?_ 4 _ rfl; refine zP9 ?_; refine blk_put (cs := #[.int .i64 t408, .int .i64 t409, .int .i64 t410, .int .i64 0, .int .i64 0]) ?_ 3 _ rfl; refine zP9 ?_; refine blk_put (cs := #[.int .i64 t408, .int .i64 t409, .int .i64 0, .int .i64 0, .int .i64 0]) ?_ 2 _ rfl; refine zP9 ?_; refine blk_put (cs := #[.int .i64 t408, .int .i64 0, .int .i64 0, .int .i64 0, .int .i64 0]) ?_ 1 _ rfl; refine zP9 ?_; refine blk_put (cs := #[.int .i64 0, .int .i64 0, .int .i64 0, .int .i64 0, .int .i64 0]) ?_ 0 _ rfl; refine zP9 ?_; exact BK414.out) hb); have n4_ := Aside0.mk (Kept.below (S := (fun k_ => P0_ k_)) (zB9_6) hb); have n5_ := Aside0.mk (below_step (zB9_7) hb); clear HO0; clear BK405; clear BK406; clear BK414; clear HK; clear HB; have HO0 := n0_; have BK405 := n1_; have BK406 := n2_; have BK414 := n3_; have HK := n4_; have HB := n5_; clear n0_ n1_ n2_ n3_ n4_ n5_; (try clear hb); (try clear hb2); (try clear hk); (try clear hi); obtain ⟨hcz70_0, hcz70_1, hcz70_2, hfz70_0, hfz70_1, hfz70_2⟩ := zc9_3 (w := w69) BK405.out; obtain ⟨hcz71_0, hcz71_1, hcz71_2, hcz71_3, hcz71_4, hfz71_0, hfz71_1, hfz71_2, hfz71_3, hfz71_4⟩ := zc9_5 (w := w69) BK414.out) | ((with_reducible refine gate_callee (f := 98) rfl ?_); refine goesL_ (some 33) rfl rfl Try.func98 (by kernel_rfl) rfl #[.agg #[.slice A1_0 l1_0.length c1_0, .int .i64 a1_1, .int .i64 a1_2], .agg #[.int .i64 t408, .int .i64 t409, .int .i64 t410, .int .i64 t411, .int .i64 t412], .int .i64 0] rfl zT9 ?_; (with_reducible refine (impl_Work.calls k _ _ l1_0 a1_1 a1_2 t408 t409 t410 t411 t412 0 t424 t427 t428 t429 _ ?side1 ?side2 A53.out).mono ?_); (case side1 => exact Kd.C_kept_now HR1_0.out (zB9_6)); (case side2 => exact HC1_0.out); rintro e w72 ⟨v425, rfl, ho0, hb⟩; refine ⟨_, rfl, ?_⟩; have n0_ := Aside0.mk (Kd.R_elder' (zR9 HO0.out) (Kd.R_base ho0) hb); have n1_ := Aside0.mk (Kd.R_lower (Kd.R_new' (Kd.R_newM (M := fun k_ => (P0_ k_ ∨ w.heap.size ≤ k_)) ho0 (by first | exact HK.out.1 | exact (show Kept w _ (fun k_ => P0_ k_) from zB9_6).1) (fun k_ h_ => .inr h_)) (Kd.R_lt (zR9 HO0.out))) (below_size (zB9_7))); have n2_ := Aside0.mk (zb9 BK405.out hb); have n3_ := Aside0.mk (zb9 BK406.out hb); have n4_ := Aside0.mk (zb9 BK414.out hb); have n5_ := Aside0.mk (Kept.below (S := (fun k_ => P0_ k_)) (zB9_6) hb); have n6_ := Aside0.mk (below_step (zB9_7) hb); clear HO0; clear BK405; clear BK406; clear BK414; clear HK; clear HB; have HO0 := n0_; have HO426 := n1_; have BK405 := n2_; have BK406 := n3_; have BK414 := n4_; have HK := n5_; have HB := n6_; clear n0_ n1_ n2_ n3_ n4_ n5_ n6_; (try clear hb); (try clear hb2); (try clear hk); (try clear hi); (try clear ho0); obtain ⟨Ao73, co73, eo73⟩ := Kd.R_slice HO426.out; subst eo73; obtain ⟨hcz74_0, hcz74_1, hcz74_2, hfz74_0, hfz74_1, hfz74_2⟩ := zc9_3 (w := w72) BK405.out) | ((with_reducible refine gate_store (t := 47) (p := 3) rfl ?_); refine store_event (t := 47) (p := 3) (v := ?vo_w75) (w1 := (((w72.setCell ⟨gb405, 0, none⟩ (.slice Ao73 t424.length co73)).setCell ⟨gb405, 1, none⟩ (.int .i64 t427)).setCell ⟨gb405, 2, none⟩ (.int .i64 t428))) ?hg ?ho ?hn ?hr ?_; (case ho => rfl); (case hg => rfl); (case hn => rfl); (case hr => first | (go_simp; done) | (go_simp; rfl)); intro w75 hw; have n0_ : Aside0 (Kd.R (Kd.int .i64) 3 w75 w0.heap.size (fun k_ => (P0_ k_ ∨ w.heap.size ≤ k_) ∧ some k_ ≠ (.slice Ao73 t424.length co73 : Value).ownBlock) (.slice (some ad407) l0.length co62) l0) := ⟨(by rw [hw]; exact (by (with_reducible repeat (first | apply Kd.R_alloc | apply Kd.R_drewN | apply Kd.R_drew)); exact Kd.R_mono (Kd.R_far (p := ⟨gb405, 2, none⟩) (Kd.R_far (p := ⟨gb405, 1, none⟩) (Kd.R_far (p := ⟨gb405, 0, none⟩) (Kd.R_types HO0.out BK405.out (by decide)) (fun _ hk => hk.2) (.slice Ao73 t424.length co73)) (fun _ hk => hk.2) (.int .i64 t427)) (fun _ hk => hk.2) (.int .i64 t428)) (fun _ hk => ⟨hk.1.1, hk.1.2⟩)))⟩; have n1_ : Aside0 (Kd.R (Kd.int .i64) 3 w75 w0.heap.size (fun k_ => (P0_ k_ ∨ w.heap.size ≤ k_) ∧ some k_ ≠ (.slice (some ad407) l0.length co62 : Value).ownBlock) (.slice Ao73 t424.length co73) t424) := ⟨(by rw [hw]; exact (by (with_reducible repeat (first | apply Kd.R_alloc | apply Kd.R_drewN | apply Kd.R_drew)); exact Kd.R_mono (Kd.R_far (p := ⟨gb405, 2, none⟩) (Kd.R_far (p := ⟨gb405, 1, none⟩) (Kd.R_far (p := ⟨gb405, 0, none⟩) (Kd.R_types HO426.out BK405.out (by decide)) (fun _ hk => hk.2) (.slice Ao73 t424.length co73)) (fun _ hk => hk.2) (.int .i64 t427)) (fun _ hk => hk.2) (.int .i64 t428)) (fun _ hk => ⟨hk.1.1.1, hk.1.2⟩)))⟩; have n2_ : Aside0 (w75.heap[gb405]? = some (.cells #[.slice Ao73 t424.length co73, .int .i64 t427, .int .i64 t428] 47 (0, 0))) := ⟨(by rw [hw]; exact (by refine zP9 ?_; refine blk_put (cs := #[.slice Ao73 t424.length co73, .int .i64 t427, .int .i64 a1_2]) ?_ 2 _ rfl; refine zP9 ?_; refine blk_put (cs := #[.slice Ao73 t424.length co73, .int .i64 a1_1, .int .i64 a1_2]) ?_ 1 _ rfl; refine zP9 ?_; refine blk_put (cs := #[.slice A1_0 l1_0.length c1_0, .int .i64 a1_1, .int .i64 a1_2]) ?_ 0 _ rfl; refine zP9 ?_; exact BK405.out))⟩; have n3_ : Aside0 (w75.heap[gb406]? = some (.cells #[.slice none 0 0, .int .i64 0, .int .i64 0] 47 (0, 0))) := ⟨(by rw [hw]; exact (by refine zP9 ?_; refine blk_far ?_ NB406_405.out _; refine zP9 ?_; refine blk_far ?_ NB406_405.out _; refine zP9 ?_; refine blk_far ?_ NB406_405.out _; refine zP9 ?_; exact BK406.out))⟩; have n4_ : Aside0 (w75.heap[gb414]? = some (.cells #[.int .i64 t408, .int .i64 t409, .int .i64 t410, .int .i64 t411, .int .i64 t412] 66 (0, 0))) := ⟨(by rw [hw]; exact (by refine zP9 ?_; refine blk_far ?_ NB414_405.out _; refine zP9 ?_; refine blk_far ?_ NB414_405.out _; refine zP9 ?_; refine blk_far ?_ NB414_405.out _; refine zP9 ?_; exact BK414.out))⟩; have n5_ : Aside0 (Kept w w75 (fun k_ => P0_ k_)) := ⟨(by rw [hw]; exact (zB9_6))⟩; have n6_ : Aside0 (Below w0.heap.size w0 w75) := ⟨(by rw [hw]; exact (zB9_7))⟩; clear hw; clear HO0; clear HO426; clear BK405; clear BK406; clear BK414; clear HK; clear HB; have HO0 := n0_; have HO426 := n1_; have BK405 := n2_; have BK406 := n3_; have BK414 := n4_; have HK := n5_; have HB := n6_; clear n0_ n1_ n2_ n3_ n4_ n5_ n6_; have p57 : 0 ≤ (t415 : Int) := zA9; have q57 : (t415 : Int) < ((l0.length : Int) : Int) := zA9; obtain ⟨go57, co57, eo57, gb57, gl57, cl57, HG57⟩ := Kd.R_form HO0.out (by omega); (first | cases eo57 | (injection eo57 with ea_ en_ ec_; (first | subst ea_ | (injection ea_ with ea_; subst ea_)); subst ec_; clear en_)); have GB57 := Aside0.mk gb57; have GG57 := Aside0.mk HG57; clear gb57 gl57 HG57; have HMgo57 := Aside0.mk (show (P0_ go57 ∨ w.heap.size ≤ go57) from (HO0.out.1 _ rfl).1); (first | simp only [add_plain] at hx407_0 | skip); (first | simp only [add_plain] at hx416_0 | skip); obtain ⟨hx57_0, hf57_0⟩ := Kd.R_celln 0 HO0.out (t415 : Int) p57 q57; replace p57 := eq_true p57; replace q57 := eq_true q57; obtain ⟨hy76_, hz76_⟩ := Kd.R_celln 0 HO0.out (t415 : Int) (zA9) (zA9); have HP76 := Kd.R_putg HO0.out (t415 : Int) t429) | ((with_reducible refine gate_store (t := 3) (p := 41) rfl ?_); refine store_event (t := 3) (p := 41) (v := ?vo_w77) (w1 := (w75.setCell ⟨go57, (t415 : Int).toNat, none⟩ (.int .i64 t429))) ?hg ?ho ?hn ?hr ?_; (case ho => rfl); (case hg => rfl); (case hn => rfl); (case hr => first | (go_simp; done) | (go_simp; rfl)); intro w77 hw; have hg : w75.grownBy w77 (some go57) := (by rw [hw]; exact HP76.2); have hp_ : Kd.R (Kd.int .i64) 3 w77 w0.heap.size (fun k_ => (P0_ k_ ∨ w.heap.size ≤ k_) ∧ some k_ ≠ (.slice Ao73 t424.length co73 : Value).ownBlock) (.slice (some ⟨go57, 0, none⟩) l0.length co62) y430 := (by rw [hw, Ny430.out]; exact HP76.1); clear HP76; have n0_ := Aside0.mk (hp_); have n1_ := Aside0.mk (zg9 BK405.out hg (Kd.R_ne HO0.out BK405.out (by decide))); have n2_ := Aside0.mk (zg9 BK406.out hg (Kd.R_ne HO0.out BK406.out (by decide))); have n3_ := Aside0.mk (zg9 BK414.out hg (Kd.R_ne HO0.out BK414.out (by decide))); have n4_ := Aside0.mk (Kd.R_after (v := (.slice (some ⟨go57, 0, none⟩) l0.length co62)) (v1 := (.slice (some ⟨go57, 0, none⟩) l0.length co62)) (ok := (fun k_ => (P0_ k_ ∨ w.heap.size ≤ k_))) (zR9 HO426.out) hg (.inl rfl)); have n5_ := Aside0.mk ((by rw [hw]; exact below_set (HB.out) GB57.out : Below w0.heap.size w0 w77)); have n6_ := Aside0.mk (Kept.of_grown (S := (fun k_ => P0_ k_)) hg (zB9_6) (fun k_ e_ => (HO0.out.1 k_ e_).1)); clear HO0; clear BK405; clear BK406; clear BK414; clear HO426; clear HB; clear HK; have HO0 := n0_; have BK405 := n1_; have BK406 := n2_; have BK414 := n3_; have HO426 := n4_; have HB := n5_; have HK := n6_; clear n0_ n1_ n2_ n3_ n4_ n5_ n6_; clear hg hw hp_; obtain ⟨hcz78_0, hcz78_1, hcz78_2, hfz78_0, hfz78_1, hfz78_2⟩ := zc9_3 (w := w77) BK405.out; obtain ⟨hcz79_0, hcz79_1, hcz79_2, hfz79_0, hfz79_1, hfz79_2⟩ := zc9_3 (w := w77) BK406.out))
  refine bodyPost_ret (results_cell_row rfl _ _ gb406 47 #[.slice Ao73 t424.length co73, .int .i64 t427, .int .i64 t428] (0, 0) _ rfl (by refine zP9 ?_; refine blk_put (cs := #[.slice Ao73 t424.length co73, .int .i64 t427, .int .i64 0]) ?_ 2 _ rfl; refine zP9 ?_; refine blk_put (cs := #[.slice Ao73 t424.length co73, .int .i64 0, .int .i64 0]) ?_ 1 _ rfl; refine zP9 ?_; refine blk_put (cs := #[.slice none 0 0, .int .i64 0, .int .i64 0]) ?_ 0 _ rfl; refine zP9 ?_; exact BK406.out) Try.underlying47 rfl (by kernel_rfl)) rfl ?_
  exact ⟨_, zE9, by (with_reducible repeat (first | apply Kd.R_alloc | apply Kd.R_drewN | apply Kd.R_drew)); exact Kd.R_mono (Kd.R_far (p := ⟨gb406, 2, none⟩) (Kd.R_far (p := ⟨gb406, 1, none⟩) (Kd.R_far (p := ⟨gb406, 0, none⟩) (Kd.R_types HO426.out BK406.out (by decide)) (fun _ hk => hk.2) (.slice Ao73 t424.length co73)) (fun _ hk => hk.2) (.int .i64 t427)) (fun _ hk => hk.2) (.int .i64 t428)) (fun _ hk => ⟨hk.1.1, hk.1.2⟩), by (with_reducible repeat (first | apply Kd.R_alloc | apply Kd.R_drewN | apply Kd.R_drew)); exact Kd.R_mono (Kd.R_far (p := ⟨gb406, 2, none⟩) (Kd.R_far (p := ⟨gb406, 1, none⟩) (Kd.R_far (p := ⟨gb406, 0, none⟩) (Kd.R_types HO0.out BK406.out (by decide)) (fun _ hk => hk.2) (.slice Ao73 t424.length co73)) (fun _ hk => hk.2) (.int .i64 t427)) (fun _ hk => hk.2) (.int .i64 t428)) (fun _ hk => hk.1.1), zB9_7, zB9_6⟩
 rw [if_pos c7] at H
 have c7b0 : decide (0 ≤ t415) = true := decide_eq_true c7
 clear c7
 by_cases c8 : 0 ≤ t415
 rotate_left
 ·rw [if_neg c8] at H
  exact absurd H (by simp)
 rw [if_pos c8] at H
 have c8b0 : decide (0 ≤ t415) = true := decide_eq_true c8
 clear c8
 by_cases c9 : t415 < (l0.length : Int)
 rotate_left
 ·rw [if_neg c9] at H
  exact absurd H (by simp)
 rw [if_pos c9] at H
 have c9b0 : decide (t415 < (l0.length : Int)) = true := decide_eq_true c9
 clear c9
 replace H := Option.bind_eq_some_iff.mp H
 obtain ⟨⟨t417, t420, t421, t422⟩, A100, H⟩ := H
 replace H : (if t422 ≥ 0 then (some (t417, t420, t421, (l0.set (t415 : Int).toNat t422))) else (some (t417, t420, t421, l0))) = some (r1, r2, r3, r4) := H
 have A10 := Aside0.mk A100
 clear A100
 by_cases c11 : t422 ≥ 0
 rotate_left
 ·rw [if_neg c11] at H
  have c11b0 : decide (0 ≤ t422) = false := decide_eq_false c11
  clear c11
  simp only [Option.some.injEq, Prod.mk.injEq] at H
  obtain ⟨rfl, rfl, rfl, rfl⟩ := H
  go_enter Try.func72, Try.ntmps72
  go_wp2_with (first | ((with_reducible refine gate_dst (N := 3) rfl ?_); refine box_event ?hg (N := 3) ?hd (cs := #[.slice A1_0 l1_0.length c1_0, .int .i64 a1_1, .int .i64 a1_2]) (t := 47) ?hr ?_; (case hd => rfl); (case hg => rfl); (case hr => first | (go_simp; done) | (go_simp; rfl)); intro gb405 hg w35 hbox hb; have n0_ := Aside0.mk (Kd.R_below (zR9 HO0.out) hb); have n1_ := Aside0.mk (Kept.below (S := (fun k_ => P0_ k_)) (zB9_0) hb); have n2_ := Aside0.mk (below_step (zB9_1) hb); have n3_ := Aside0.mk (hbox); have n4_ := Aside0.mk ((by rw [hg]; exact (by first | exact HK.out.1 | exact (show Kept w _ (fun k_ => P0_ k_) from zB9_0).1) : w.heap.size ≤ gb405)); have n5_ := Aside0.mk ((by rw [hg]; exact (below_size (zB9_1)) : w0.heap.size ≤ gb405)); clear HO0; clear HK; clear HB; have HO0 := n0_; have HK := n1_; have HB := n2_; have BK405 := n3_; have GW405 := n4_; have GE405 := n5_; clear n0_ n1_ n2_ n3_ n4_ n5_; clear hb hbox hg) | ((with_reducible refine gate_dst (N := 4) rfl ?_); refine box_event ?hg (N := 4) ?hd (cs := #[.slice none 0 0, .int .i64 0, .int .i64 0]) (t := 47) ?hr ?_; (case hd => rfl); (case hg => rfl); (case hr => first | (go_simp; done) | (go_simp; rfl)); intro gb406 hg w36 hbox hb; have n0_ := Aside0.mk (Kd.R_below (zR9 HO0.out) hb); have n1_ := Aside0.mk (zb9 BK405.out hb); have n2_ := Aside0.mk (Kept.below (S := (fun k_ => P0_ k_)) (zB9_2) hb); have n3_ := Aside0.mk (below_step (zB9_3) hb); have n4_ := Aside0.mk (hbox); have n5_ := Aside0.mk ((by rw [hg]; exact (by first | exact HK.out.1 | exact (show Kept w _ (fun k_ => P0_ k_) from zB9_2).1) : w.heap.size ≤ gb406)); have n6_ := Aside0.mk ((by rw [hg]; exact (below_size (zB9_3)) : w0.heap.size ≤ gb406)); have n7_ := Aside0.mk ((zn9 BK405.out hg : gb405 ≠ gb406)); have n8_ := Aside0.mk ((zm9 BK405.out hg : gb406 ≠ gb405)); clear HO0; clear BK405; clear HK; clear HB; have HO0 := n0_; have BK405 := n1_; have HK := n2_; have HB := n3_; have BK406 := n4_; have GW406 := n5_; have GE406 := n6_; have NB405_406 := n7_; have NB406_405 := n8_; clear n0_ n1_ n2_ n3_ n4_ n5_ n6_ n7_ n8_; clear hb hbox hg; have hnb37 := NB405_406.out; have hnc37 := NB406_405.out; obtain ⟨hcz38_0, hcz38_1, hcz38_2, hfz38_0, hfz38_1, hfz38_2⟩ := zc9_3 (w := w36) BK405.out; obtain ⟨Ao39, co39, eo39⟩ := Kd.R_slice HO0.out; subst eo39; have p407 : 0 ≤ (a1_1 : Int) := zA9; have q407 : a1_1 < (l0.length : Int) := zA9; obtain ⟨ad407, e407, hx407_0⟩ := Kd.at_int (Kd.R_reads' HO0.out).2.2 a1_1 p407 q407; cases e407; replace p407 := eq_true p407; replace q407 := eq_true q407) | ((with_reducible refine gate_callee (f := 57) rfl ?_); refine goesL_ (some 16) rfl rfl Try.func57 (by kernel_rfl) rfl #[.int .i64 (rd l0 a1_1)] rfl zT9 ?_; (with_reducible refine (impl_Decode.calls (rd l0 a1_1) t408 t409 t410 t411 t412 t413 _ A5.out).mono ?_); rintro e w40 ⟨rfl, hb⟩; refine ⟨_, rfl, ?_⟩; have n0_ := Aside0.mk (Kd.R_below (zR9 HO0.out) hb); have n1_ := Aside0.mk (zb9 BK405.out hb); have n2_ := Aside0.mk (zb9 BK406.out hb); have n3_ := Aside0.mk (Kept.below (S := (fun k_ => P0_ k_)) (zB9_4) hb); have n4_ := Aside0.mk (below_step (zB9_5) hb); clear HO0; clear BK405; clear BK406; clear HK; clear HB; have HO0 := n0_; have BK405 := n1_; have BK406 := n2_; have HK := n3_; have HB := n4_; clear n0_ n1_ n2_ n3_ n4_; (try clear hb); (try clear hb2); (try clear hk); (try clear hi)) | ((with_reducible refine gate_dst (N := 5) rfl ?_); refine box_event ?hg (N := 5) ?hd (cs := #[.int .i64 0, .int .i64 0, .int .i64 0, .int .i64 0, .int .i64 0]) (t := 66) ?hr ?_; (case hd => rfl); (case hg => rfl); (case hr => first | (go_simp; done) | (go_simp; rfl)); intro gb414 hg w41 hbox hb; have n0_ := Aside0.mk (Kd.R_below (zR9 HO0.out) hb); have n1_ := Aside0.mk (zb9 BK405.out hb); have n2_ := Aside0.mk (zb9 BK406.out hb); have n3_ := Aside0.mk (Kept.below (S := (fun k_ => P0_ k_)) (zB9_4) hb); have n4_ := Aside0.mk (below_step (zB9_5) hb); have n5_ := Aside0.mk (hbox); have n6_ := Aside0.mk ((by rw [hg]; exact (by first | exact HK.out.1 | exact (show Kept w _ (fun k_ => P0_ k_) from zB9_4).1) : w.heap.size ≤ gb414)); have n7_ := Aside0.mk ((by rw [hg]; exact (below_size (zB9_5)) : w0.heap.size ≤ gb414)); have n8_ := Aside0.mk ((zn9 BK405.out hg : gb405 ≠ gb414)); have n9_ := Aside0.mk ((zm9 BK405.out hg : gb414 ≠ gb405)); have n10_ := Aside0.mk ((zn9 BK406.out hg : gb406 ≠ gb414)); have n11_ := Aside0.mk ((zm9 BK406.out hg : gb414 ≠ gb406)); clear HO0; clear BK405; clear BK406; clear HK; clear HB; have HO0 := n0_; have BK405 := n1_; have BK406 := n2_; have HK := n3_; have HB := n4_; have BK414 := n5_; have GW414 := n6_; have GE414 := n7_; have NB405_414 := n8_; have NB414_405 := n9_; have NB406_414 := n10_; have NB414_406 := n11_; clear n0_ n1_ n2_ n3_ n4_ n5_ n6_ n7_ n8_ n9_ n10_ n11_; clear hb hbox hg; have hnb42 := NB414_405.out; have hnc42 := NB405_414.out; have hnb43 := NB414_406.out; have hnc43 := NB406_414.out; obtain ⟨hcz44_0, hcz44_1, hcz44_2, hcz44_3, hcz44_4, hfz44_0, hfz44_1, hfz44_2, hfz44_3, hfz44_4⟩ := zc9_5 (w := w41) BK414.out; obtain ⟨hcz45_0, hcz45_1, hcz45_2, hfz45_0, hfz45_1, hfz45_2⟩ := zc9_3 (w := w41) BK405.out) | ((with_reducible refine gate_callee (f := 97) rfl ?_); refine goesL_ (some 22) rfl rfl Try.func97 (by kernel_rfl) rfl #[.agg #[.int .i64 t408, .int .i64 t409, .int .i64 t410, .int .i64 t411, .int .i64 t412], .slice A1_0 l1_0.length c1_0] rfl zT9 ?_; (with_reducible refine (impl_Target.calls t408 t409 t410 t411 t412 _ _ l1_0 t415 _ ?side1 ?side2 A6.out).mono ?_); (case side1 => exact Kd.C_kept_now HR1_0.out (zB9_6)); (case side2 => exact HC1_0.out); rintro e w46 ⟨rfl, hb⟩; refine ⟨_, rfl, ?_⟩; have n0_ := Aside0.mk (Kd.R_below (by (with_reducible repeat (first | apply Kd.R_alloc | apply Kd.R_drewN | apply Kd.R_drew)); exact (Kd.R_mono (Kd.R_far (p := ⟨gb414, 4, none⟩) (Kd.R_far (p := ⟨gb414, 3, none⟩) (Kd.R_far (p := ⟨gb414, 2, none⟩) (Kd.R_far (p := ⟨gb414, 1, none⟩) (Kd.R_far (p := ⟨gb414, 0, none⟩) (Kd.R_types HO0.out BK414.out (by decide)) (fun _ hk => hk.2) (.int .i64 t408)) (fun _ hk => hk.2) (.int .i64 t409)) (fun _ hk => hk.2) (.int .i64 t410)) (fun _ hk => hk.2) (.int .i64 t411)) (fun _ hk => hk.2) (.int .i64 t412)) (fun _ h_ => h_.1))) hb); have n1_ := Aside0.mk (blk_below (g := gb405) (o := .cells #[.slice A1_0 l1_0.length c1_0, .int .i64 a1_1, .int .i64 a1_2] 47 (0, 0)) (by refine zP9 ?_; refine blk_far ?_ NB405_414.out _; refine zP9 ?_; refine blk_far ?_ NB405_414.out _; refine zP9 ?_; refine blk_far ?_ NB405_414.out _; refine zP9 ?_; refine blk_far ?_ NB405_414.out _; refine zP9 ?_; refine blk_far ?_ NB405_414.out _; refine zP9 ?_; exact BK405.out) hb); have n2_ := Aside0.mk (blk_below (g := gb406) (o := .cells #[.slice none 0 0, .int .i64 0, .int .i64 0] 47 (0, 0)) (by refine zP9 ?_; refine blk_far ?_ NB406_414.out _; refine zP9 ?_; refine blk_far ?_ NB406_414.out _; refine zP9 ?_; refine blk_far ?_ NB406_414.out _; refine zP9 ?_; refine blk_far ?_ NB406_414.out _; refine zP9 ?_; refine blk_far ?_ NB406_414.out _; refine zP9 ?_; exact BK406.out) hb); have n3_ := Aside0.mk (blk_below (g := gb414) (o := .cells #[.int .i64 t408, .int .i64 t409, .int .i64 t410, .int .i64 t411, .int .i64 t412] 66 (0, 0)) (by refine zP9 ?_; refine blk_put (cs := #[.int .i64 t408, .int .i64 t409, .int .i64 t410, .int .i64 t411, .int .i64 0]) ?_ 4 _ rfl; refine zP9 ?_; refine blk_put (cs := #[.int .i64 t408, .int .i64 t409, .int .i64 t410, .int .i64 0, .int .i64 0]) ?_ 3 _ rfl; refine zP9 ?_; refine blk_put (cs := #[.int .i64 t408, .int .i64 t409, .int .i64 0, .int .i64 0, .int .i64 0]) ?_ 2 _ rfl; refine zP9 ?_; refine blk_put (cs := #[.int .i64 t408, .int .i64 0, .int .i64 0, .int .i64 0, .int .i64 0]) ?_ 1 _ rfl; refine zP9 ?_; refine blk_put (cs := #[.int .i64 0, .int .i64 0, .int .i64 0, .int .i64 0, .int .i64 0]) ?_ 0 _ rfl; refine zP9 ?_; exact BK414.out) hb); have n4_ := Aside0.mk (Kept.below (S := (fun k_ => P0_ k_)) (zB9_6) hb); have n5_ := Aside0.mk (below_step (zB9_7) hb); clear HO0; clear BK405; clear BK406; clear BK414; clear HK; clear HB; have HO0 := n0_; have BK405 := n1_; have BK406 := n2_; have BK414 := n3_; have HK := n4_; have HB := n5_; clear n0_ n1_ n2_ n3_ n4_ n5_; (try clear hb); (try clear hb2); (try clear hk); (try clear hi); have p416 : 0 ≤ (t415 : Int) := zA9; have q416 : t415 < (l0.length : Int) := zA9; obtain ⟨ad416, e416, hx416_0⟩ := Kd.at_int (Kd.R_reads' HO0.out).2.2 t415 p416 q416; obtain rfl : ad407 = ad416 := (by injection e416); replace p416 := eq_true p416; replace q416 := eq_true q416; obtain ⟨hcz47_0, hcz47_1, hcz47_2, hfz47_0, hfz47_1, hfz47_2⟩ := zc9_3 (w := w46) BK405.out; obtain ⟨hcz48_0, hcz48_1, hcz48_2, hcz48_3, hcz48_4, hfz48_0, hfz48_1, hfz48_2, hfz48_3, hfz48_4⟩ := zc9_5 (w := w46) BK414.out) | ((with_reducible refine gate_callee (f := 98) rfl ?_); refine goesL_ (some 33) rfl rfl Try.func98 (by kernel_rfl) rfl #[.agg #[.slice A1_0 l1_0.length c1_0, .int .i64 a1_1, .int .i64 a1_2], .agg #[.int .i64 t408, .int .i64 t409, .int .i64 t410, .int .i64 t411, .int .i64 t412], .int .i64 (rd l0 t415)] rfl zT9 ?_; (with_reducible refine (impl_Work.calls k _ _ l1_0 a1_1 a1_2 t408 t409 t410 t411 t412 (rd l0 t415) t417 t420 t421 t422 _ ?side1 ?side2 A10.out).mono ?_); (case side1 => exact Kd.C_kept_now HR1_0.out (zB9_6)); (case side2 => exact HC1_0.out); rintro e w49 ⟨v418, rfl, ho0, hb⟩; refine ⟨_, rfl, ?_⟩; have n0_ := Aside0.mk (Kd.R_elder' (zR9 HO0.out) (Kd.R_base ho0) hb); have n1_ := Aside0.mk (Kd.R_lower (Kd.R_new' (Kd.R_newM (M := fun k_ => (P0_ k_ ∨ w.heap.size ≤ k_)) ho0 (by first | exact HK.out.1 | exact (show Kept w _ (fun k_ => P0_ k_) from zB9_6).1) (fun k_ h_ => .inr h_)) (Kd.R_lt (zR9 HO0.out))) (below_size (zB9_7))); have n2_ := Aside0.mk (zb9 BK405.out hb); have n3_ := Aside0.mk (zb9 BK406.out hb); have n4_ := Aside0.mk (zb9 BK414.out hb); have n5_ := Aside0.mk (Kept.below (S := (fun k_ => P0_ k_)) (zB9_6) hb); have n6_ := Aside0.mk (below_step (zB9_7) hb); clear HO0; clear BK405; clear BK406; clear BK414; clear HK; clear HB; have HO0 := n0_; have HO419 := n1_; have BK405 := n2_; have BK406 := n3_; have BK414 := n4_; have HK := n5_; have HB := n6_; clear n0_ n1_ n2_ n3_ n4_ n5_ n6_; (try clear hb); (try clear hb2); (try clear hk); (try clear hi); (try clear ho0); obtain ⟨Ao50, co50, eo50⟩ := Kd.R_slice HO419.out; subst eo50; obtain ⟨hcz51_0, hcz51_1, hcz51_2, hfz51_0, hfz51_1, hfz51_2⟩ := zc9_3 (w := w49) BK405.out; obtain ⟨hcz52_0, hcz52_1, hcz52_2, hfz52_0, hfz52_1, hfz52_2⟩ := zc9_3 (w := w49) BK406.out))
  refine bodyPost_ret (results_cell_row rfl _ _ gb406 47 #[.slice Ao50 t417.length co50, .int .i64 t420, .int .i64 t421] (0, 0) _ rfl (by refine zP9 ?_; refine blk_put (cs := #[.slice Ao50 t417.length co50, .int .i64 t420, .int .i64 0]) ?_ 2 _ rfl; refine zP9 ?_; refine blk_put (cs := #[.slice Ao50 t417.length co50, .int .i64 0, .int .i64 0]) ?_ 1 _ rfl; refine zP9 ?_; refine blk_put (cs := #[.slice none 0 0, .int .i64 0, .int .i64 0]) ?_ 0 _ rfl; refine zP9 ?_; refine blk_far ?_ NB406_405.out _; refine zP9 ?_; refine blk_far ?_ NB406_405.out _; refine zP9 ?_; refine blk_far ?_ NB406_405.out _; refine zP9 ?_; exact BK406.out) Try.underlying47 rfl (by kernel_rfl)) rfl ?_
  exact ⟨_, zE9, by (with_reducible repeat (first | apply Kd.R_alloc | apply Kd.R_drewN | apply Kd.R_drew)); exact Kd.R_mono (Kd.R_far (p := ⟨gb406, 2, none⟩) (Kd.R_far (p := ⟨gb406, 1, none⟩) (Kd.R_far (p := ⟨gb406, 0, none⟩) (Kd.R_far (p := ⟨gb405, 2, none⟩) (Kd.R_far (p := ⟨gb405, 1, none⟩) (Kd.R_far (p := ⟨gb405, 0, none⟩) (Kd.R_types (Kd.R_types HO419.out BK405.out (by decide)) BK406.out (by decide)) (fun _ hk => hk.1.2) (.slice Ao50 t417.length co50)) (fun _ hk => hk.1.2) (.int .i64 t420)) (fun _ hk => hk.1.2) (.int .i64 t421)) (fun _ hk => hk.2) (.slice Ao50 t417.length co50)) (fun _ hk => hk.2) (.int .i64 t420)) (fun _ hk => hk.2) (.int .i64 t421)) (fun _ hk => ⟨hk.1.1.1.1, hk.1.1.2⟩), by (with_reducible repeat (first | apply Kd.R_alloc | apply Kd.R_drewN | apply Kd.R_drew)); exact Kd.R_mono (Kd.R_far (p := ⟨gb406, 2, none⟩) (Kd.R_far (p := ⟨gb406, 1, none⟩) (Kd.R_far (p := ⟨gb406, 0, none⟩) (Kd.R_far (p := ⟨gb405, 2, none⟩) (Kd.R_far (p := ⟨gb405, 1, none⟩) (Kd.R_far (p := ⟨gb405, 0, none⟩) (Kd.R_types (Kd.R_types HO0.out BK405.out (by decide)) BK406.out (by decide)) (fun _ hk => hk.1.2) (.slice Ao50 t417.length co50)) (fun _ hk => hk.1.2) (.int .i64 t420)) (fun _ hk => hk.1.2) (.int .i64 t421)) (fun _ hk => hk.2) (.slice Ao50 t417.length co50)) (fun _ hk => hk.2) (.int .i64 t420)) (fun _ hk => hk.2) (.int .i64 t421)) (fun _ hk => hk.1.1.1), zB9_7, zB9_6⟩
 rw [if_pos c11] at H
 have c11b0 : decide (0 ≤ t422) = true := decide_eq_true c11
 clear c11
 obtain ⟨y423, hy423⟩ : ∃ y_ : List Int, y_ = (l0.set (t415 : Int).toNat t422) := ⟨_, rfl⟩
 replace H : (some (t417, t420, t421, y423)) = some (r1, r2, r3, r4) := by first | (rw [hy423]; with_reducible exact H) | (have H2_ := (Option.bind_some _ _).symm.trans H; rw [hy423]; with_reducible exact H2_) | (have H2_ := (Option.bind_some _ _).symm.trans H; with_reducible exact H2_) | with_reducible exact H | (rw [hy423]; exact H) | exact H
 have Ny423 := Aside0.mk hy423
 clear hy423
 simp only [Option.some.injEq, Prod.mk.injEq] at H
 obtain ⟨rfl, rfl, rfl, rfl⟩ := H
 go_enter Try.func72, Try.ntmps72
 go_wp2_with (first | ((with_reducible refine gate_dst (N := 3) rfl ?_); refine box_event ?hg (N := 3) ?hd (cs := #[.slice A1_0 l1_0.length c1_0, .int .i64 a1_1, .int .i64 a1_2]) (t := 47) ?hr ?_; (case hd => rfl); (case hg => rfl); (case hr => first | (go_simp; done) | (go_simp; rfl)); intro gb405 hg w13 hbox hb; have n0_ := Aside0.mk (Kd.R_below (zR9 HO0.out) hb); have n1_ := Aside0.mk (Kept.below (S := (fun k_ => P0_ k_)) (zB9_0) hb); have n2_ := Aside0.mk (below_step (zB9_1) hb); have n3_ := Aside0.mk (hbox); have n4_ := Aside0.mk ((by rw [hg]; exact (by first | exact HK.out.1 | exact (show Kept w _ (fun k_ => P0_ k_) from zB9_0).1) : w.heap.size ≤ gb405)); have n5_ := Aside0.mk ((by rw [hg]; exact (below_size (zB9_1)) : w0.heap.size ≤ gb405)); clear HO0; clear HK; clear HB; have HO0 := n0_; have HK := n1_; have HB := n2_; have BK405 := n3_; have GW405 := n4_; have GE405 := n5_; clear n0_ n1_ n2_ n3_ n4_ n5_; clear hb hbox hg) | ((with_reducible refine gate_dst (N := 4) rfl ?_); refine box_event ?hg (N := 4) ?hd (cs := #[.slice none 0 0, .int .i64 0, .int .i64 0]) (t := 47) ?hr ?_; (case hd => rfl); (case hg => rfl); (case hr => first | (go_simp; done) | (go_simp; rfl)); intro gb406 hg w14 hbox hb; have n0_ := Aside0.mk (Kd.R_below (zR9 HO0.out) hb); have n1_ := Aside0.mk (zb9 BK405.out hb); have n2_ := Aside0.mk (Kept.below (S := (fun k_ => P0_ k_)) (zB9_2) hb); have n3_ := Aside0.mk (below_step (zB9_3) hb); have n4_ := Aside0.mk (hbox); have n5_ := Aside0.mk ((by rw [hg]; exact (by first | exact HK.out.1 | exact (show Kept w _ (fun k_ => P0_ k_) from zB9_2).1) : w.heap.size ≤ gb406)); have n6_ := Aside0.mk ((by rw [hg]; exact (below_size (zB9_3)) : w0.heap.size ≤ gb406)); have n7_ := Aside0.mk ((zn9 BK405.out hg : gb405 ≠ gb406)); have n8_ := Aside0.mk ((zm9 BK405.out hg : gb406 ≠ gb405)); clear HO0; clear BK405; clear HK; clear HB; have HO0 := n0_; have BK405 := n1_; have HK := n2_; have HB := n3_; have BK406 := n4_; have GW406 := n5_; have GE406 := n6_; have NB405_406 := n7_; have NB406_405 := n8_; clear n0_ n1_ n2_ n3_ n4_ n5_ n6_ n7_ n8_; clear hb hbox hg; have hnb15 := NB405_406.out; have hnc15 := NB406_405.out; obtain ⟨hcz16_0, hcz16_1, hcz16_2, hfz16_0, hfz16_1, hfz16_2⟩ := zc9_3 (w := w14) BK405.out; obtain ⟨Ao17, co17, eo17⟩ := Kd.R_slice HO0.out; subst eo17; have p407 : 0 ≤ (a1_1 : Int) := zA9; have q407 : a1_1 < (l0.length : Int) := zA9; obtain ⟨ad407, e407, hx407_0⟩ := Kd.at_int (Kd.R_reads' HO0.out).2.2 a1_1 p407 q407; cases e407; replace p407 := eq_true p407; replace q407 := eq_true q407) | ((with_reducible refine gate_callee (f := 57) rfl ?_); refine goesL_ (some 16) rfl rfl Try.func57 (by kernel_rfl) rfl #[.int .i64 (rd l0 a1_1)] rfl zT9 ?_; (with_reducible refine (impl_Decode.calls (rd l0 a1_1) t408 t409 t410 t411 t412 t413 _ A5.out).mono ?_); rintro e w18 ⟨rfl, hb⟩; refine ⟨_, rfl, ?_⟩; have n0_ := Aside0.mk (Kd.R_below (zR9 HO0.out) hb); have n1_ := Aside0.mk (zb9 BK405.out hb); have n2_ := Aside0.mk (zb9 BK406.out hb); have n3_ := Aside0.mk (Kept.below (S := (fun k_ => P0_ k_)) (zB9_4) hb); have n4_ := Aside0.mk (below_step (zB9_5) hb); clear HO0; clear BK405; clear BK406; clear HK; clear HB; have HO0 := n0_; have BK405 := n1_; have BK406 := n2_; have HK := n3_; have HB := n4_; clear n0_ n1_ n2_ n3_ n4_; (try clear hb); (try clear hb2); (try clear hk); (try clear hi)) | ((with_reducible refine gate_dst (N := 5) rfl ?_); refine box_event ?hg (N := 5) ?hd (cs := #[.int .i64 0, .int .i64 0, .int .i64 0, .int .i64 0, .int .i64 0]) (t := 66) ?hr ?_; (case hd => rfl); (case hg => rfl); (case hr => first | (go_simp; done) | (go_simp; rfl)); intro gb414 hg w19 hbox hb; have n0_ := Aside0.mk (Kd.R_below (zR9 HO0.out) hb); have n1_ := Aside0.mk (zb9 BK405.out hb); have n2_ := Aside0.mk (zb9 BK406.out hb); have n3_ := Aside0.mk (Kept.below (S := (fun k_ => P0_ k_)) (zB9_4) hb); have n4_ := Aside0.mk (below_step (zB9_5) hb); have n5_ := Aside0.mk (hbox); have n6_ := Aside0.mk ((by rw [hg]; exact (by first | exact HK.out.1 | exact (show Kept w _ (fun k_ => P0_ k_) from zB9_4).1) : w.heap.size ≤ gb414)); have n7_ := Aside0.mk ((by rw [hg]; exact (below_size (zB9_5)) : w0.heap.size ≤ gb414)); have n8_ := Aside0.mk ((zn9 BK405.out hg : gb405 ≠ gb414)); have n9_ := Aside0.mk ((zm9 BK405.out hg : gb414 ≠ gb405)); have n10_ := Aside0.mk ((zn9 BK406.out hg : gb406 ≠ gb414)); have n11_ := Aside0.mk ((zm9 BK406.out hg : gb414 ≠ gb406)); clear HO0; clear BK405; clear BK406; clear HK; clear HB; have HO0 := n0_; have BK405 := n1_; have BK406 := n2_; have HK := n3_; have HB := n4_; have BK414 := n5_; have GW414 := n6_; have GE414 := n7_; have NB405_414 := n8_; have NB414_405 := n9_; have NB406_414 := n10_; have NB414_406 := n11_; clear n0_ n1_ n2_ n3_ n4_ n5_ n6_ n7_ n8_ n9_ n10_ n11_; clear hb hbox hg; have hnb20 := NB414_405.out; have hnc20 := NB405_414.out; have hnb21 := NB414_406.out; have hnc21 := NB406_414.out; obtain ⟨hcz22_0, hcz22_1, hcz22_2, hcz22_3, hcz22_4, hfz22_0, hfz22_1, hfz22_2, hfz22_3, hfz22_4⟩ := zc9_5 (w := w19) BK414.out; obtain ⟨hcz23_0, hcz23_1, hcz23_2, hfz23_0, hfz23_1, hfz23_2⟩ := zc9_3 (w := w19) BK405.out) | ((with_reducible refine gate_callee (f := 97) rfl ?_); refine goesL_ (some 22) rfl rfl Try.func97 (by kernel_rfl) rfl #[.agg #[.int .i64 t408, .int .i64 t409, .int .i64 t410, .int .i64 t411, .int .i64 t412], .slice A1_0 l1_0.length c1_0] rfl zT9 ?_; (with_reducible refine (impl_Target.calls t408 t409 t410 t411 t412 _ _ l1_0 t415 _ ?side1 ?side2 A6.out).mono ?_); (case side1 => exact Kd.C_kept_now HR1_0.out (zB9_6)); (case side2 => exact HC1_0.out); rintro e w24 ⟨rfl, hb⟩; refine ⟨_, rfl, ?_⟩; have n0_ := Aside0.mk (Kd.R_below (by (with_reducible repeat (first | apply Kd.R_alloc | apply Kd.R_drewN | apply Kd.R_drew)); exact (Kd.R_mono (Kd.R_far (p := ⟨gb414, 4, none⟩) (Kd.R_far (p := ⟨gb414, 3, none⟩) (Kd.R_far (p := ⟨gb414, 2, none⟩) (Kd.R_far (p := ⟨gb414, 1, none⟩) (Kd.R_far (p := ⟨gb414, 0, none⟩) (Kd.R_types HO0.out BK414.out (by decide)) (fun _ hk => hk.2) (.int .i64 t408)) (fun _ hk => hk.2) (.int .i64 t409)) (fun _ hk => hk.2) (.int .i64 t410)) (fun _ hk => hk.2) (.int .i64 t411)) (fun _ hk => hk.2) (.int .i64 t412)) (fun _ h_ => h_.1))) hb); have n1_ := Aside0.mk (blk_below (g := gb405) (o := .cells #[.slice A1_0 l1_0.length c1_0, .int .i64 a1_1, .int .i64 a1_2] 47 (0, 0)) (by refine zP9 ?_; refine blk_far ?_ NB405_414.out _; refine zP9 ?_; refine blk_far ?_ NB405_414.out _; refine zP9 ?_; refine blk_far ?_ NB405_414.out _; refine zP9 ?_; refine blk_far ?_ NB405_414.out _; refine zP9 ?_; refine blk_far ?_ NB405_414.out _; refine zP9 ?_; exact BK405.out) hb); have n2_ := Aside0.mk (blk_below (g := gb406) (o := .cells #[.slice none 0 0, .int .i64 0, .int .i64 0] 47 (0, 0)) (by refine zP9 ?_; refine blk_far ?_ NB406_414.out _; refine zP9 ?_; refine blk_far ?_ NB406_414.out _; refine zP9 ?_; refine blk_far ?_ NB406_414.out _; refine zP9 ?_; refine blk_far ?_ NB406_414.out _; refine zP9 ?_; refine blk_far ?_ NB406_414.out _; refine zP9 ?_; exact BK406.out) hb); have n3_ := Aside0.mk (blk_below (g := gb414) (o := .cells #[.int .i64 t408, .int .i64 t409, .int .i64 t410, .int .i64 t411, .int .i64 t412] 66 (0, 0)) (by refine zP9 ?_; refine blk_put (cs := #[.int .i64 t408, .int .i64 t409, .int .i64 t410, .int .i64 t411, .int .i64 0]) ?_ 4 _ rfl; refine zP9 ?_; refine blk_put (cs := #[.int .i64 t408, .int .i64 t409, .int .i64 t410, .int .i64 0, .int .i64 0]) ?_ 3 _ rfl; refine zP9 ?_; refine blk_put (cs := #[.int .i64 t408, .int .i64 t409, .int .i64 0, .int .i64 0, .int .i64 0]) ?_ 2 _ rfl; refine zP9 ?_; refine blk_put (cs := #[.int .i64 t408, .int .i64 0, .int .i64 0, .int .i64 0, .int .i64 0]) ?_ 1 _ rfl; refine zP9 ?_; refine blk_put (cs := #[.int .i64 0, .int .i64 0, .int .i64 0, .int .i64 0, .int .i64 0]) ?_ 0 _ rfl; refine zP9 ?_; exact BK414.out) hb); have n4_ := Aside0.mk (Kept.below (S := (fun k_ => P0_ k_)) (zB9_6) hb); have n5_ := Aside0.mk (below_step (zB9_7) hb); clear HO0; clear BK405; clear BK406; clear BK414; clear HK; clear HB; have HO0 := n0_; have BK405 := n1_; have BK406 := n2_; have BK414 := n3_; have HK := n4_; have HB := n5_; clear n0_ n1_ n2_ n3_ n4_ n5_; (try clear hb); (try clear hb2); (try clear hk); (try clear hi); have p416 : 0 ≤ (t415 : Int) := zA9; have q416 : t415 < (l0.length : Int) := zA9; obtain ⟨ad416, e416, hx416_0⟩ := Kd.at_int (Kd.R_reads' HO0.out).2.2 t415 p416 q416; obtain rfl : ad407 = ad416 := (by injection e416); replace p416 := eq_true p416; replace q416 := eq_true q416; obtain ⟨hcz25_0, hcz25_1, hcz25_2, hfz25_0, hfz25_1, hfz25_2⟩ := zc9_3 (w := w24) BK405.out; obtain ⟨hcz26_0, hcz26_1, hcz26_2, hcz26_3, hcz26_4, hfz26_0, hfz26_1, hfz26_2, hfz26_3, hfz26_4⟩ := zc9_5 (w := w24) BK414.out) | ((with_reducible refine gate_callee (f := 98) rfl ?_); refine goesL_ (some 33) rfl rfl Try.func98 (by kernel_rfl) rfl #[.agg #[.slice A1_0 l1_0.length c1_0, .int .i64 a1_1, .int .i64 a1_2], .agg #[.int .i64 t408, .int .i64 t409, .int .i64 t410, .int .i64 t411, .int .i64 t412], .int .i64 (rd l0 t415)] rfl zT9 ?_; (with_reducible refine (impl_Work.calls k _ _ l1_0 a1_1 a1_2 t408 t409 t410 t411 t412 (rd l0 t415) t417 t420 t421 t422 _ ?side1 ?side2 A10.out).mono ?_); (case side1 => exact Kd.C_kept_now HR1_0.out (zB9_6)); (case side2 => exact HC1_0.out); rintro e w27 ⟨v418, rfl, ho0, hb⟩; refine ⟨_, rfl, ?_⟩; have n0_ := Aside0.mk (Kd.R_elder' (zR9 HO0.out) (Kd.R_base ho0) hb); have n1_ := Aside0.mk (Kd.R_lower (Kd.R_new' (Kd.R_newM (M := fun k_ => (P0_ k_ ∨ w.heap.size ≤ k_)) ho0 (by first | exact HK.out.1 | exact (show Kept w _ (fun k_ => P0_ k_) from zB9_6).1) (fun k_ h_ => .inr h_)) (Kd.R_lt (zR9 HO0.out))) (below_size (zB9_7))); have n2_ := Aside0.mk (zb9 BK405.out hb); have n3_ := Aside0.mk (zb9 BK406.out hb); have n4_ := Aside0.mk (zb9 BK414.out hb); have n5_ := Aside0.mk (Kept.below (S := (fun k_ => P0_ k_)) (zB9_6) hb); have n6_ := Aside0.mk (below_step (zB9_7) hb); clear HO0; clear BK405; clear BK406; clear BK414; clear HK; clear HB; have HO0 := n0_; have HO419 := n1_; have BK405 := n2_; have BK406 := n3_; have BK414 := n4_; have HK := n5_; have HB := n6_; clear n0_ n1_ n2_ n3_ n4_ n5_ n6_; (try clear hb); (try clear hb2); (try clear hk); (try clear hi); (try clear ho0); obtain ⟨Ao28, co28, eo28⟩ := Kd.R_slice HO419.out; subst eo28; obtain ⟨hcz29_0, hcz29_1, hcz29_2, hfz29_0, hfz29_1, hfz29_2⟩ := zc9_3 (w := w27) BK405.out) | ((with_reducible refine gate_store (t := 47) (p := 3) rfl ?_); refine store_event (t := 47) (p := 3) (v := ?vo_w30) (w1 := (((w27.setCell ⟨gb405, 0, none⟩ (.slice Ao28 t417.length co28)).setCell ⟨gb405, 1, none⟩ (.int .i64 t420)).setCell ⟨gb405, 2, none⟩ (.int .i64 t421))) ?hg ?ho ?hn ?hr ?_; (case ho => rfl); (case hg => rfl); (case hn => rfl); (case hr => first | (go_simp; done) | (go_simp; rfl)); intro w30 hw; have n0_ : Aside0 (Kd.R (Kd.int .i64) 3 w30 w0.heap.size (fun k_ => (P0_ k_ ∨ w.heap.size ≤ k_) ∧ some k_ ≠ (.slice Ao28 t417.length co28 : Value).ownBlock) (.slice (some ad407) l0.length co17) l0) := ⟨(by rw [hw]; exact (by (with_reducible repeat (first | apply Kd.R_alloc | apply Kd.R_drewN | apply Kd.R_drew)); exact Kd.R_mono (Kd.R_far (p := ⟨gb405, 2, none⟩) (Kd.R_far (p := ⟨gb405, 1, none⟩) (Kd.R_far (p := ⟨gb405, 0, none⟩) (Kd.R_types HO0.out BK405.out (by decide)) (fun _ hk => hk.2) (.slice Ao28 t417.length co28)) (fun _ hk => hk.2) (.int .i64 t420)) (fun _ hk => hk.2) (.int .i64 t421)) (fun _ hk => ⟨hk.1.1, hk.1.2⟩)))⟩; have n1_ : Aside0 (Kd.R (Kd.int .i64) 3 w30 w0.heap.size (fun k_ => (P0_ k_ ∨ w.heap.size ≤ k_) ∧ some k_ ≠ (.slice (some ad407) l0.length co17 : Value).ownBlock) (.slice Ao28 t417.length co28) t417) := ⟨(by rw [hw]; exact (by (with_reducible repeat (first | apply Kd.R_alloc | apply Kd.R_drewN | apply Kd.R_drew)); exact Kd.R_mono (Kd.R_far (p := ⟨gb405, 2, none⟩) (Kd.R_far (p := ⟨gb405, 1, none⟩) (Kd.R_far (p := ⟨gb405, 0, none⟩) (Kd.R_types HO419.out BK405.out (by decide)) (fun _ hk => hk.2) (.slice Ao28 t417.length co28)) (fun _ hk => hk.2) (.int .i64 t420)) (fun _ hk => hk.2) (.int .i64 t421)) (fun _ hk => ⟨hk.1.1.1, hk.1.2⟩)))⟩; have n2_ : Aside0 (w30.heap[gb405]? = some (.cells #[.slice Ao28 t417.length co28, .int .i64 t420, .int .i64 t421] 47 (0, 0))) := ⟨(by rw [hw]; exact (by refine zP9 ?_; refine blk_put (cs := #[.slice Ao28 t417.length co28, .int .i64 t420, .int .i64 a1_2]) ?_ 2 _ rfl; refine zP9 ?_; refine blk_put (cs := #[.slice Ao28 t417.length co28, .int .i64 a1_1, .int .i64 a1_2]) ?_ 1 _ rfl; refine zP9 ?_; refine blk_put (cs := #[.slice A1_0 l1_0.length c1_0, .int .i64 a1_1, .int .i64 a1_2]) ?_ 0 _ rfl; refine zP9 ?_; exact BK405.out))⟩; have n3_ : Aside0 (w30.heap[gb406]? = some (.cells #[.slice none 0 0, .int .i64 0, .int .i64 0] 47 (0, 0))) := ⟨(by rw [hw]; exact (by refine zP9 ?_; refine blk_far ?_ NB406_405.out _; refine zP9 ?_; refine blk_far ?_ NB406_405.out _; refine zP9 ?_; refine blk_far ?_ NB406_405.out _; refine zP9 ?_; exact BK406.out))⟩; have n4_ : Aside0 (w30.heap[gb414]? = some (.cells #[.int .i64 t408, .int .i64 t409, .int .i64 t410, .int .i64 t411, .int .i64 t412] 66 (0, 0))) := ⟨(by rw [hw]; exact (by refine zP9 ?_; refine blk_far ?_ NB414_405.out _; refine zP9 ?_; refine blk_far ?_ NB414_405.out _; refine zP9 ?_; refine blk_far ?_ NB414_405.out _; refine zP9 ?_; exact BK414.out))⟩; have n5_ : Aside0 (Kept w w30 (fun k_ => P0_ k_)) := ⟨(by rw [hw]; exact (zB9_6))⟩; have n6_ : Aside0 (Below w0.heap.size w0 w30) := ⟨(by rw [hw]; exact (zB9_7))⟩; clear hw; clear HO0; clear HO419; clear BK405; clear BK406; clear BK414; clear HK; clear HB; have HO0 := n0_; have HO419 := n1_; have BK405 := n2_; have BK406 := n3_; have BK414 := n4_; have HK := n5_; have HB := n6_; clear n0_ n1_ n2_ n3_ n4_ n5_ n6_; have p12 : 0 ≤ (t415 : Int) := zA9; have q12 : (t415 : Int) < ((l0.length : Int) : Int) := zA9; obtain ⟨go12, co12, eo12, gb12, gl12, cl12, HG12⟩ := Kd.R_form HO0.out (by omega); (first | cases eo12 | (injection eo12 with ea_ en_ ec_; (first | subst ea_ | (injection ea_ with ea_; subst ea_)); subst ec_; clear en_)); have GB12 := Aside0.mk gb12; have GG12 := Aside0.mk HG12; clear gb12 gl12 HG12; have HMgo12 := Aside0.mk (show (P0_ go12 ∨ w.heap.size ≤ go12) from (HO0.out.1 _ rfl).1); (first | simp only [add_plain] at hx407_0 | skip); (first | simp only [add_plain] at hx416_0 | skip); obtain ⟨hx12_0, hf12_0⟩ := Kd.R_celln 0 HO0.out (t415 : Int) p12 q12; replace p12 := eq_true p12; replace q12 := eq_true q12; obtain ⟨hy31_, hz31_⟩ := Kd.R_celln 0 HO0.out (t415 : Int) (zA9) (zA9); have HP31 := Kd.R_putg HO0.out (t415 : Int) t422) | ((with_reducible refine gate_store (t := 3) (p := 41) rfl ?_); refine store_event (t := 3) (p := 41) (v := ?vo_w32) (w1 := (w30.setCell ⟨go12, (t415 : Int).toNat, none⟩ (.int .i64 t422))) ?hg ?ho ?hn ?hr ?_; (case ho => rfl); (case hg => rfl); (case hn => rfl); (case hr => first | (go_simp; done) | (go_simp; rfl)); intro w32 hw; have hg : w30.grownBy w32 (some go12) := (by rw [hw]; exact HP31.2); have hp_ : Kd.R (Kd.int .i64) 3 w32 w0.heap.size (fun k_ => (P0_ k_ ∨ w.heap.size ≤ k_) ∧ some k_ ≠ (.slice Ao28 t417.length co28 : Value).ownBlock) (.slice (some ⟨go12, 0, none⟩) l0.length co17) y423 := (by rw [hw, Ny423.out]; exact HP31.1); clear HP31; have n0_ := Aside0.mk (hp_); have n1_ := Aside0.mk (zg9 BK405.out hg (Kd.R_ne HO0.out BK405.out (by decide))); have n2_ := Aside0.mk (zg9 BK406.out hg (Kd.R_ne HO0.out BK406.out (by decide))); have n3_ := Aside0.mk (zg9 BK414.out hg (Kd.R_ne HO0.out BK414.out (by decide))); have n4_ := Aside0.mk (Kd.R_after (v := (.slice (some ⟨go12, 0, none⟩) l0.length co17)) (v1 := (.slice (some ⟨go12, 0, none⟩) l0.length co17)) (ok := (fun k_ => (P0_ k_ ∨ w.heap.size ≤ k_))) (zR9 HO419.out) hg (.inl rfl)); have n5_ := Aside0.mk ((by rw [hw]; exact below_set (HB.out) GB12.out : Below w0.heap.size w0 w32)); have n6_ := Aside0.mk (Kept.of_grown (S := (fun k_ => P0_ k_)) hg (zB9_6) (fun k_ e_ => (HO0.out.1 k_ e_).1)); clear HO0; clear BK405; clear BK406; clear BK414; clear HO419; clear HB; clear HK; have HO0 := n0_; have BK405 := n1_; have BK406 := n2_; have BK414 := n3_; have HO419 := n4_; have HB := n5_; have HK := n6_; clear n0_ n1_ n2_ n3_ n4_ n5_ n6_; clear hg hw hp_; obtain ⟨hcz33_0, hcz33_1, hcz33_2, hfz33_0, hfz33_1, hfz33_2⟩ := zc9_3 (w := w32) BK405.out; obtain ⟨hcz34_0, hcz34_1, hcz34_2, hfz34_0, hfz34_1, hfz34_2⟩ := zc9_3 (w := w32) BK406.out))
 refine bodyPost_ret (results_cell_row rfl _ _ gb406 47 #[.slice Ao28 t417.length co28, .int .i64 t420, .int .i64 t421] (0, 0) _ rfl (by refine zP9 ?_; refine blk_put (cs := #[.slice Ao28 t417.length co28, .int .i64 t420, .int .i64 0]) ?_ 2 _ rfl; refine zP9 ?_; refine blk_put (cs := #[.slice Ao28 t417.length co28, .int .i64 0, .int .i64 0]) ?_ 1 _ rfl; refine zP9 ?_; refine blk_put (cs := #[.slice none 0 0, .int .i64 0, .int .i64 0]) ?_ 0 _ rfl; refine zP9 ?_; exact BK406.out) Try.underlying47 rfl (by kernel_rfl)) rfl ?_
 exact ⟨_, zE9, by (with_reducible repeat (first | apply Kd.R_alloc | apply Kd.R_drewN | apply Kd.R_drew)); exact Kd.R_mono (Kd.R_far (p := ⟨gb406, 2, none⟩) (Kd.R_far (p := ⟨gb406, 1, none⟩) (Kd.R_far (p := ⟨gb406, 0, none⟩) (Kd.R_types HO419.out BK406.out (by decide)) (fun _ hk => hk.2) (.slice Ao28 t417.length co28)) (fun _ hk => hk.2) (.int .i64 t420)) (fun _ hk => hk.2) (.int .i64 t421)) (fun _ hk => ⟨hk.1.1, hk.1.2⟩), by (with_reducible repeat (first | apply Kd.R_alloc | apply Kd.R_drewN | apply Kd.R_drew)); exact Kd.R_mono (Kd.R_far (p := ⟨gb406, 2, none⟩) (Kd.R_far (p := ⟨gb406, 1, none⟩) (Kd.R_far (p := ⟨gb406, 0, none⟩) (Kd.R_types HO0.out BK406.out (by decide)) (fun _ hk => hk.2) (.slice Ao28 t417.length co28)) (fun _ hk => hk.2) (.int .i64 t420)) (fun _ hk => hk.2) (.int .i64 t421)) (fun _ hk => hk.1.1), zB9_7, zB9_6⟩

/-! ### impl_FlatRun: function 26 -/
mutual
def impl_FlatRun.j0 : Nat → List Int → List (S47) → List Int → Bool → Option (List Int × (List (S47)))
 | 0, _, _, _, _ => none
 | k + 1, x0, x1, x2, x21 => if x21 = true then (some (x0, x1)) else (impl_FlatRun.l0 k x0 x1 x2 (x2.length : Int) 0)
def impl_FlatRun.l0 : Nat → List Int → List (S47) → List Int → Int → Int → Option (List Int × (List (S47)))
 | 0, _, _, _, _, _ => none
 | k + 1, x0, x1, x24, x25, x26 => if x26 < x25 then (if 0 ≤ x26 then (if x26 < (x24.length : Int) then ((impl_from.f (rd x24 x26) 0 (wrap64 ((x1.length : Int) - 1))).bind fun t439 => (if t439 = true then (if 0 ≤ (rd x24 x26) then (if (rd x24 x26) < (x1.length : Int) then ((impl_goes.f k ((rd_T47 x1 (rd x24 x26)).f0) ((rd_T47 x1 (rd x24 x26)).f1) ((rd_T47 x1 (rd x24 x26)).f2)).bind fun t441 => (if t441 = true then ((impl_step.f k x0 ((rd_T47 x1 (rd x24 x26)).f0) ((rd_T47 x1 (rd x24 x26)).f1) ((rd_T47 x1 (rd x24 x26)).f2)).bind fun bt443 => (impl_FlatRun.l0 k bt443.2.2.2 (x1.set ((rd x24 x26) : Int).toNat (⟨bt443.1, bt443.2.1, bt443.2.2.1⟩ : S47)) x24 x25 (wrap64 (x26 + 1)))) else (impl_FlatRun.l0 k x0 x1 x24 x25 (wrap64 (x26 + 1))))) else (none)) else (none)) else (impl_FlatRun.l0 k x0 x1 x24 x25 (wrap64 (x26 + 1))))) else (none)) else (none)) else (some (x0, x1))
end
def impl_FlatRun.f (k : Nat) (l0 : List Int) (l1 : List (S47)) (l2 : List Int) : Option (List Int × (List (S47))) := (slices_Clone_int_int.f l0).bind fun t431 => ((impl_copyHarts.f k l1).bind fun t434 => (if (l2.length : Int) > 2000 then (impl_FlatRun.j0 k t431 t434 l2 true) else ((impl_memOk.f k t431).bind fun t437 => (impl_FlatRun.j0 k t431 t434 l2 (!t437)))))
theorem impl_FlatRun.mono_l : ∀ k, (∀ y0 y1 y2 y3, LeO (impl_FlatRun.j0 k y0 y1 y2 y3) (impl_FlatRun.j0 (k + 1) y0 y1 y2 y3)) ∧ (∀ y0 y1 y2 y3 y4, LeO (impl_FlatRun.l0 k y0 y1 y2 y3 y4) (impl_FlatRun.l0 (k + 1) y0 y1 y2 y3 y4))
 | 0 => ⟨fun _ _ _ _ r h => by simp [impl_FlatRun.j0] at h, fun _ _ _ _ _ r h => by simp [impl_FlatRun.l0] at h⟩
 | k + 1 => by
  obtain ⟨ih0, ih1⟩ := impl_FlatRun.mono_l k
  refine ⟨?_, ?_⟩
  ·intro y0 y1 y2 y3
   unfold impl_FlatRun.j0
   repeat' first
   | (with_reducible exact ih0 _ _ _ _)
   | (with_reducible exact ih1 _ _ _ _ _)
   | (with_reducible exact impl_copyHarts.mono _ _)
   | (with_reducible exact impl_goes.mono _ _ _ _)
   | (with_reducible exact impl_memOk.mono _ _)
   | (with_reducible exact impl_step.mono _ _ _ _ _)
   | (with_reducible exact LeO.refl _)
   | (with_reducible exact LeO.none _)
   | (with_reducible refine LeO.ite ?_ ?_)
   | (with_reducible refine LeO.bind ?_ (fun _ => ?_))
   | exact ih0 _ _ _ _
   | exact ih1 _ _ _ _ _
   | exact impl_copyHarts.mono _ _
   | exact impl_goes.mono _ _ _ _
   | exact impl_memOk.mono _ _
   | exact impl_step.mono _ _ _ _ _
   | exact LeO.none _
   | refine LeO.ite ?_ ?_
   | refine LeO.bind ?_ (fun _ => ?_)
  ·intro y0 y1 y2 y3 y4
   unfold impl_FlatRun.l0
   repeat' first
   | (with_reducible exact ih0 _ _ _ _)
   | (with_reducible exact ih1 _ _ _ _ _)
   | (with_reducible exact impl_copyHarts.mono _ _)
   | (with_reducible exact impl_goes.mono _ _ _ _)
   | (with_reducible exact impl_memOk.mono _ _)
   | (with_reducible exact impl_step.mono _ _ _ _ _)
   | (with_reducible exact LeO.refl _)
   | (with_reducible exact LeO.none _)
   | (with_reducible refine LeO.ite ?_ ?_)
   | (with_reducible refine LeO.bind ?_ (fun _ => ?_))
   | exact ih0 _ _ _ _
   | exact ih1 _ _ _ _ _
   | exact impl_copyHarts.mono _ _
   | exact impl_goes.mono _ _ _ _
   | exact impl_memOk.mono _ _
   | exact impl_step.mono _ _ _ _ _
   | exact LeO.none _
   | refine LeO.ite ?_ ?_
   | refine LeO.bind ?_ (fun _ => ?_)
theorem impl_FlatRun.mono : ∀ a0 a1 a2 k, LeO (impl_FlatRun.f k a0 a1 a2) (impl_FlatRun.f (k + 1) a0 a1 a2) := by
 intro a0 a1 a2 k
 obtain ⟨ih0, ih1⟩ := impl_FlatRun.mono_l k
 unfold impl_FlatRun.f
 repeat' first
   | (with_reducible exact ih0 _ _ _ _)
   | (with_reducible exact ih1 _ _ _ _ _)
   | (with_reducible exact impl_copyHarts.mono _ _)
   | (with_reducible exact impl_goes.mono _ _ _ _)
   | (with_reducible exact impl_memOk.mono _ _)
   | (with_reducible exact impl_step.mono _ _ _ _ _)
   | (with_reducible exact LeO.refl _)
   | (with_reducible exact LeO.none _)
   | (with_reducible refine LeO.ite ?_ ?_)
   | (with_reducible refine LeO.bind ?_ (fun _ => ?_))
   | exact ih0 _ _ _ _
   | exact ih1 _ _ _ _ _
   | exact impl_copyHarts.mono _ _
   | exact impl_goes.mono _ _ _ _
   | exact impl_memOk.mono _ _
   | exact impl_step.mono _ _ _ _ _
   | exact LeO.none _
   | refine LeO.ite ?_ ?_
   | refine LeO.bind ?_ (fun _ => ?_)
set_option maxHeartbeats 8000000 in
set_option maxRecDepth 100000 in
theorem impl_FlatRun.calls (k : Nat) (A0 : Option Addr) (c0 : Nat) (l0 : List Int) (A1 : Option Addr) (c1 : Nat) (l1 : List (S47)) (A2 : Option Addr) (c2 : Nat) (l2 : List Int) (r1 : List Int) (r2 : List (S47)) (w : World) (hr0 : Kd.C (Kd.int .i64) w A0 l0.length l0) (hc0 : l0.length ≤ c0) (hr1 : Kd.C k47 w A1 l1.length l1) (hc1 : l1.length ≤ c1) (hr2 : Kd.C (Kd.int .i64) w A2 l2.length l2) (hc2 : l2.length ≤ c2) (h : impl_FlatRun.f k l0 l1 l2 = some (r1, r2)) :
  Calls Try.prog 26 #[.slice A0 l0.length c0, .slice A1 l1.length c1, .slice A2 l2.length c2] w fun e w' => ∃ v0_ v1_ : Value, e = .returned (.tuple #[v0_, v1_]) ∧ Kd.R (Kd.int .i64) 3 w' w.heap.size (fun _ => True) v0_ r1 ∧ Kd.S k47 47 w' w.heap.size (fun k_ => some k_ ≠ (v0_ : Value).ownBlock) v1_ r2 ∧ Below w.heap.size w w' := by
 have hu47 := Try.underlying47
 have HR0 := Aside0.mk hr0
 have HC0 := Aside0.mk hc0
 clear hr0 hc0
 have HR1 := Aside0.mk hr1
 have HC1 := Aside0.mk hc1
 clear hr1 hc1
 have HR2 := Aside0.mk hr2
 have HC2 := Aside0.mk hc2
 clear hr2 hc2
 have HB := Aside0.mk (Below.refl w.heap.size w)
 have H : ((slices_Clone_int_int.f l0).bind fun t431 => ((impl_copyHarts.f k l1).bind fun t434 => (if (l2.length : Int) > 2000 then (impl_FlatRun.j0 k t431 t434 l2 true) else ((impl_memOk.f k t431).bind fun t437 => (impl_FlatRun.j0 k t431 t434 l2 (!t437)))))) = some (r1, r2) := h
 clear h
 replace H := Option.bind_eq_some_iff.mp H
 obtain ⟨t431, A40, H⟩ := H
 replace H : ((impl_copyHarts.f k l1).bind fun t434 => (if (l2.length : Int) > 2000 then (impl_FlatRun.j0 k t431 t434 l2 true) else ((impl_memOk.f k t431).bind fun t437 => (impl_FlatRun.j0 k t431 t434 l2 (!t437))))) = some (r1, r2) := H
 have A4 := Aside0.mk A40
 clear A40
 replace H := Option.bind_eq_some_iff.mp H
 obtain ⟨t434, A50, H⟩ := H
 replace H : (if (l2.length : Int) > 2000 then (impl_FlatRun.j0 k t431 t434 l2 true) else ((impl_memOk.f k t431).bind fun t437 => (impl_FlatRun.j0 k t431 t434 l2 (!t437)))) = some (r1, r2) := H
 have A5 := Aside0.mk A50
 clear A50
 have HC6 := Aside0.mk H
 clear H
 go_enter Try.func26, Try.ntmps26
 go_upto_region 3 with (first | ((with_reducible refine gate_callee (f := 68) rfl ?_); refine goesL_ (some 11) rfl rfl Try.func68 (by kernel_rfl) rfl #[.slice A0 l0.length c0] rfl zT9 ?_; (with_reducible refine (slices_Clone_int_int.calls _ _ l0 t431 _ ?side1 ?side2 A4.out).mono ?_); (case side1 => exact zC9 HR0.out); (case side2 => exact HC0.out); rintro e w7 ⟨v432, rfl, ho0, hb⟩; refine ⟨_, rfl, ?_⟩; have n0_ := Aside0.mk (Kd.R_lower ho0 (below_size (zB9_1))); have n1_ := Aside0.mk (below_step (zB9_1) hb); clear HB; have HO433 := n0_; have HB := n1_; clear n0_ n1_; (try clear hb); (try clear hb2); (try clear hk); (try clear hi); (try clear ho0)) | ((with_reducible refine gate_callee (f := 69) rfl ?_); refine goesL_ (some 13) rfl rfl Try.func69 (by kernel_rfl) rfl #[.slice A1 l1.length c1] rfl zT9 ?_; (with_reducible refine (impl_copyHarts.calls k _ _ l1 t434 _ ?side1 ?side2 A5.out).mono ?_); (case side1 => exact zC9 (Kd.C_below HR1.out HB.out)); (case side2 => exact HC1.out); rintro e w8 ⟨v435, rfl, ho0, hb⟩; refine ⟨_, rfl, ?_⟩; have n0_ := Aside0.mk (Kd.R_below (zR9 HO433.out) hb); have n1_ := Aside0.mk (Kd.S_lower (Kd.S_new' ho0 (Kd.R_lt (zR9 HO433.out))) (below_size (zB9_1))); have n2_ := Aside0.mk (below_step (zB9_1) hb); clear HO433; clear HB; have HO433 := n0_; have HO436 := n1_; have HB := n2_; clear n0_ n1_ n2_; (try clear hb); (try clear hb2); (try clear hk); (try clear hi); (try clear ho0)))
 (try simp only [Act.put, List.setIfInBounds_toArray, List.set_cons_zero, List.set_cons_succ])
 go_cut [21] (fun v21 wc => ∃ (kq : Nat) (x21_5 : Bool), v21 = .bool x21_5 ∧ Aside0 (impl_FlatRun.j0 kq t431 t434 l2 x21_5 = some (r1, r2)) ∧ Aside0 (kq ≤ k) ∧ Aside0 (Kd.R (Kd.int .i64) 3 wc w.heap.size (fun _ => True) v432 t431) ∧ Aside0 (Kd.S k47 47 wc w.heap.size (fun k_ => some k_ ≠ (v432 : Value).ownBlock) v435 t434) ∧ Aside0 (Below w.heap.size w wc))
 case first =>
  have H := HC6.out
  clear HC6
  by_cases c9 : (l2.length : Int) > 2000
  ·rw [if_pos c9] at H
   have c9b0 : decide (2000 < (l2.length : Int)) = true := decide_eq_true c9
   have c9b1 : decide (2000 < l2.length) = true := decide_eq_true (by omega)
   clear c9
   (first | rw [c9b0] | (simp only [i64_w, i32_w]; rw [c9b0]) | skip)
   have H' := Aside0.mk H
   clear H
   go_wp2
   go_meet
   case rel => exact ⟨_, (true), (by first | rfl | (simp; done) | (simp [*]; done)), H', ⟨by first | omega | exact Nat.le_refl _⟩, ⟨zR9 HO433.out⟩, ⟨by (with_reducible repeat (first | apply Kd.S_alloc | apply Kd.S_drewN | apply Kd.S_drew)); exact Kd.S_mono HO436.out (fun _ hk => hk.2)⟩, ⟨zB9_1⟩⟩
  rw [if_neg c9] at H
  have c9b0 : decide (2000 < (l2.length : Int)) = false := decide_eq_false c9
  have c9b1 : decide (2000 < l2.length) = false := decide_eq_false (by omega)
  clear c9
  (first | rw [c9b0] | (simp only [i64_w, i32_w]; rw [c9b0]) | skip)
  replace H := Option.bind_eq_some_iff.mp H
  obtain ⟨t437, A100, H⟩ := H
  replace H : (impl_FlatRun.j0 k t431 t434 l2 (!t437)) = some (r1, r2) := H
  have A10 := Aside0.mk A100
  clear A100
  have H' := Aside0.mk H
  clear H
  obtain ⟨Ao11, co11, eo11⟩ := Kd.R_slice HO433.out
  subst eo11
  go_wp2_with (first | (go_at_call 48; (with_reducible refine (impl_memOk.calls k _ _ t431 t437 _ ?side1 ?side2 A10.out).mono ?_); (case side1 => exact zC9 (Kd.R_reads' HO433.out).2.2); (case side2 => exact (Kd.R_reads' HO433.out).2.1); rintro e w' ⟨rfl, ⟨nd, rfl⟩⟩))
  go_meet
  case rel => exact ⟨_, (!t437), (by first | rfl | (simp; done) | (simp [*]; done)), H', ⟨by first | omega | exact Nat.le_refl _⟩, ⟨zR9 HO433.out⟩, ⟨by (with_reducible repeat (first | apply Kd.S_alloc | apply Kd.S_drewN | apply Kd.S_drew)); exact Kd.S_mono HO436.out (fun _ hk => hk.2)⟩, ⟨zB9_1⟩⟩
 case rest =>
  clear HC6
  try clear c1
  try clear c2
  try clear p2
  try clear c6
  try clear c9
  try clear c9b0
  try clear c9b1
  obtain ⟨kq, x21_5, rfl, HA, HJ5, HO_0, HO_1, HB⟩ := hcut
  cases kq with
  | zero => exact absurd HA.out (by simp [impl_FlatRun.j0])
  | succ kj5 =>
   have H := HA.out
   clear HA
   simp only [impl_FlatRun.j0] at H
   by_cases c12 : x21_5 = true
   ·subst c12
    have H1 : (some (t431, t434)) = some (r1, r2) := by rw [if_pos rfl] at H; exact H
    clear H
    have H := H1
    clear H1
    simp only [Option.some.injEq, Prod.mk.injEq] at H
    obtain ⟨rfl, rfl⟩ := H
    go_wp2
    go_ret2
    exact ⟨_, _, zE9, zR9 HO_0.out, zS9 HO_1.out, zB9_1⟩
   replace c12 := Bool.eq_false_iff.mpr c12
   subst c12
   have H1 : (impl_FlatRun.l0 kj5 t431 t434 l2 (l2.length : Int) 0) = some (r1, r2) := by rw [if_neg (show ¬ (false = true) by decide)] at H; exact H
   clear H
   have H := H1
   clear H1
   have H' := Aside0.mk H
   clear H
   go_wp2
   go_loopg [26] kj5 (fun kq v26 w' => ∃ (x0_2 : List Int) (x1_2 : List (S47)) (x26_2 : Int), v26 = .int .i64 x26_2 ∧ Aside0 (impl_FlatRun.l0 kq x0_2 x1_2 l2 (l2.length : Int) x26_2 = some (r1, r2)) ∧ Aside0 (kq ≤ kj5) ∧ Aside0 (Kd.R (Kd.int .i64) 3 w' w.heap.size (fun _ => True) v432 x0_2) ∧ Aside0 (Kd.S k47 47 w' w.heap.size (fun k_ => some k_ ≠ (v432 : Value).ownBlock) v435 x1_2) ∧ Aside0 (Below w.heap.size w w'))
   case atStart => exact ⟨(t431), (t434), (0), (by first | rfl | (simp; done) | (simp [*]; done)), H', ⟨Nat.le_refl _⟩, ⟨zR9 HO_0.out⟩, ⟨zS9 HO_1.out⟩, ⟨zB9_1⟩⟩
   case round =>
    clear H'
    try clear c1
    try clear c2
    try clear p2
    try clear c6
    try clear c9
    try clear c9b0
    try clear c9b1
    try clear c12
    try clear p2
    obtain ⟨x0_2, x1_2, x26_2, rfl, HA, HK2, HO_0, HO_1, HB⟩ := hrel
    cases gk with
    | zero => exact absurd HA.out (by simp [impl_FlatRun.l0])
    | succ k2 =>
     have H := HA.out
     clear HA
     simp only [impl_FlatRun.l0] at H
     by_cases c13 : x26_2 < (l2.length : Int)
     rotate_left
     ·rw [if_neg c13] at H
      have c13b0 : decide (x26_2 < (l2.length : Int)) = false := decide_eq_false c13
      clear c13
      simp only [Option.some.injEq, Prod.mk.injEq] at H
      obtain ⟨rfl, rfl⟩ := H
      go_wp2
      go_ret2
      exact ⟨_, _, zE9, zR9 HO_0.out, zS9 HO_1.out, zB9_1⟩
     rw [if_pos c13] at H
     have c13b0 : decide (x26_2 < (l2.length : Int)) = true := decide_eq_true c13
     clear c13
     by_cases c14 : 0 ≤ x26_2
     rotate_left
     ·rw [if_neg c14] at H
      exact absurd H (by simp)
     rw [if_pos c14] at H
     have c14b0 : decide (0 ≤ x26_2) = true := decide_eq_true c14
     clear c14
     by_cases c15 : x26_2 < (l2.length : Int)
     rotate_left
     ·rw [if_neg c15] at H
      exact absurd H (by simp)
     rw [if_pos c15] at H
     have c15b0 : decide (x26_2 < (l2.length : Int)) = true := decide_eq_true c15
     clear c15
     replace H := Option.bind_eq_some_iff.mp H
     obtain ⟨t439, A160, H⟩ := H
     replace H : (if t439 = true then (if 0 ≤ (rd l2 x26_2) then (if (rd l2 x26_2) < (x1_2.length : Int) then ((impl_goes.f k2 ((rd_T47 x1_2 (rd l2 x26_2)).f0) ((rd_T47 x1_2 (rd l2 x26_2)).f1) ((rd_T47 x1_2 (rd l2 x26_2)).f2)).bind fun t441 => (if t441 = true then ((impl_step.f k2 x0_2 ((rd_T47 x1_2 (rd l2 x26_2)).f0) ((rd_T47 x1_2 (rd l2 x26_2)).f1) ((rd_T47 x1_2 (rd l2 x26_2)).f2)).bind fun bt443 => (impl_FlatRun.l0 k2 bt443.2.2.2 (x1_2.set ((rd l2 x26_2) : Int).toNat (⟨bt443.1, bt443.2.1, bt443.2.2.1⟩ : S47)) l2 (l2.length : Int) (wrap64 (x26_2 + 1)))) else (impl_FlatRun.l0 k2 x0_2 x1_2 l2 (l2.length : Int) (wrap64 (x26_2 + 1))))) else (none)) else (none)) else (impl_FlatRun.l0 k2 x0_2 x1_2 l2 (l2.length : Int) (wrap64 (x26_2 + 1)))) = some (r1, r2) := H
     have A16 := Aside0.mk A160
     clear A160
     by_cases c17 : t439 = true
     rotate_left
     ·replace c17 := Bool.eq_false_iff.mpr c17
      subst c17
      have H1 : (impl_FlatRun.l0 k2 x0_2 x1_2 l2 (l2.length : Int) (wrap64 (x26_2 + 1))) = some (r1, r2) := by rw [if_neg (show ¬ (false = true) by decide)] at H; exact H
      clear H
      have H := H1
      clear H1
      have H' := Aside0.mk H
      clear H
      have p438 : 0 ≤ (x26_2 : Int) := zA9
      have q438 : x26_2 < (l2.length : Int) := zA9
      obtain ⟨ad438, e438, hx438_0⟩ := Kd.at_int HR2.out x26_2 p438 q438
      cases e438
      replace hx438_0 := (HB.out.cell (World.block_lt_of_cell? w _ hx438_0)).trans hx438_0
      replace p438 := eq_true p438
      replace q438 := eq_true q438
      obtain ⟨Ao33, co33, eo33⟩ := Kd.S_slice HO_1.out
      subst eo33
      go_wp2_with (first | ((with_reducible refine gate_callee (f := 70) rfl ?_); refine goesL_ (some 34) rfl rfl Try.func70 (by kernel_rfl) rfl #[.int .i64 (rd l2 x26_2), .int .i64 0, .int .i64 (wrap64 ((x1_2.length : Int) - 1))] rfl zT9 ?_; (with_reducible refine (impl_from.calls (rd l2 x26_2) 0 (wrap64 ((x1_2.length : Int) - 1)) false _ A16.out).mono ?_); rintro e w' ⟨rfl, ⟨nd, rfl⟩⟩; refine ⟨_, rfl, ?_⟩))
      go_roundg k2
      case measure => have := HJ5.out; have := HK2.out; omega
      case rel => exact ⟨(x0_2), (x1_2), (wrap64 (x26_2 + 1)), (by first | rfl | (simp; done) | (simp [*]; done)), H', ⟨by have := HJ5.out; have := HK2.out; omega⟩, ⟨zR9 HO_0.out⟩, ⟨zS9 HO_1.out⟩, ⟨zB9_1⟩⟩
     subst c17
     have H1 : (if 0 ≤ (rd l2 x26_2) then (if (rd l2 x26_2) < (x1_2.length : Int) then ((impl_goes.f k2 ((rd_T47 x1_2 (rd l2 x26_2)).f0) ((rd_T47 x1_2 (rd l2 x26_2)).f1) ((rd_T47 x1_2 (rd l2 x26_2)).f2)).bind fun t441 => (if t441 = true then ((impl_step.f k2 x0_2 ((rd_T47 x1_2 (rd l2 x26_2)).f0) ((rd_T47 x1_2 (rd l2 x26_2)).f1) ((rd_T47 x1_2 (rd l2 x26_2)).f2)).bind fun bt443 => (impl_FlatRun.l0 k2 bt443.2.2.2 (x1_2.set ((rd l2 x26_2) : Int).toNat (⟨bt443.1, bt443.2.1, bt443.2.2.1⟩ : S47)) l2 (l2.length : Int) (wrap64 (x26_2 + 1)))) else (impl_FlatRun.l0 k2 x0_2 x1_2 l2 (l2.length : Int) (wrap64 (x26_2 + 1))))) else (none)) else (none)) = some (r1, r2) := by rw [if_pos rfl] at H; exact H
     clear H
     have H := H1
     clear H1
     by_cases c18 : 0 ≤ (rd l2 x26_2)
     rotate_left
     ·rw [if_neg c18] at H
      exact absurd H (by simp)
     rw [if_pos c18] at H
     have c18b0 : decide (0 ≤ (rd l2 x26_2)) = true := decide_eq_true c18
     clear c18
     by_cases c19 : (rd l2 x26_2) < (x1_2.length : Int)
     rotate_left
     ·rw [if_neg c19] at H
      exact absurd H (by simp)
     rw [if_pos c19] at H
     have c19b0 : decide ((rd l2 x26_2) < (x1_2.length : Int)) = true := decide_eq_true c19
     clear c19
     replace H := Option.bind_eq_some_iff.mp H
     obtain ⟨t441, A200, H⟩ := H
     replace H : (if t441 = true then ((impl_step.f k2 x0_2 ((rd_T47 x1_2 (rd l2 x26_2)).f0) ((rd_T47 x1_2 (rd l2 x26_2)).f1) ((rd_T47 x1_2 (rd l2 x26_2)).f2)).bind fun bt443 => (impl_FlatRun.l0 k2 bt443.2.2.2 (x1_2.set ((rd l2 x26_2) : Int).toNat (⟨bt443.1, bt443.2.1, bt443.2.2.1⟩ : S47)) l2 (l2.length : Int) (wrap64 (x26_2 + 1)))) else (impl_FlatRun.l0 k2 x0_2 x1_2 l2 (l2.length : Int) (wrap64 (x26_2 + 1)))) = some (r1, r2) := H
     have A20 := Aside0.mk A200
     clear A200
     by_cases c21 : t441 = true
     rotate_left
     ·replace c21 := Bool.eq_false_iff.mpr c21
      subst c21
      have H1 : (impl_FlatRun.l0 k2 x0_2 x1_2 l2 (l2.length : Int) (wrap64 (x26_2 + 1))) = some (r1, r2) := by rw [if_neg (show ¬ (false = true) by decide)] at H; exact H
      clear H
      have H := H1
      clear H1
      have H' := Aside0.mk H
      clear H
      have p438 : 0 ≤ (x26_2 : Int) := zA9
      have q438 : x26_2 < (l2.length : Int) := zA9
      obtain ⟨ad438, e438, hx438_0⟩ := Kd.at_int HR2.out x26_2 p438 q438
      cases e438
      replace hx438_0 := (HB.out.cell (World.block_lt_of_cell? w _ hx438_0)).trans hx438_0
      replace p438 := eq_true p438
      replace q438 := eq_true q438
      obtain ⟨Ao31, co31, eo31⟩ := Kd.S_slice HO_1.out
      subst eo31
      go_wp2_with (first | ((with_reducible refine gate_callee (f := 70) rfl ?_); refine goesL_ (some 34) rfl rfl Try.func70 (by kernel_rfl) rfl #[.int .i64 (rd l2 x26_2), .int .i64 0, .int .i64 (wrap64 ((x1_2.length : Int) - 1))] rfl zT9 ?_; (with_reducible refine (impl_from.calls (rd l2 x26_2) 0 (wrap64 ((x1_2.length : Int) - 1)) true _ A16.out).mono ?_); rintro e w' ⟨rfl, ⟨nd, rfl⟩⟩; refine ⟨_, rfl, ?_⟩; have p440 : 0 ≤ ((rd l2 x26_2) : Int) := zA9; have q440 : (rd l2 x26_2) < (x1_2.length : Int) := zA9; obtain ⟨ad440, A440_0, c440_0, e440, hx440_0, hx440_1, hx440_2, hl440_0, hi440_0⟩ := at_T47 (Kd.S_reads' HO_1.out).2.2 (rd l2 x26_2) p440 q440; cases e440; obtain ⟨ce440, hce440, hMe440, hcc440⟩ := Kd.S_get HO_1.out z47 (rd l2 x26_2) p440 (by first | exact q440 | exact zA9 | (have e_ := (Kd.S_reads' HO_1.out).1; omega)); obtain ⟨ve440_0, rfl, ge440_0⟩ := k47_openM hMe440; have hv440_0 := hcc440 0 _ rfl; rw [Nat.add_zero] at hv440_0; replace hv440_0 := Option.some.inj (hv440_0.symm.trans hx440_0); rw [hv440_0] at ge440_0; have HL440_0 := Aside0.mk (show Kd.R (Kd.int .i64) 3 _ _ _ _ ((rd_T47 x1_2 (rd l2 x26_2)).f0) from ge440_0); clear hv440_0 ge440_0; clear hcc440 hce440; have HR440_0 := Aside0.mk hi440_0; have HC440_0 := Aside0.mk hl440_0; clear hi440_0 hl440_0; replace p440 := eq_true p440; replace q440 := eq_true q440) | (go_at_call 71; (with_reducible refine (impl_goes.calls k2 _ _ ((rd_T47 x1_2 (rd l2 x26_2)).f0) ((rd_T47 x1_2 (rd l2 x26_2)).f1) ((rd_T47 x1_2 (rd l2 x26_2)).f2) false _ ?side1 ?side2 A20.out).mono ?_); (case side1 => exact zC9 HR440_0.out); (case side2 => exact HC440_0.out); rintro e w32 ⟨rfl, hb⟩; have n0_ := Aside0.mk (Kd.R_below (zR9 HO_0.out) hb); have n1_ := Aside0.mk (Kd.S_below (zS9 HO_1.out) hb); have n2_ := Aside0.mk (Kd.R_below (zR9 HL440_0.out) hb); have n3_ := Aside0.mk (Kd.C_below (by repeat (first | (with_reducible exact HR440_0.out) | (with_reducible refine Kd.C_alloc ?_ _) | (with_reducible refine Kd.C_drewN ?_ _) | (with_reducible refine Kd.C_drew ?_) | exact HR440_0.out)) hb); have n4_ := Aside0.mk (below_step (zB9_1) hb); clear HO_0; clear HO_1; clear HL440_0; clear HR440_0; clear HB; have HO_0 := n0_; have HO_1 := n1_; have HL440_0 := n2_; have HR440_0 := n3_; have HB := n4_; clear n0_ n1_ n2_ n3_ n4_; (try clear hb); (try clear hb2); (try clear hk); (try clear hi)))
      go_roundg k2
      case measure => have := HJ5.out; have := HK2.out; omega
      case rel => exact ⟨(x0_2), (x1_2), (wrap64 (x26_2 + 1)), (by first | rfl | (simp; done) | (simp [*]; done)), H', ⟨by have := HJ5.out; have := HK2.out; omega⟩, ⟨zR9 HO_0.out⟩, ⟨zS9 HO_1.out⟩, ⟨zB9_1⟩⟩
     subst c21
     have H1 : ((impl_step.f k2 x0_2 ((rd_T47 x1_2 (rd l2 x26_2)).f0) ((rd_T47 x1_2 (rd l2 x26_2)).f1) ((rd_T47 x1_2 (rd l2 x26_2)).f2)).bind fun bt443 => (impl_FlatRun.l0 k2 bt443.2.2.2 (x1_2.set ((rd l2 x26_2) : Int).toNat (⟨bt443.1, bt443.2.1, bt443.2.2.1⟩ : S47)) l2 (l2.length : Int) (wrap64 (x26_2 + 1)))) = some (r1, r2) := by rw [if_pos rfl] at H; exact H
     clear H
     have H := H1
     clear H1
     replace H := Option.bind_eq_some_iff.mp H
     obtain ⟨⟨t443, t446, t447, t448⟩, A220, H⟩ := H
     replace H : (impl_FlatRun.l0 k2 t448 (x1_2.set ((rd l2 x26_2) : Int).toNat (⟨t443, t446, t447⟩ : S47)) l2 (l2.length : Int) (wrap64 (x26_2 + 1))) = some (r1, r2) := H
     have A22 := Aside0.mk A220
     clear A220
     obtain ⟨y449, hy449⟩ : ∃ y_ : List (S47), y_ = (x1_2.set ((rd l2 x26_2) : Int).toNat (⟨t443, t446, t447⟩ : S47)) := ⟨_, rfl⟩
     replace H : (impl_FlatRun.l0 k2 t448 y449 l2 (l2.length : Int) (wrap64 (x26_2 + 1))) = some (r1, r2) := by first | (rw [hy449]; with_reducible exact H) | (have H2_ := (Option.bind_some _ _).symm.trans H; rw [hy449]; with_reducible exact H2_) | (have H2_ := (Option.bind_some _ _).symm.trans H; with_reducible exact H2_) | with_reducible exact H | (rw [hy449]; exact H) | exact H
     have Ny449 := Aside0.mk hy449
     clear hy449
     have H' := Aside0.mk H
     clear H
     have p438 : 0 ≤ (x26_2 : Int) := zA9
     have q438 : x26_2 < (l2.length : Int) := zA9
     obtain ⟨ad438, e438, hx438_0⟩ := Kd.at_int HR2.out x26_2 p438 q438
     cases e438
     replace hx438_0 := (HB.out.cell (World.block_lt_of_cell? w _ hx438_0)).trans hx438_0
     replace p438 := eq_true p438
     replace q438 := eq_true q438
     obtain ⟨Ao24, co24, eo24⟩ := Kd.S_slice HO_1.out
     subst eo24
     go_wp2_with (first | ((with_reducible refine gate_callee (f := 70) rfl ?_); refine goesL_ (some 34) rfl rfl Try.func70 (by kernel_rfl) rfl #[.int .i64 (rd l2 x26_2), .int .i64 0, .int .i64 (wrap64 ((x1_2.length : Int) - 1))] rfl zT9 ?_; (with_reducible refine (impl_from.calls (rd l2 x26_2) 0 (wrap64 ((x1_2.length : Int) - 1)) true _ A16.out).mono ?_); rintro e w' ⟨rfl, ⟨nd, rfl⟩⟩; refine ⟨_, rfl, ?_⟩; (try (rw [drewN_self wr]; generalize hq_ : World.drewN wr _ = wr; have n0_ : Aside0 (Kd.R (Kd.int .i64) 3 wr w.heap.size (fun _ => True) v432 x0_2) := ⟨by rw [← hq_]; exact (zR9 HO_0.out)⟩; have n1_ : Aside0 (Kd.S k47 47 wr w.heap.size (fun k_ => some k_ ≠ (v432 : Value).ownBlock) (.slice Ao24 x1_2.length co24) x1_2) := ⟨by rw [← hq_]; exact (zS9 HO_1.out)⟩; have n2_ : Aside0 (Below w.heap.size w wr) := ⟨by rw [← hq_]; exact (zB9_1)⟩; clear HO_0 HO_1 HB hq_; have HO_0 := n0_; have HO_1 := n1_; have HB := n2_; clear n0_ n1_ n2_)); have p440 : 0 ≤ ((rd l2 x26_2) : Int) := zA9; have q440 : (rd l2 x26_2) < (x1_2.length : Int) := zA9; obtain ⟨ad440, A440_0, c440_0, e440, hx440_0, hx440_1, hx440_2, hl440_0, hi440_0⟩ := at_T47 (Kd.S_reads' HO_1.out).2.2 (rd l2 x26_2) p440 q440; cases e440; obtain ⟨ce440, hce440, hMe440, hcc440⟩ := Kd.S_get HO_1.out z47 (rd l2 x26_2) p440 (by first | exact q440 | exact zA9 | (have e_ := (Kd.S_reads' HO_1.out).1; omega)); obtain ⟨ve440_0, rfl, ge440_0⟩ := k47_openM hMe440; have hv440_0 := hcc440 0 _ rfl; rw [Nat.add_zero] at hv440_0; replace hv440_0 := Option.some.inj (hv440_0.symm.trans hx440_0); rw [hv440_0] at ge440_0; have HL440_0 := Aside0.mk (show Kd.R (Kd.int .i64) 3 _ _ _ _ ((rd_T47 x1_2 (rd l2 x26_2)).f0) from ge440_0); clear hv440_0 ge440_0; clear hcc440 hce440; have HR440_0 := Aside0.mk hi440_0; have HC440_0 := Aside0.mk hl440_0; clear hi440_0 hl440_0; replace p440 := eq_true p440; replace q440 := eq_true q440) | (go_at_call 71; (with_reducible refine (impl_goes.calls k2 _ _ ((rd_T47 x1_2 (rd l2 x26_2)).f0) ((rd_T47 x1_2 (rd l2 x26_2)).f1) ((rd_T47 x1_2 (rd l2 x26_2)).f2) true _ ?side1 ?side2 A20.out).mono ?_); (case side1 => exact zC9 HR440_0.out); (case side2 => exact HC440_0.out); rintro e w25 ⟨rfl, hb⟩; have n0_ := Aside0.mk (Kd.R_below (zR9 HO_0.out) hb); have n1_ := Aside0.mk (Kd.S_below (zS9 HO_1.out) hb); have n2_ := Aside0.mk (Kd.R_below (zR9 HL440_0.out) hb); have n3_ := Aside0.mk (Kd.C_below (by repeat (first | (with_reducible exact HR440_0.out) | (with_reducible refine Kd.C_alloc ?_ _) | (with_reducible refine Kd.C_drewN ?_ _) | (with_reducible refine Kd.C_drew ?_) | exact HR440_0.out)) hb); have n4_ := Aside0.mk (below_step (zB9_1) hb); clear HO_0; clear HO_1; clear HL440_0; clear HR440_0; clear HB; have HO_0 := n0_; have HO_1 := n1_; have HL440_0 := n2_; have HR440_0 := n3_; have HB := n4_; clear n0_ n1_ n2_ n3_ n4_; (try clear hb); (try clear hb2); (try clear hk); (try clear hi); have p442 : 0 ≤ ((rd l2 x26_2) : Int) := zA9; have q442 : (rd l2 x26_2) < (x1_2.length : Int) := zA9; obtain ⟨ad442, A442_0, c442_0, e442, hx442_0, hx442_1, hx442_2, hl442_0, hi442_0⟩ := at_T47 (Kd.S_reads' HO_1.out).2.2 (rd l2 x26_2) p442 q442; obtain rfl : ad440 = ad442 := (by injection e442); obtain ⟨ce442, hce442, hMe442, hcc442⟩ := Kd.S_get HO_1.out z47 (rd l2 x26_2) p442 (by first | exact q442 | exact zA9 | (have e_ := (Kd.S_reads' HO_1.out).1; omega)); obtain ⟨ve442_0, rfl, ge442_0⟩ := k47_openM hMe442; have hv442_0 := hcc442 0 _ rfl; rw [Nat.add_zero] at hv442_0; replace hv442_0 := Option.some.inj (hv442_0.symm.trans hx442_0); rw [hv442_0] at ge442_0; have HL442_0 := Aside0.mk (show Kd.R (Kd.int .i64) 3 _ _ _ _ ((rd_T47 x1_2 (rd l2 x26_2)).f0) from ge442_0); clear hv442_0 ge442_0; clear hcc442 hce442; have HR442_0 := Aside0.mk hi442_0; have HC442_0 := Aside0.mk hl442_0; clear hi442_0 hl442_0; replace p442 := eq_true p442; replace q442 := eq_true q442; obtain ⟨Ao26, co26, eo26⟩ := Kd.R_slice HO_0.out; subst eo26) | ((with_reducible refine gate_callee (f := 72) rfl ?_); refine goesL_ (some 49) rfl rfl Try.func72 (by kernel_rfl) rfl #[.slice Ao26 x0_2.length co26, .agg #[.slice A442_0 ((rd_T47 x1_2 (rd l2 x26_2)).f0).length c442_0, .int .i64 ((rd_T47 x1_2 (rd l2 x26_2)).f1), .int .i64 ((rd_T47 x1_2 (rd l2 x26_2)).f2)]] rfl zT9 ?_; (with_reducible refine (impl_step.calls k2 (fun k_ => some k_ = (.slice Ao26 x0_2.length co26 : Value).ownBlock) (.slice Ao26 x0_2.length co26) x0_2 _ _ ((rd_T47 x1_2 (rd l2 x26_2)).f0) ((rd_T47 x1_2 (rd l2 x26_2)).f1) ((rd_T47 x1_2 (rd l2 x26_2)).f2) t443 t446 t447 t448 w _ ?side1 ?side2 ?side3 ?side4 A22.out).mono ?_); (case side1 => exact zB9_1); (case side2 => exact Kd.R_tight rfl HO_0.out); (case side3 => exact Kd.C_kept_own (HL442_0.out) (fun k_ hk_ hs_ => (hk_.1) hs_)); (case side4 => exact HC442_0.out); rintro e w27 ⟨v444, rfl, ho0, hy0, hb, hkp⟩; refine ⟨_, rfl, ?_⟩; have n0_ := Aside0.mk (Kd.R_reok rfl hy0 (fun k_ e_ => HO_0.out.1 k_ e_)); have n1_ := Aside0.mk (Kd.S_mono (ok' := fun k_ => some k_ ≠ (.slice Ao26 x0_2.length co26 : Value).ownBlock ∧ some k_ ≠ (v444 : Value).ownBlock) (Kd.S_keptB (HO_1.out) hkp (fun k_ hk_ hs_ => (hk_) hs_)) (fun k_ hk_ => ⟨hk_.1, fun e_ => Or.elim (ho0.1 k_ e_.symm).1 (fun hs_ => hk_.2.1 hs_) (fun hn_ => Nat.not_le.2 hk_.2.2 hn_)⟩)); have n2_ := Aside0.mk (Kd.R_mono (ok' := fun k_ => some k_ ≠ (.slice Ao26 x0_2.length co26 : Value).ownBlock) ho0 (fun k_ hk_ => hk_.2)); have n3_ := Aside0.mk (hb); clear HO_0; clear HO_1; clear HB; clear HL440_0; clear HL442_0; have HO_0 := n0_; have HO_1 := n1_; have HO445 := n2_; have HB := n3_; clear n0_ n1_ n2_ n3_; (try clear hb); (try clear hkp); (try clear ho0); (try clear hy0); have p23 : 0 ≤ ((rd l2 x26_2) : Int) := zA9; have q23 : ((rd l2 x26_2) : Int) < ((x1_2.length : Int) : Int) := zA9; obtain ⟨go23, co23, eo23, gb23, gl23, cl23, HG23⟩ := Kd.S_form HO_1.out (by omega); (first | cases eo23 | (injection eo23 with ea_ en_ ec_; (first | subst ea_ | (injection ea_ with ea_; subst ea_)); subst ec_; clear en_)); have GB23 := Aside0.mk gb23; have GG23 := Aside0.mk HG23; clear gb23 gl23 HG23; (first | simp only [add_plain] at hx440_0 | skip); (first | simp only [add_plain] at hx440_1 | skip); (first | simp only [add_plain] at hx440_2 | skip); (first | simp only [add_plain] at hx442_0 | skip); (first | simp only [add_plain] at hx442_1 | skip); (first | simp only [add_plain] at hx442_2 | skip); obtain ⟨_, ce23, hcl23, hM23, hcc23, hfr23, _, _⟩ := Kd.S_elem HO_1.out z47 ((rd l2 x26_2) : Int) p23 q23; obtain ⟨ve23_0, rfl, ge23_0⟩ := k47_openM hM23; have hx23_0 : w27.cell? ⟨go23, ((rd l2 x26_2) : Int).toNat * 3, none⟩ = some (ve23_0) := hcc23 0 _ rfl; have hx23_1 : w27.cell? ⟨go23, ((rd l2 x26_2) : Int).toNat * 3 + 1, none⟩ = some (.int .i64 ((rd_T47 x1_2 (rd l2 x26_2)).f1)) := hcc23 1 _ rfl; have hx23_2 : w27.cell? ⟨go23, ((rd l2 x26_2) : Int).toNat * 3 + 2, none⟩ = some (.int .i64 ((rd_T47 x1_2 (rd l2 x26_2)).f2)) := hcc23 2 _ rfl; have hf23_0 : w27.frozen? ⟨go23, ((rd l2 x26_2) : Int).toNat * 3, none⟩ = false := hfr23 0; have hf23_1 : w27.frozen? ⟨go23, ((rd l2 x26_2) : Int).toNat * 3 + 1, none⟩ = false := hfr23 1; have hf23_2 : w27.frozen? ⟨go23, ((rd l2 x26_2) : Int).toNat * 3 + 2, none⟩ = false := hfr23 2; clear hcl23 hcc23 hfr23 hM23; replace p23 := eq_true p23; replace q23 := eq_true q23; obtain ⟨Ao28, co28, eo28⟩ := Kd.R_slice HO445.out; subst eo28; have HX29 := Aside0.mk (show Kd.S k47 47 w27 w.heap.size (fun k_ => ((fun k_ => some k_ ≠ (.slice Ao26 x0_2.length co26 : Value).ownBlock)) k_ ∧ ¬ ((fun k_ => some k_ = (.slice Ao28 t443.length co28 : Value).ownBlock)) k_) (.slice (some ⟨go23, 0, none⟩) x1_2.length co24) x1_2 from (by (with_reducible repeat (first | apply Kd.S_alloc | apply Kd.S_drewN | apply Kd.S_drew)); exact Kd.S_mono HO_1.out (fun k_ hk => ⟨hk.1, fun e_ => hk.2 e_⟩))); obtain ⟨oki29, ce29, hcl29, hM29, hcc29, hfr29, hoki29, hH29⟩ := Kd.S_elem HX29.out z47 ((rd l2 x26_2) : Int) (zA9) (by have h_ : ((rd l2 x26_2) : Int) < ((x1_2.length : Int) : Int) := zA9; first | exact h_ | (have e_ := (Kd.S_reads' HO_1.out).1; omega) | simpa using h_); obtain ⟨ve29_0, rfl, ge29_0⟩ := k47_openM hM29; have HP29 := Kd.S_seg hH29 (zA9) (by have h_ : ((rd l2 x26_2) : Int) < ((x1_2.length : Int) : Int) := zA9; first | exact h_ | (have e_ := (Kd.S_reads' HO_1.out).1; omega) | simpa using h_) (seg := [.slice Ao28 t443.length co28, .int .i64 t446, .int .i64 t447]) (j := 0) (show 3 ≤ 3 from by decide) (x' := (⟨t443, t446, t447⟩ : S47)) (k47_mkM _ _ _ (⟨t443, t446, t447⟩ : S47) (Kd.R_mono (Kd.R_tight rfl (Kd.R_mono (ok' := fun k_ => ((fun k_ => some k_ ≠ (.slice Ao26 x0_2.length co26 : Value).ownBlock)) k_ ∧ k_ ≠ go23) (Kd.R_apart' (HO445.out) (Kd.S_typed HO_1.out) (by decide)) (fun k_ hk => ⟨hk.1, fun e_ => (hk.2) (by rw [e_]; rfl)⟩))) (fun _ h_ => Or.inr (h_)))) (fun _ hk => hk) (fun k_ hk_ => ((Kd.R_mono (ok' := fun k_ => ((fun k_ => some k_ ≠ (.slice Ao26 x0_2.length co26 : Value).ownBlock)) k_ ∧ k_ ≠ go23) (Kd.R_apart' (HO445.out) (Kd.S_typed HO_1.out) (by decide)) (fun k_ hk => ⟨hk.1, fun e_ => (hk.2) (by rw [e_]; rfl)⟩))).1 k_ hk_.symm); have hx29_0 := hcc29 0 _ rfl; (try simp only [show (k47).sz = 3 from rfl, Nat.mul_one, Nat.add_zero] at hx29_0); have hf29_0 := hfr29 0; (try simp only [show (k47).sz = 3 from rfl, Nat.mul_one, Nat.add_zero] at hf29_0); have hx29_1 := hcc29 1 _ rfl; (try simp only [show (k47).sz = 3 from rfl, Nat.mul_one, Nat.add_zero] at hx29_1); have hf29_1 := hfr29 1; (try simp only [show (k47).sz = 3 from rfl, Nat.mul_one, Nat.add_zero] at hf29_1); have hx29_2 := hcc29 2 _ rfl; (try simp only [show (k47).sz = 3 from rfl, Nat.mul_one, Nat.add_zero] at hx29_2); have hf29_2 := hfr29 2; (try simp only [show (k47).sz = 3 from rfl, Nat.mul_one, Nat.add_zero] at hf29_2); clear hcl29 hcc29 hfr29 hM29 hoki29 hH29) | ((with_reducible refine gate_store (t := 47) (p := 50) rfl ?_); refine store_event (t := 47) (p := 50) (v := ?vo_w30) (w1 := (((w27.setCell ⟨go23, ((rd l2 x26_2) : Int).toNat * 3, none⟩ (.slice Ao28 t443.length co28)).setCell ⟨go23, ((rd l2 x26_2) : Int).toNat * 3 + 1, none⟩ (.int .i64 t446)).setCell ⟨go23, ((rd l2 x26_2) : Int).toNat * 3 + 2, none⟩ (.int .i64 t447))) ?hg ?ho ?hn ?hr ?_; (case ho => rfl); (case hg => rfl); (case hn => rfl); (case hr => first | (go_simp; done) | (go_simp; rfl)); intro w30 hw; have hg : w27.grownBy w30 (some go23) := (by rw [hw]; exact HP29.2); have hp_ : Kd.S k47 47 w30 w.heap.size (fun k_ => some k_ ≠ (.slice Ao26 x0_2.length co26 : Value).ownBlock) (.slice (some ⟨go23, 0, none⟩) x1_2.length co24) y449 := (by rw [hw, Ny449.out]; exact HP29.1); clear HP29; have n0_ := Aside0.mk (Kd.R_over' (v := (.slice (some ⟨go23, 0, none⟩) x1_2.length co24)) (zR9 HO_0.out) (Kd.S_typed HO_1.out) (by decide) hg); have n1_ := Aside0.mk (hp_); have n2_ := Aside0.mk ((by rw [hw]; exact below_set (below_set (below_set (HB.out) GB23.out) GB23.out) GB23.out : Below w.heap.size w w30)); clear HO_0; clear HO_1; clear HB; clear HO445; have HO_0 := n0_; have HO_1 := n1_; have HB := n2_; clear n0_ n1_ n2_; clear hg hw hp_))
     go_roundg k2
     case measure => have := HJ5.out; have := HK2.out; omega
     case rel => exact ⟨(t448), (y449), (wrap64 (x26_2 + 1)), (by first | rfl | (simp; done) | (simp [*]; done)), H', ⟨by have := HJ5.out; have := HK2.out; omega⟩, ⟨zR9 HO_0.out⟩, ⟨zS9 HO_1.out⟩, ⟨zB9_1⟩⟩

/-! ### impl_twoBytes: function 85 -/
def impl_twoBytes.l0 : Nat → List Int → List Int → Int → Int → Option (List Int)
 | 0, _, _, _, _ => none
 | k + 1, x3, x7, x8, x9 => if x9 < x8 then (if 0 ≤ x9 then (if x9 < (x7.length : Int) then ((some (([((rd x7 x9) / 256) % 256, (rd x7 x9) % 256] : List Int) : List Int)).bind fun y454 => (if x3.length + y454.length < 140737488355328 then (impl_twoBytes.l0 k (x3 ++ y454) x7 x8 (wrap64 (x9 + 1))) else (none))) else (none)) else (none)) else (some x3)
def impl_twoBytes.f (k : Nat) (l0 : List Int) : Option (List Int) := impl_twoBytes.l0 k (([] : List Int)) l0 (l0.length : Int) 0
theorem impl_twoBytes.mono_l : ∀ k, (∀ y0 y1 y2 y3, LeO (impl_twoBytes.l0 k y0 y1 y2 y3) (impl_twoBytes.l0 (k + 1) y0 y1 y2 y3))
 | 0 => fun _ _ _ _ r h => by simp [impl_twoBytes.l0] at h
 | k + 1 => by
  have ih0 := impl_twoBytes.mono_l k
  ·intro y0 y1 y2 y3
   unfold impl_twoBytes.l0
   repeat' first
   | (with_reducible exact ih0 _ _ _ _)
   | (with_reducible exact LeO.refl _)
   | (with_reducible exact LeO.none _)
   | (with_reducible refine LeO.ite ?_ ?_)
   | (with_reducible refine LeO.bind ?_ (fun _ => ?_))
   | exact ih0 _ _ _ _
   | exact LeO.none _
   | refine LeO.ite ?_ ?_
   | refine LeO.bind ?_ (fun _ => ?_)
theorem impl_twoBytes.mono : ∀ a0 k, LeO (impl_twoBytes.f k a0) (impl_twoBytes.f (k + 1) a0) := by
 intro a0 k
 have ih0 := impl_twoBytes.mono_l k
 unfold impl_twoBytes.f
 repeat' first
   | (with_reducible exact ih0 _ _ _ _)
   | (with_reducible exact LeO.refl _)
   | (with_reducible exact LeO.none _)
   | (with_reducible refine LeO.ite ?_ ?_)
   | (with_reducible refine LeO.bind ?_ (fun _ => ?_))
   | exact ih0 _ _ _ _
   | exact LeO.none _
   | refine LeO.ite ?_ ?_
   | refine LeO.bind ?_ (fun _ => ?_)
set_option maxHeartbeats 8000000 in
set_option maxRecDepth 100000 in
theorem impl_twoBytes.calls (k : Nat) (A0 : Option Addr) (c0 : Nat) (l0 : List Int) (r : List Int) (w : World) (hr0 : Kd.C (Kd.int .i64) w A0 l0.length l0) (hc0 : l0.length ≤ c0) (h : impl_twoBytes.f k l0 = some r) :
  Calls Try.prog 85 #[.slice A0 l0.length c0] w fun e w' => ∃ v0_ : Value, e = .returned (v0_) ∧ Kd.R (Kd.int .u8) 5 w' w.heap.size (fun _ => True) v0_ r ∧ Below w.heap.size w w' := by
 have HR0 := Aside0.mk hr0
 have HC0 := Aside0.mk hc0
 clear hr0 hc0
 have HB := Aside0.mk (Below.refl w.heap.size w)
 have H : (impl_twoBytes.l0 k (([] : List Int)) l0 (l0.length : Int) 0) = some r := h
 clear h
 obtain ⟨y450, hy450⟩ : ∃ y_ : List Int, y_ = (([] : List Int)) := ⟨_, rfl⟩
 replace H : (impl_twoBytes.l0 k y450 l0 (l0.length : Int) 0) = some r := by first | (rw [hy450]; with_reducible exact H) | (have H2_ := (Option.bind_some _ _).symm.trans H; rw [hy450]; with_reducible exact H2_) | (have H2_ := (Option.bind_some _ _).symm.trans H; with_reducible exact H2_) | with_reducible exact H | (rw [hy450]; exact H) | exact H
 have Ny450 := Aside0.mk hy450
 clear hy450
 have H' := Aside0.mk H
 clear H
 go_enter Try.func85, Try.ntmps85
 go_wp2_with (first | ((with_reducible refine gate_dst (N := 6) rfl ?_); refine Kd.R_lit (Kd.int .u8) _ 5 ?hg (N := 6) ?hd (xs := ([] : List Int)) (inner := []) (ok := fun _ => True) (okp := fun _ => True) ?hr ?hp (fun _ hk => hk) trivial (Below.refl _ _) (Nat.le_refl _) (by simp) ?_; (case hd => rfl); (case hg => rfl); (case hr => first | (go_simp; done) | (go_simp; rfl)); (case hp => exact (Reps.none _ _)); intro v451 w2 ho3 hb hg_ hnew_; clear hg_ hnew_; (first | rw [← Ny450.out] at ho3 | (simp only [Int.reduceToNat] at ho3; rw [← Ny450.out] at ho3)); have n0_ := Aside0.mk (Kd.R_lower ho3 (below_size (zB9_1))); have n1_ := Aside0.mk (below_step (zB9_1) hb); clear HB; have HO452 := n0_; have HB := n1_; clear n0_ n1_; clear hb ho3))
 go_loopg [3, 9] k (fun kq v3 v9 w' => ∃ (x3_1 : List Int) (x9_1 : Int), v9 = .int .i64 x9_1 ∧ Aside0 (impl_twoBytes.l0 kq x3_1 l0 (l0.length : Int) x9_1 = some r) ∧ Aside0 (kq ≤ k) ∧ Aside0 (Kd.R (Kd.int .u8) 5 w' w.heap.size (fun _ => True) v3 x3_1) ∧ Aside0 (Below w.heap.size w w'))
 case atStart => exact ⟨(y450), (0), (by first | rfl | (simp; done) | (simp [*]; done)), H', ⟨Nat.le_refl _⟩, ⟨zR9 HO452.out⟩, ⟨zB9_1⟩⟩
 case round =>
  clear H'
  try clear p2
  obtain ⟨x3_1, x9_1, rfl, HA, HK1, HO_3, HB⟩ := hrel
  cases gk with
  | zero => exact absurd HA.out (by simp [impl_twoBytes.l0])
  | succ k1 =>
   have H := HA.out
   clear HA
   simp only [impl_twoBytes.l0] at H
   by_cases c4 : x9_1 < (l0.length : Int)
   rotate_left
   ·rw [if_neg c4] at H
    have c4b0 : decide (x9_1 < (l0.length : Int)) = false := decide_eq_false c4
    clear c4
    obtain rfl := Option.some.inj H
    go_wp2
    go_ret
    exact ⟨_, zE9, zR9 HO_3.out, zB9_1⟩
   rw [if_pos c4] at H
   have c4b0 : decide (x9_1 < (l0.length : Int)) = true := decide_eq_true c4
   clear c4
   by_cases c5 : 0 ≤ x9_1
   rotate_left
   ·rw [if_neg c5] at H
    exact absurd H (by simp)
   rw [if_pos c5] at H
   have c5b0 : decide (0 ≤ x9_1) = true := decide_eq_true c5
   clear c5
   by_cases c6 : x9_1 < (l0.length : Int)
   rotate_left
   ·rw [if_neg c6] at H
    exact absurd H (by simp)
   rw [if_pos c6] at H
   have c6b0 : decide (x9_1 < (l0.length : Int)) = true := decide_eq_true c6
   clear c6
   obtain ⟨y454, hy454⟩ : ∃ y_ : List Int, y_ = (([((rd l0 x9_1) / 256) % 256, (rd l0 x9_1) % 256] : List Int)) := ⟨_, rfl⟩
   replace H : (if x3_1.length + y454.length < 140737488355328 then (impl_twoBytes.l0 k1 (x3_1 ++ y454) l0 (l0.length : Int) (wrap64 (x9_1 + 1))) else (none)) = some r := by first | (rw [hy454]; with_reducible exact H) | (have H2_ := (Option.bind_some _ _).symm.trans H; rw [hy454]; with_reducible exact H2_) | (have H2_ := (Option.bind_some _ _).symm.trans H; with_reducible exact H2_) | with_reducible exact H | (rw [hy454]; exact H) | exact H
   have Ny454 := Aside0.mk hy454
   clear hy454
   by_cases c7 : x3_1.length + y454.length < 140737488355328
   rotate_left
   ·rw [if_neg c7] at H
    exact absurd H (by simp)
   rw [if_pos c7] at H
   have LMc7 := Aside0.mk c7
   clear c7
   obtain ⟨y457, hy457⟩ : ∃ y_ : List Int, y_ = (x3_1 ++ y454) := ⟨_, rfl⟩
   replace H : (impl_twoBytes.l0 k1 y457 l0 (l0.length : Int) (wrap64 (x9_1 + 1))) = some r := by first | (rw [hy457]; with_reducible exact H) | (have H2_ := (Option.bind_some _ _).symm.trans H; rw [hy457]; with_reducible exact H2_) | (have H2_ := (Option.bind_some _ _).symm.trans H; with_reducible exact H2_) | with_reducible exact H | (rw [hy457]; exact H) | exact H
   have Ny457 := Aside0.mk hy457
   clear hy457
   have H' := Aside0.mk H
   clear H
   have p453 : 0 ≤ (x9_1 : Int) := zA9
   have q453 : x9_1 < (l0.length : Int) := zA9
   obtain ⟨ad453, e453, hx453_0⟩ := Kd.at_int HR0.out x9_1 p453 q453
   cases e453
   replace hx453_0 := (HB.out.cell (World.block_lt_of_cell? w _ hx453_0)).trans hx453_0
   replace p453 := eq_true p453
   replace q453 := eq_true q453
   go_wp2_with (first | ((with_reducible refine gate_dst (N := 19) rfl ?_); refine Kd.R_lit (Kd.int .u8) _ 5 ?hg (N := 19) ?hd (xs := ([((rd l0 x9_1) / 256) % 256, (rd l0 x9_1) % 256] : List Int)) (inner := [.int .u8 (((rd l0 x9_1) / 256) % 256), .int .u8 ((rd l0 x9_1) % 256)]) (ok := fun _ => True) (okp := fun _ => True) ?hr ?hp (fun _ hk => hk) trivial (Below.refl _ _) (Nat.le_refl _) (by simp) ?_; (case hd => rfl); (case hg => rfl); (case hr => first | (go_simp; done) | (go_simp; rfl)); (case hp => exact (Reps.one (show Kd.M (Kd.int .u8) _ _ _ (((rd l0 x9_1) / 256) % 256) [.int .u8 (((rd l0 x9_1) / 256) % 256)] from rfl) (Reps.one (show Kd.M (Kd.int .u8) _ _ _ ((rd l0 x9_1) % 256) [.int .u8 ((rd l0 x9_1) % 256)] from rfl) (Reps.none _ _)))); intro v455 w8 ho9 hb hg_ hnew_; clear hg_ hnew_; (first | rw [← Ny454.out] at ho9 | (simp only [Int.reduceToNat] at ho9; rw [← Ny454.out] at ho9)); have n0_ := Aside0.mk (Kd.R_elder' (zR9 HO_3.out) (Kd.R_base ho9) hb); have n1_ := Aside0.mk (Kd.R_lower (Kd.R_new' ho9 (Kd.R_lt (zR9 HO_3.out))) (below_size (zB9_1))); have n2_ := Aside0.mk (below_step (zB9_1) hb); clear HO_3; clear HB; have HO_3 := n0_; have HO456 := n1_; have HB := n2_; clear n0_ n1_ n2_; clear hb ho9; obtain ⟨Ao11, co11, eo11⟩ := Kd.R_slice HO456.out; subst eo11) | ((with_reducible refine gate_builtin (b := .append) (xs := #[.tmp 13, .tmp 19]) rfl ?_); at_builtin; refine Kd.R_append_rows (Kd.int .u8) (w0 := w) w.heap.size rfl (.tmp 13) (.tmp 19) 22 5 (.int .u8 0) 1 rfl Try.underlying22 info5 rfl (by decide) (by omega) u3 x3_1 y454 _ _ _ (fun k_ => some k_ ≠ (.slice Ao11 y454.length co11 : Value).ownBlock) (fun _ => False) rfl rfl ?aO ?aR (fun _ _ h => h) (fun _ h => h.elim) ?aF ?aB ?aS ?aL ?_; (case aR => exact zC9 (Kd.R_reads' HO456.out).2.2); (case aB => exact (zB9_1)); (case aF => exact (fun k_ hk => Kd.fresh' (Kd.R_lt (zR9 HO456.out)) k_ hk)); (case aO => exact (by (with_reducible repeat (first | apply Kd.R_alloc | apply Kd.R_drewN | apply Kd.R_drew)); exact Kd.R_mono HO_3.out (fun _ hk => hk.2))); (case aS => exact (below_size (zB9_1))); (case aL => have := LMc7.out; omega); intro v458 w10 ho hb hg hat; rw [← Ny457.out] at ho; have n0_ := Aside0.mk (Kd.R_after (ok := (fun _ => True)) (zR9 HO456.out) hg hat); have n1_ := Aside0.mk (hb); have n2_ := Aside0.mk (ho); clear HO456; clear HB; clear HO_3; have HO456 := n0_; have HB := n1_; have HO459 := n2_; clear n0_ n1_ n2_; clear ho hb hg hat))
   go_roundg k1
   case measure => have := HK1.out; omega
   case rel => exact ⟨(y457), (wrap64 (x9_1 + 1)), (by first | rfl | (simp; done) | (simp [*]; done)), H', ⟨by have := HK1.out; omega⟩, ⟨by (with_reducible repeat (first | apply Kd.R_alloc | apply Kd.R_drewN | apply Kd.R_drew)); exact Kd.R_mono HO459.out (fun _ hk => trivial)⟩, ⟨zB9_1⟩⟩

/-! ### impl_MemBytes: function 42 -/
def impl_MemBytes.f (k : Nat) (l0 : List Int) : Option (List Int) := (impl_memOk.f k l0).bind fun t460 => (if t460 = true then ((impl_twoBytes.f k l0).bind fun t461 => (some t461)) else (some ([] : List Int)))
theorem impl_MemBytes.mono : ∀ a0 k, LeO (impl_MemBytes.f k a0) (impl_MemBytes.f (k + 1) a0) := by
 intro a0 k
 unfold impl_MemBytes.f
 repeat' first
   | (with_reducible exact impl_memOk.mono _ _)
   | (with_reducible exact impl_twoBytes.mono _ _)
   | (with_reducible exact LeO.refl _)
   | (with_reducible exact LeO.none _)
   | (with_reducible refine LeO.ite ?_ ?_)
   | (with_reducible refine LeO.bind ?_ (fun _ => ?_))
   | exact impl_memOk.mono _ _
   | exact impl_twoBytes.mono _ _
   | exact LeO.none _
   | refine LeO.ite ?_ ?_
   | refine LeO.bind ?_ (fun _ => ?_)
set_option maxHeartbeats 8000000 in
set_option maxRecDepth 100000 in
theorem impl_MemBytes.calls (k : Nat) (A0 : Option Addr) (c0 : Nat) (l0 : List Int) (r : List Int) (w : World) (hr0 : Kd.C (Kd.int .i64) w A0 l0.length l0) (hc0 : l0.length ≤ c0) (h : impl_MemBytes.f k l0 = some r) :
  Calls Try.prog 42 #[.slice A0 l0.length c0] w fun e w' => ∃ v0_ : Value, e = .returned (v0_) ∧ Kd.R (Kd.int .u8) 5 w' w.heap.size (fun _ => True) v0_ r ∧ Below w.heap.size w w' := by
 have HR0 := Aside0.mk hr0
 have HC0 := Aside0.mk hc0
 clear hr0 hc0
 have HB := Aside0.mk (Below.refl w.heap.size w)
 have H : ((impl_memOk.f k l0).bind fun t460 => (if t460 = true then ((impl_twoBytes.f k l0).bind fun t461 => (some t461)) else (some ([] : List Int)))) = some r := h
 clear h
 replace H := Option.bind_eq_some_iff.mp H
 obtain ⟨t460, A20, H⟩ := H
 replace H : (if t460 = true then ((impl_twoBytes.f k l0).bind fun t461 => (some t461)) else (some ([] : List Int))) = some r := H
 have A2 := Aside0.mk A20
 clear A20
 by_cases c3 : t460 = true
 rotate_left
 ·replace c3 := Bool.eq_false_iff.mpr c3
  subst c3
  have H1 : (some ([] : List Int)) = some r := by rw [if_neg (show ¬ (false = true) by decide)] at H; exact H
  clear H
  have H := H1
  clear H1
  obtain rfl := Option.some.inj H
  go_enter Try.func42, Try.ntmps42
  go_wp2_with (first | ((with_reducible refine gate_callee (f := 48) rfl ?_); refine goesL_ (some 4) rfl rfl Try.func48 (by kernel_rfl) rfl #[.slice A0 l0.length c0] rfl zT9 ?_; (with_reducible refine (impl_memOk.calls k _ _ l0 false _ ?side1 ?side2 A2.out).mono ?_); (case side1 => exact zC9 HR0.out); (case side2 => exact HC0.out); rintro e w' ⟨rfl, ⟨nd, rfl⟩⟩; refine ⟨_, rfl, ?_⟩))
  go_ret
  exact ⟨_, zE9, by first | exact Kd.R_nil _ _ _ _ _ | exact Kd.N_nil _ _ _ _ _ | exact Kd.V_nil _ _ _ _ _ | exact Kd.Q_nil _ _ _ _ _ | exact Kd.S_nil _ _ _ _ _, zB9_1⟩
 subst c3
 have H1 : ((impl_twoBytes.f k l0).bind fun t461 => (some t461)) = some r := by rw [if_pos rfl] at H; exact H
 clear H
 have H := H1
 clear H1
 replace H := Option.bind_eq_some_iff.mp H
 obtain ⟨t461, A40, H⟩ := H
 replace H : (some t461) = some r := H
 have A4 := Aside0.mk A40
 clear A40
 obtain rfl := Option.some.inj H
 go_enter Try.func42, Try.ntmps42
 go_wp2_with (first | ((with_reducible refine gate_callee (f := 48) rfl ?_); refine goesL_ (some 4) rfl rfl Try.func48 (by kernel_rfl) rfl #[.slice A0 l0.length c0] rfl zT9 ?_; (with_reducible refine (impl_memOk.calls k _ _ l0 true _ ?side1 ?side2 A2.out).mono ?_); (case side1 => exact zC9 HR0.out); (case side2 => exact HC0.out); rintro e w' ⟨rfl, ⟨nd, rfl⟩⟩; refine ⟨_, rfl, ?_⟩) | ((with_reducible refine gate_callee (f := 85) rfl ?_); refine goesL_ (some 7) rfl rfl Try.func85 (by kernel_rfl) rfl #[.slice A0 l0.length c0] rfl zT9 ?_; (with_reducible refine (impl_twoBytes.calls k _ _ l0 t461 _ ?side1 ?side2 A4.out).mono ?_); (case side1 => exact zC9 HR0.out); (case side2 => exact HC0.out); rintro e w5 ⟨v462, rfl, ho0, hb⟩; refine ⟨_, rfl, ?_⟩; have n0_ := Aside0.mk (Kd.R_lower ho0 (below_size (zB9_1))); have n1_ := Aside0.mk (below_step (zB9_1) hb); clear HB; have HO463 := n0_; have HB := n1_; clear n0_ n1_; (try clear hb); (try clear hb2); (try clear hk); (try clear hi); (try clear ho0)))
 go_ret
 exact ⟨_, zE9, zR9 HO463.out, zB9_1⟩

end Go.Proofs.Ytajhfpeijagpnaa.PFnResumes
