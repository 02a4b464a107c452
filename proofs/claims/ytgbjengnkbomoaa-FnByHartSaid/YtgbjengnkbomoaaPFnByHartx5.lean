-- made by wip/tools/myprint.py out of the seat's translation
import Derived.Test.YtgbjengnkbomoaaPFnByHartx0
import Derived.Test.YtgbjengnkbomoaaPFnByHartx2
import Derived.Test.YtgbjengnkbomoaaPFnByHartx3
namespace Go.Proofs.Ytgbjengnkbomoaa.PFnByHart
open Go.RowKit Go.Proofs.YtgbjengnkbomoaaW.PrintWords Go.Proofs.YtgbjengnkbomoaaW.PrintLast Go.Proofs.YtgbjengnkbomoaaW.PrintMore
attribute [local go_sem] max2_int min2_int max_two min_two max_three min_three max_four min_four   -- for this text's walks alone
set_option linter.unusedVariables false
set_option linter.unusedSimpArgs false
theorem zc5_3 {w : World} {g : Nat} {a0 a1 a2 : Value} {t : TypeId} (h : w.heap[g]? = some (.cells #[a0, a1, a2] t (0, 0))) : w.cell? ⟨g, 0, none⟩ = some a0 ∧ w.cell? ⟨g, 1, none⟩ = some a1 ∧ w.cell? ⟨g, 2, none⟩ = some a2 ∧ w.frozen? ⟨g, 0, none⟩ = false ∧ w.frozen? ⟨g, 1, none⟩ = false ∧ w.frozen? ⟨g, 2, none⟩ = false := ⟨(blk_cell h 0).trans rfl, (blk_cell h 1).trans rfl, (blk_cell h 2).trans rfl, blk_frozen h 0, blk_frozen h 1, blk_frozen h 2⟩
theorem zc5_5 {w : World} {g : Nat} {a0 a1 a2 a3 a4 : Value} {t : TypeId} (h : w.heap[g]? = some (.cells #[a0, a1, a2, a3, a4] t (0, 0))) : w.cell? ⟨g, 0, none⟩ = some a0 ∧ w.cell? ⟨g, 1, none⟩ = some a1 ∧ w.cell? ⟨g, 2, none⟩ = some a2 ∧ w.cell? ⟨g, 3, none⟩ = some a3 ∧ w.cell? ⟨g, 4, none⟩ = some a4 ∧ w.frozen? ⟨g, 0, none⟩ = false ∧ w.frozen? ⟨g, 1, none⟩ = false ∧ w.frozen? ⟨g, 2, none⟩ = false ∧ w.frozen? ⟨g, 3, none⟩ = false ∧ w.frozen? ⟨g, 4, none⟩ = false := ⟨(blk_cell h 0).trans rfl, (blk_cell h 1).trans rfl, (blk_cell h 2).trans rfl, (blk_cell h 3).trans rfl, (blk_cell h 4).trans rfl, blk_frozen h 0, blk_frozen h 1, blk_frozen h 2, blk_frozen h 3, blk_frozen h 4⟩
theorem zR5 {p q : Prop} (x : q) (h : q → p := by intro h; (with_reducible repeat (first | apply Kd.R_alloc | apply Kd.R_drewN | apply Kd.R_drew)); exact h) : p := h x
theorem zK5 {p q : Prop} (x : q) (h : q → p := by intro h; (with_reducible repeat (first | refine blk_drewN ?_ _ | refine blk_drew ?_ | refine blk_alloc ?_ _)); exact h) : p := h x
theorem zA5 {p : Prop} [Decidable p] (h : decide p = true := by first | (with_reducible assumption) | assumption) : p := of_decide_eq_true h
theorem zT5 {p : Prop} (h : p := by (try simp only [List.map_toArray, List.map_cons, List.map_nil]); first | done | rfl | (simp only [List.length_drop, List.length_take]; rfl)) : p := h
theorem zC5 {p q : Prop} (x : q) (h : q → p := by intro h; repeat (first | exact h | (with_reducible refine Kd.C_alloc ?_ _) | (with_reducible refine Kd.C_drewN ?_ _) | (with_reducible refine Kd.C_drew ?_))) : p := h x
theorem zb5 {W w w1 : World} {g : Nat} {o : Obj} (x : W.heap[g]? = some o) (hb : Below w.heap.size w w1) (h : W.heap[g]? = some o → w.heap[g]? = some o := by intro h; (with_reducible repeat (first | refine blk_drewN ?_ _ | refine blk_drew ?_ | refine blk_alloc ?_ _)); exact h) : w1.heap[g]? = some o := blk_below (h x) hb
theorem zg5 {W w w1 : World} {g : Nat} {o : Obj} {row : Option Nat} (x : W.heap[g]? = some o) (hg : w.grownBy w1 row) (hne : some g ≠ row) (h : W.heap[g]? = some o → w.heap[g]? = some o := by intro h; (with_reducible repeat (first | refine blk_drewN ?_ _ | refine blk_drew ?_ | refine blk_alloc ?_ _)); exact h) : w1.heap[g]? = some o := blk_grown (h x) hg hne
theorem zn5 {W w : World} {g g' : Nat} {o : Obj} (x : W.heap[g]? = some o) (hg : g' = w.heap.size) (h : W.heap[g]? = some o → w.heap[g]? = some o := by intro h; (with_reducible repeat (first | refine blk_drewN ?_ _ | refine blk_drew ?_ | refine blk_alloc ?_ _)); exact h) : g ≠ g' := by rw [hg]; exact Nat.ne_of_lt (blk_lt (h x))
theorem zm5 {W w : World} {g g' : Nat} {o : Obj} (x : W.heap[g]? = some o) (hg : g' = w.heap.size) (h : W.heap[g]? = some o → w.heap[g]? = some o := by intro h; (with_reducible repeat (first | refine blk_drewN ?_ _ | refine blk_drew ?_ | refine blk_alloc ?_ _)); exact h) : g' ≠ g := by rw [hg]; exact Nat.ne_of_gt (blk_lt (h x))
theorem zP5 {p q : Prop} (x : q) (h : q → p := by intro h; (with_reducible repeat (first | refine blk_drewN ?_ _ | refine blk_drew ?_ | refine blk_alloc ?_ _)); exact h) : p := h x
theorem zV5 {a b : Act} (h : a = b := by simp only [Act.put, List.setIfInBounds_toArray, List.set_cons_zero, List.set_cons_succ, i64_w, i32_w]; rfl) : a = b := h
theorem zE5 {p : Prop} (h : p := by first | rfl | (simp [errW_none, errW_some] <;> rfl) | (simp [*, errW_none, errW_some] <;> rfl)) : p := h
theorem zB5_0 {p : Prop} (h : p := by repeat (first | (with_reducible first | exact HB.out | apply below_alloc | apply pw_below_drewN | apply below_drew1) | exact HB.out)) : p := h
theorem zB5_1 {p : Prop} (h : p := by repeat (first | (with_reducible first | exact HB.out | apply below_alloc | apply pw_below_drewN | apply below_drew1 | refine below_set ?_ GE189.out) | exact HB.out)) : p := h
theorem zB5_2 {p : Prop} (h : p := by repeat (first | (with_reducible first | exact HB.out | apply below_alloc | apply pw_below_drewN | apply below_drew1 | refine below_set ?_ GE189.out | refine below_set ?_ GE190.out) | exact HB.out)) : p := h
theorem zB5_3 {p : Prop} (h : p := by repeat (first | (with_reducible first | exact HB.out | apply below_alloc | apply pw_below_drewN | apply below_drew1 | refine below_set ?_ GE189.out | refine below_set ?_ GE190.out | refine below_set ?_ GE211.out) | exact HB.out)) : p := h
theorem zB5_4 {p : Prop} (h : p := by repeat (first | (with_reducible first | exact HB.out | apply below_alloc | apply pw_below_drewN | apply below_drew1 | refine below_set ?_ GE189.out | refine below_set ?_ GE190.out | refine below_set ?_ GE211.out | refine below_set ?_ GE220.out) | exact HB.out)) : p := h
theorem zB5_5 {p : Prop} (h : p := by repeat (first | (with_reducible first | exact HB.out | apply below_alloc | apply pw_below_drewN | apply below_drew1 | refine below_set ?_ GE189.out | refine below_set ?_ GE190.out | refine below_set ?_ GE211.out | refine below_set ?_ GE228.out) | exact HB.out)) : p := h

/-! ### spec_FlatStep: function 57 -/
def spec_FlatStep.j0 : Nat → List Int → List Int → Bool → List Int → Int → Int → Option (List Int × List Int × Int × Int)
 | 0, _, _, _, _, _, _ => none
 | k + 1, x0, x6, x28, x190000, x190001, x190002 => if x28 = true then ((spec_l9Copy.f x190000 x190001 x190002).bind fun bt199 => (some (x6, bt199.1, bt199.2.1, bt199.2.2))) else (if 0 ≤ x190001 then (if x190001 < (x0.length : Int) then ((spec_Decode.f (rd x0 x190001)).bind fun bt205 => ((spec_Target.f bt205.1 bt205.2.1 bt205.2.2.1 bt205.2.2.2.1 bt205.2.2.2.2.1 x190000).bind fun t212 => (if t212 ≥ 0 then (if 0 ≤ t212 then (if t212 < (x0.length : Int) then ((spec_Work.f k x190000 x190001 x190002 bt205.1 bt205.2.1 bt205.2.2.1 bt205.2.2.2.1 bt205.2.2.2.2.1 (rd x0 t212)).bind fun bt214 => (if bt214.2.2.2 ≥ 0 then (if t212 < (x6.length : Int) then (some ((x6.set (t212 : Int).toNat bt214.2.2.2), bt214.1, bt214.2.1, bt214.2.2.1)) else (none)) else (some (x6, bt214.1, bt214.2.1, bt214.2.2.1)))) else (none)) else (none)) else ((spec_Work.f k x190000 x190001 x190002 bt205.1 bt205.2.1 bt205.2.2.1 bt205.2.2.2.1 bt205.2.2.2.2.1 0).bind fun bt222 => (if bt222.2.2.2 ≥ 0 then (if 0 ≤ t212 then (if t212 < (x6.length : Int) then (some ((x6.set (t212 : Int).toNat bt222.2.2.2), bt222.1, bt222.2.1, bt222.2.2.1)) else (none)) else (none)) else (some (x6, bt222.1, bt222.2.1, bt222.2.2.1))))))) else (none)) else (none))
def spec_FlatStep.f (k : Nat) (l0 : List Int) (l1_0 : List Int) (a1_1 : Int) (a1_2 : Int) : Option (List Int × List Int × Int × Int) := (some (([] : List Int) : List Int)).bind fun y191 => (if y191.length + l0.length < 17592186044416 then ((some (y191 ++ l0 : List Int)).bind fun y194 => ((spec_l1Words.f k l0 24).bind fun t197 => (if t197 = true then ((spec_HartOk.f k l1_0 a1_1 a1_2).bind fun t198 => (if t198 = true then (spec_FlatStep.j0 k l0 y194 (a1_2 != 0) l1_0 a1_1 a1_2) else (spec_FlatStep.j0 k l0 y194 true l1_0 a1_1 a1_2))) else (spec_FlatStep.j0 k l0 y194 true l1_0 a1_1 a1_2)))) else (none))
theorem spec_FlatStep.mono_l : ∀ k, (∀ y0 y1 y2 y3 y4 y5, LeO (spec_FlatStep.j0 k y0 y1 y2 y3 y4 y5) (spec_FlatStep.j0 (k + 1) y0 y1 y2 y3 y4 y5))
 | 0 => fun _ _ _ _ _ _ r h => by simp [spec_FlatStep.j0] at h
 | k + 1 => by
  have ih0 := spec_FlatStep.mono_l k
  ·intro y0 y1 y2 y3 y4 y5
   unfold spec_FlatStep.j0
   repeat' first
   | (with_reducible exact ih0 _ _ _ _ _ _)
   | (with_reducible exact spec_HartOk.mono _ _ _ _)
   | (with_reducible exact spec_Work.mono _ _ _ _ _ _ _ _ _ _)
   | (with_reducible exact spec_l1Words.mono _ _ _)
   | (with_reducible exact LeO.refl _)
   | (with_reducible exact LeO.none _)
   | (with_reducible refine LeO.ite ?_ ?_)
   | (with_reducible refine LeO.bind ?_ (fun _ => ?_))
   | exact ih0 _ _ _ _ _ _
   | exact spec_HartOk.mono _ _ _ _
   | exact spec_Work.mono _ _ _ _ _ _ _ _ _ _
   | exact spec_l1Words.mono _ _ _
   | exact LeO.none _
   | refine LeO.ite ?_ ?_
   | refine LeO.bind ?_ (fun _ => ?_)
theorem spec_FlatStep.mono : ∀ a0 a1 a2 a3 k, LeO (spec_FlatStep.f k a0 a1 a2 a3) (spec_FlatStep.f (k + 1) a0 a1 a2 a3) := by
 intro a0 a1 a2 a3 k
 have ih0 := spec_FlatStep.mono_l k
 unfold spec_FlatStep.f
 repeat' first
   | (with_reducible exact ih0 _ _ _ _ _ _)
   | (with_reducible exact spec_HartOk.mono _ _ _ _)
   | (with_reducible exact spec_Work.mono _ _ _ _ _ _ _ _ _ _)
   | (with_reducible exact spec_l1Words.mono _ _ _)
   | (with_reducible exact LeO.refl _)
   | (with_reducible exact LeO.none _)
   | (with_reducible refine LeO.ite ?_ ?_)
   | (with_reducible refine LeO.bind ?_ (fun _ => ?_))
   | exact ih0 _ _ _ _ _ _
   | exact spec_HartOk.mono _ _ _ _
   | exact spec_Work.mono _ _ _ _ _ _ _ _ _ _
   | exact spec_l1Words.mono _ _ _
   | exact LeO.none _
   | refine LeO.ite ?_ ?_
   | refine LeO.bind ?_ (fun _ => ?_)
set_option maxHeartbeats 8000000 in
set_option maxRecDepth 100000 in
theorem spec_FlatStep.calls (k : Nat) (A0 : Option Addr) (c0 : Nat) (l0 : List Int) (A1_0 : Option Addr) (c1_0 : Nat) (l1_0 : List Int) (a1_1 : Int) (a1_2 : Int) (r1 : List Int) (r2 : List Int) (r3 : Int) (r4 : Int) (w : World) (hr0 : Kd.C (Kd.int .i64) w A0 l0.length l0) (hc0 : l0.length ≤ c0) (hr1_0 : Kd.C (Kd.int .i64) w A1_0 l1_0.length l1_0) (hc1_0 : l1_0.length ≤ c1_0) (h : spec_FlatStep.f k l0 l1_0 a1_1 a1_2 = some (r1, r2, r3, r4)) :
  Calls Try.prog 57 #[.slice A0 l0.length c0, .agg #[.slice A1_0 l1_0.length c1_0, .int .i64 a1_1, .int .i64 a1_2]] w fun e w' => ∃ v0_ v1_ : Value, e = .returned (.tuple #[v0_, .agg #[v1_, .int .i64 r3, .int .i64 r4]]) ∧ Kd.R (Kd.int .i64) 3 w' w.heap.size (fun k_ => some k_ ≠ (v1_ : Value).ownBlock) v0_ r1 ∧ Kd.R (Kd.int .i64) 3 w' w.heap.size (fun k_ => some k_ ≠ (v0_ : Value).ownBlock) v1_ r2 ∧ Below w.heap.size w w' := by
 have hu49 := Try.underlying49
 have hu71 := Try.underlying71
 have HR0 := Aside0.mk hr0
 have HC0 := Aside0.mk hc0
 clear hr0 hc0
 have HR1_0 := Aside0.mk hr1_0
 have HC1_0 := Aside0.mk hc1_0
 clear hr1_0 hc1_0
 have HB := Aside0.mk (Below.refl w.heap.size w)
 have H : ((some (([] : List Int) : List Int)).bind fun y191 => (if y191.length + l0.length < 17592186044416 then ((some (y191 ++ l0 : List Int)).bind fun y194 => ((spec_l1Words.f k l0 24).bind fun t197 => (if t197 = true then ((spec_HartOk.f k l1_0 a1_1 a1_2).bind fun t198 => (if t198 = true then (spec_FlatStep.j0 k l0 y194 (a1_2 != 0) l1_0 a1_1 a1_2) else (spec_FlatStep.j0 k l0 y194 true l1_0 a1_1 a1_2))) else (spec_FlatStep.j0 k l0 y194 true l1_0 a1_1 a1_2)))) else (none))) = some (r1, r2, r3, r4) := h
 clear h
 obtain ⟨y191, hy191⟩ : ∃ y_ : List Int, y_ = (([] : List Int)) := ⟨_, rfl⟩
 replace H : (if y191.length + l0.length < 17592186044416 then ((some (y191 ++ l0 : List Int)).bind fun y194 => ((spec_l1Words.f k l0 24).bind fun t197 => (if t197 = true then ((spec_HartOk.f k l1_0 a1_1 a1_2).bind fun t198 => (if t198 = true then (spec_FlatStep.j0 k l0 y194 (a1_2 != 0) l1_0 a1_1 a1_2) else (spec_FlatStep.j0 k l0 y194 true l1_0 a1_1 a1_2))) else (spec_FlatStep.j0 k l0 y194 true l1_0 a1_1 a1_2)))) else (none)) = some (r1, r2, r3, r4) := by first | (rw [hy191]; with_reducible exact H) | (have H2_ := (Option.bind_some _ _).symm.trans H; rw [hy191]; with_reducible exact H2_) | (have H2_ := (Option.bind_some _ _).symm.trans H; with_reducible exact H2_) | with_reducible exact H | (rw [hy191]; exact H) | exact H
 have Ny191 := Aside0.mk hy191
 clear hy191
 by_cases c3 : y191.length + l0.length < 17592186044416
 rotate_left
 ·rw [if_neg c3] at H
  exact absurd H (by simp)
 rw [if_pos c3] at H
 have LMc3 := Aside0.mk c3
 clear c3
 obtain ⟨y194, hy194⟩ : ∃ y_ : List Int, y_ = (y191 ++ l0) := ⟨_, rfl⟩
 replace H : ((spec_l1Words.f k l0 24).bind fun t197 => (if t197 = true then ((spec_HartOk.f k l1_0 a1_1 a1_2).bind fun t198 => (if t198 = true then (spec_FlatStep.j0 k l0 y194 (a1_2 != 0) l1_0 a1_1 a1_2) else (spec_FlatStep.j0 k l0 y194 true l1_0 a1_1 a1_2))) else (spec_FlatStep.j0 k l0 y194 true l1_0 a1_1 a1_2))) = some (r1, r2, r3, r4) := by first | (rw [hy194]; with_reducible exact H) | (have H2_ := (Option.bind_some _ _).symm.trans H; rw [hy194]; with_reducible exact H2_) | (have H2_ := (Option.bind_some _ _).symm.trans H; with_reducible exact H2_) | with_reducible exact H | (rw [hy194]; exact H) | exact H
 have Ny194 := Aside0.mk hy194
 clear hy194
 have HC4 := Aside0.mk H
 clear H
 go_enter Try.func57, Try.ntmps57
 go_upto_region 2 with (first | ((with_reducible refine gate_dst (N := 3) rfl ?_); refine box_event ?hg (N := 3) ?hd (cs := #[.slice A1_0 l1_0.length c1_0, .int .i64 a1_1, .int .i64 a1_2]) (t := 49) ?hr ?_; (case hd => rfl); (case hg => rfl); (case hr => first | (go_simp; done) | (go_simp; rfl)); intro gb189 hg w5 hbox hb; have n0_ := Aside0.mk (below_step (zB5_0) hb); have n1_ := Aside0.mk (hbox); have n2_ := Aside0.mk ((by rw [hg]; exact (below_size (zB5_0)) : w.heap.size ≤ gb189)); have n3_ := Aside0.mk ((by rw [hg]; exact (below_size (zB5_0)) : w.heap.size ≤ gb189)); clear HB; have HB := n0_; have BK189 := n1_; have GW189 := n2_; have GE189 := n3_; clear n0_ n1_ n2_ n3_; clear hb hbox hg) | ((with_reducible refine gate_dst (N := 5) rfl ?_); refine box_event ?hg (N := 5) ?hd (cs := #[.slice none 0 0, .int .i64 0, .int .i64 0]) (t := 49) ?hr ?_; (case hd => rfl); (case hg => rfl); (case hr => first | (go_simp; done) | (go_simp; rfl)); intro gb190 hg w6 hbox hb; have n0_ := Aside0.mk (zb5 BK189.out hb); have n1_ := Aside0.mk (below_step (zB5_1) hb); have n2_ := Aside0.mk (hbox); have n3_ := Aside0.mk ((by rw [hg]; exact (below_size (zB5_1)) : w.heap.size ≤ gb190)); have n4_ := Aside0.mk ((by rw [hg]; exact (below_size (zB5_1)) : w.heap.size ≤ gb190)); have n5_ := Aside0.mk ((zn5 BK189.out hg : gb189 ≠ gb190)); have n6_ := Aside0.mk ((zm5 BK189.out hg : gb190 ≠ gb189)); clear BK189; clear HB; have BK189 := n0_; have HB := n1_; have BK190 := n2_; have GW190 := n3_; have GE190 := n4_; have NB189_190 := n5_; have NB190_189 := n6_; clear n0_ n1_ n2_ n3_ n4_ n5_ n6_; clear hb hbox hg) | ((with_reducible refine gate_dst (N := 13) rfl ?_); refine Kd.R_lit (Kd.int .i64) _ 3 ?hg (N := 13) ?hd (xs := ([] : List Int)) (inner := []) (ok := fun _ => True) (okp := fun _ => True) ?hr ?hp (fun _ hk => hk) trivial (Below.refl _ _) (Nat.le_refl _) (by simp) ?_; (case hd => rfl); (case hg => rfl); (case hr => first | (go_simp; done) | (go_simp; rfl)); (case hp => exact (Reps.none _ _)); intro v192 w7 ho8 hb hg_ hnew_; clear hg_ hnew_; (first | rw [← Ny191.out] at ho8 | (simp only [Int.reduceToNat] at ho8; rw [← Ny191.out] at ho8)); have n0_ := Aside0.mk (Kd.R_lower ho8 (below_size (zB5_2))); have n1_ := Aside0.mk (zb5 BK189.out hb); have n2_ := Aside0.mk (zb5 BK190.out hb); have n3_ := Aside0.mk (below_step (zB5_2) hb); clear BK189; clear BK190; clear HB; have HO193 := n0_; have BK189 := n1_; have BK190 := n2_; have HB := n3_; clear n0_ n1_ n2_ n3_; clear hb ho8) | ((with_reducible refine gate_builtin (b := .append) (xs := #[.tmp 13, .tmp 14]) rfl ?_); at_builtin; refine Kd.R_append_rows (Kd.int .i64) (w0 := w) w.heap.size rfl (.tmp 13) (.tmp 14) 29 3 (.int .i64 0) 8 rfl Try.underlying29 info3 rfl (by decide) (by omega) v192 y191 l0 _ _ _ (fun _ => True) (fun _ => False) rfl rfl ?aO ?aR (fun _ _ h => h) (fun _ h => h.elim) ?aF ?aB ?aS ?aL ?_; (case aR => exact zC5 (Kd.C_below HR0.out HB.out)); (case aB => exact (zB5_2)); (case aF => exact (fun _ _ => trivial)); (case aO => exact (zR5 HO193.out)); (case aS => exact (below_size (zB5_2))); (case aL => have := LMc3.out; omega); intro v195 w9 ho hb hg hat; rw [← Ny194.out] at ho; have n0_ := Aside0.mk (zg5 BK189.out hg (Kd.R_ne HO193.out BK189.out (by decide))); have n1_ := Aside0.mk (zg5 BK190.out hg (Kd.R_ne HO193.out BK190.out (by decide))); have n2_ := Aside0.mk (hb); have n3_ := Aside0.mk (ho); clear BK189; clear BK190; clear HB; clear HO193; have BK189 := n0_; have BK190 := n1_; have HB := n2_; have HO196 := n3_; clear n0_ n1_ n2_ n3_; clear ho hb hg hat))
 (try simp only [Act.put, List.setIfInBounds_toArray, List.set_cons_zero, List.set_cons_succ])
 go_cut [28] (fun v28 wc => ∃ (kq : Nat) (x28_3 : Bool), v28 = .bool x28_3 ∧ Aside0 (spec_FlatStep.j0 kq l0 y194 x28_3 l1_0 a1_1 a1_2 = some (r1, r2, r3, r4)) ∧ Aside0 (kq ≤ k) ∧ Aside0 (Kd.R (Kd.int .i64) 3 wc w.heap.size (fun _ => True) v195 y194) ∧ Aside0 (wc.heap[gb189]? = some (.cells #[(.slice A1_0 l1_0.length c1_0), .int .i64 a1_1, .int .i64 a1_2] 49 (0, 0))) ∧ Aside0 (wc.heap[gb190]? = some (.cells #[(.slice none 0 0), .int .i64 0, .int .i64 0] 49 (0, 0))) ∧ Aside0 (Below w.heap.size w wc))
 case first =>
  have H := HC4.out
  clear HC4
  replace H := Option.bind_eq_some_iff.mp H
  obtain ⟨t197, A100, H⟩ := H
  replace H : (if t197 = true then ((spec_HartOk.f k l1_0 a1_1 a1_2).bind fun t198 => (if t198 = true then (spec_FlatStep.j0 k l0 y194 (a1_2 != 0) l1_0 a1_1 a1_2) else (spec_FlatStep.j0 k l0 y194 true l1_0 a1_1 a1_2))) else (spec_FlatStep.j0 k l0 y194 true l1_0 a1_1 a1_2)) = some (r1, r2, r3, r4) := H
  have A10 := Aside0.mk A100
  clear A100
  by_cases c11 : t197 = true
  rotate_left
  ·replace c11 := Bool.eq_false_iff.mpr c11
   subst c11
   have H1 : (spec_FlatStep.j0 k l0 y194 true l1_0 a1_1 a1_2) = some (r1, r2, r3, r4) := by rw [if_neg (show ¬ (false = true) by decide)] at H; exact H
   clear H
   have H := H1
   clear H1
   have H' := Aside0.mk H
   clear H
   go_wp2_with (first | ((with_reducible refine gate_callee (f := 75) rfl ?_); refine goesL_ (some 17) rfl rfl Try.func75 (by kernel_rfl) rfl #[.slice A0 l0.length c0, .int .i64 24] rfl zT5 ?_; (with_reducible refine (spec_l1Words.calls k _ _ l0 24 false _ ?side1 ?side2 A10.out).mono ?_); (case side1 => exact zC5 (Kd.C_below HR0.out HB.out)); (case side2 => exact HC0.out); rintro e w' ⟨rfl, ⟨nd, rfl⟩⟩; refine ⟨_, rfl, ?_⟩))
   go_meet
   case rel => exact ⟨_, (true), (by first | rfl | (simp; done) | (simp [*]; done)), H', ⟨by first | omega | exact Nat.le_refl _⟩, ⟨zR5 HO196.out⟩, ⟨zK5 BK189.out⟩, ⟨zK5 BK190.out⟩, ⟨zB5_2⟩⟩
  subst c11
  have H1 : ((spec_HartOk.f k l1_0 a1_1 a1_2).bind fun t198 => (if t198 = true then (spec_FlatStep.j0 k l0 y194 (a1_2 != 0) l1_0 a1_1 a1_2) else (spec_FlatStep.j0 k l0 y194 true l1_0 a1_1 a1_2))) = some (r1, r2, r3, r4) := by rw [if_pos rfl] at H; exact H
  clear H
  have H := H1
  clear H1
  replace H := Option.bind_eq_some_iff.mp H
  obtain ⟨t198, A120, H⟩ := H
  replace H : (if t198 = true then (spec_FlatStep.j0 k l0 y194 (a1_2 != 0) l1_0 a1_1 a1_2) else (spec_FlatStep.j0 k l0 y194 true l1_0 a1_1 a1_2)) = some (r1, r2, r3, r4) := H
  have A12 := Aside0.mk A120
  clear A120
  by_cases c13 : t198 = true
  rotate_left
  ·replace c13 := Bool.eq_false_iff.mpr c13
   subst c13
   have H1 : (spec_FlatStep.j0 k l0 y194 true l1_0 a1_1 a1_2) = some (r1, r2, r3, r4) := by rw [if_neg (show ¬ (false = true) by decide)] at H; exact H
   clear H
   have H := H1
   clear H1
   have H' := Aside0.mk H
   clear H
   go_wp2_with (first | ((with_reducible refine gate_callee (f := 75) rfl ?_); refine goesL_ (some 17) rfl rfl Try.func75 (by kernel_rfl) rfl #[.slice A0 l0.length c0, .int .i64 24] rfl zT5 ?_; (with_reducible refine (spec_l1Words.calls k _ _ l0 24 true _ ?side1 ?side2 A10.out).mono ?_); (case side1 => exact zC5 (Kd.C_below HR0.out HB.out)); (case side2 => exact HC0.out); rintro e w' ⟨rfl, ⟨nd, rfl⟩⟩; refine ⟨_, rfl, ?_⟩; have hnb18 := NB189_190.out; have hnc18 := NB190_189.out; obtain ⟨hcz19_0, hcz19_1, hcz19_2, hfz19_0, hfz19_1, hfz19_2⟩ := zc5_3 (w := w9) BK189.out) | (go_at_call 76; (with_reducible refine (spec_HartOk.calls k _ _ l1_0 a1_1 a1_2 false _ ?side1 ?side2 A12.out).mono ?_); (case side1 => repeat (first | exact (Kd.C_below HR1_0.out (zB5_2)) | (with_reducible refine Kd.C_alloc ?_ _) | (with_reducible refine Kd.C_drewN ?_ _) | (with_reducible refine Kd.C_drew ?_))); (case side2 => exact HC1_0.out); rintro e w20 ⟨rfl, hb⟩; have n0_ := Aside0.mk (Kd.R_below (zR5 HO196.out) hb); have n1_ := Aside0.mk (zb5 BK189.out hb); have n2_ := Aside0.mk (zb5 BK190.out hb); have n3_ := Aside0.mk (below_step (zB5_2) hb); clear HO196; clear BK189; clear BK190; clear HB; have HO196 := n0_; have BK189 := n1_; have BK190 := n2_; have HB := n3_; clear n0_ n1_ n2_ n3_; (try clear hb); (try clear hb2); (try clear hk); (try clear hi)))
   go_meet
   case rel => exact ⟨_, (true), (by first | rfl | (simp; done) | (simp [*]; done)), H', ⟨by first | omega | exact Nat.le_refl _⟩, ⟨zR5 HO196.out⟩, ⟨zK5 BK189.out⟩, ⟨zK5 BK190.out⟩, ⟨zB5_2⟩⟩
  subst c13
  have H1 : (spec_FlatStep.j0 k l0 y194 (a1_2 != 0) l1_0 a1_1 a1_2) = some (r1, r2, r3, r4) := by rw [if_pos rfl] at H; exact H
  clear H
  have H := H1
  clear H1
  have H' := Aside0.mk H
  clear H
  go_wp2_with (first | ((with_reducible refine gate_callee (f := 75) rfl ?_); refine goesL_ (some 17) rfl rfl Try.func75 (by kernel_rfl) rfl #[.slice A0 l0.length c0, .int .i64 24] rfl zT5 ?_; (with_reducible refine (spec_l1Words.calls k _ _ l0 24 true _ ?side1 ?side2 A10.out).mono ?_); (case side1 => exact zC5 (Kd.C_below HR0.out HB.out)); (case side2 => exact HC0.out); rintro e w' ⟨rfl, ⟨nd, rfl⟩⟩; refine ⟨_, rfl, ?_⟩; have hnb14 := NB189_190.out; have hnc14 := NB190_189.out; obtain ⟨hcz15_0, hcz15_1, hcz15_2, hfz15_0, hfz15_1, hfz15_2⟩ := zc5_3 (w := w9) BK189.out) | (go_at_call 76; (with_reducible refine (spec_HartOk.calls k _ _ l1_0 a1_1 a1_2 true _ ?side1 ?side2 A12.out).mono ?_); (case side1 => repeat (first | exact (Kd.C_below HR1_0.out (zB5_2)) | (with_reducible refine Kd.C_alloc ?_ _) | (with_reducible refine Kd.C_drewN ?_ _) | (with_reducible refine Kd.C_drew ?_))); (case side2 => exact HC1_0.out); rintro e w16 ⟨rfl, hb⟩; have n0_ := Aside0.mk (Kd.R_below (zR5 HO196.out) hb); have n1_ := Aside0.mk (zb5 BK189.out hb); have n2_ := Aside0.mk (zb5 BK190.out hb); have n3_ := Aside0.mk (below_step (zB5_2) hb); clear HO196; clear BK189; clear BK190; clear HB; have HO196 := n0_; have BK189 := n1_; have BK190 := n2_; have HB := n3_; clear n0_ n1_ n2_ n3_; (try clear hb); (try clear hb2); (try clear hk); (try clear hi); obtain ⟨hcz17_0, hcz17_1, hcz17_2, hfz17_0, hfz17_1, hfz17_2⟩ := zc5_3 (w := w16) BK189.out))
  go_meet
  case rel => exact ⟨_, ((a1_2 != 0)), (by first | rfl | (simp; done) | (simp [*]; done)), H', ⟨by first | omega | exact Nat.le_refl _⟩, ⟨zR5 HO196.out⟩, ⟨zK5 BK189.out⟩, ⟨zK5 BK190.out⟩, ⟨zB5_2⟩⟩
 case rest =>
  clear HC4
  try clear c1
  try clear p2
  try clear c3
  try clear c5
  try clear c7
  try clear c11
  try clear c13
  try clear c14
  try clear c18
  try clear hcz15_0
  try clear hcz15_1
  try clear hcz15_2
  try clear hcz17_0
  try clear hcz17_1
  try clear hcz17_2
  try clear hcz19_0
  try clear hcz19_1
  try clear hcz19_2
  try clear hfz15_0
  try clear hfz15_1
  try clear hfz15_2
  try clear hfz17_0
  try clear hfz17_1
  try clear hfz17_2
  try clear hfz19_0
  try clear hfz19_1
  try clear hfz19_2
  obtain ⟨kq, x28_3, rfl, HA, HJ3, HO_6, BK189, BK190, HB⟩ := hcut
  cases kq with
  | zero => exact absurd HA.out (by simp [spec_FlatStep.j0])
  | succ kj3 =>
   have H := HA.out
   clear HA
   simp only [spec_FlatStep.j0] at H
   by_cases c21 : x28_3 = true
   ·subst c21
    have H1 : ((spec_l9Copy.f l1_0 a1_1 a1_2).bind fun bt199 => (some (y194, bt199.1, bt199.2.1, bt199.2.2))) = some (r1, r2, r3, r4) := by rw [if_pos rfl] at H; exact H
    clear H
    have H := H1
    clear H1
    replace H := Option.bind_eq_some_iff.mp H
    obtain ⟨⟨t199, t202, t203⟩, A220, H⟩ := H
    replace H : (some (y194, t199, t202, t203)) = some (r1, r2, r3, r4) := H
    have A22 := Aside0.mk A220
    clear A220
    simp only [Option.some.injEq, Prod.mk.injEq] at H
    obtain ⟨rfl, rfl, rfl, rfl⟩ := H
    have hnb23 := NB189_190.out
    have hnc23 := NB190_189.out
    obtain ⟨hcz24_0, hcz24_1, hcz24_2, hfz24_0, hfz24_1, hfz24_2⟩ := zc5_3 (w := wc) BK189.out
    go_wp2_with (first | ((with_reducible refine gate_callee (f := 80) rfl ?_); refine goesL_ (some 31) rfl rfl Try.func80 (by kernel_rfl) rfl #[.agg #[.slice A1_0 l1_0.length c1_0, .int .i64 a1_1, .int .i64 a1_2]] rfl zT5 ?_; (with_reducible refine (spec_l9Copy.calls _ _ l1_0 a1_1 a1_2 t199 t202 t203 _ ?side1 ?side2 A22.out).mono ?_); (case side1 => exact zC5 (Kd.C_below HR1_0.out HB.out)); (case side2 => exact HC1_0.out); rintro e w25 ⟨v200, rfl, ho0, hb⟩; refine ⟨_, rfl, ?_⟩; have n0_ := Aside0.mk (Kd.R_elder' (zR5 HO_6.out) (Kd.R_base ho0) hb); have n1_ := Aside0.mk (Kd.R_lower (Kd.R_new' ho0 (Kd.R_lt (zR5 HO_6.out))) (below_size (zB5_2))); have n2_ := Aside0.mk (zb5 BK189.out hb); have n3_ := Aside0.mk (zb5 BK190.out hb); have n4_ := Aside0.mk (below_step (zB5_2) hb); clear HO_6; clear BK189; clear BK190; clear HB; have HO_6 := n0_; have HO201 := n1_; have BK189 := n2_; have BK190 := n3_; have HB := n4_; clear n0_ n1_ n2_ n3_ n4_; (try clear hb); (try clear hb2); (try clear hk); (try clear hi); (try clear ho0); obtain ⟨Ao26, co26, eo26⟩ := Kd.R_slice HO201.out; subst eo26; obtain ⟨hcz27_0, hcz27_1, hcz27_2, hfz27_0, hfz27_1, hfz27_2⟩ := zc5_3 (w := w25) BK190.out))
    refine bodyPost_ret (results_tc rfl _ _ gb190 49 #[.slice Ao26 t199.length co26, .int .i64 t202, .int .i64 t203] (0, 0) _ rfl (by refine zP5 ?_; refine blk_put (cs := #[.slice Ao26 t199.length co26, .int .i64 t202, .int .i64 0]) ?_ 2 _ rfl; refine zP5 ?_; refine blk_put (cs := #[.slice Ao26 t199.length co26, .int .i64 0, .int .i64 0]) ?_ 1 _ rfl; refine zP5 ?_; refine blk_put (cs := #[.slice none 0 0, .int .i64 0, .int .i64 0]) ?_ 0 _ rfl; refine zP5 ?_; exact BK190.out) Try.underlying49 rfl (by kernel_rfl)) rfl ?_
    exact ⟨_, _, zE5, by (with_reducible repeat (first | apply Kd.R_alloc | apply Kd.R_drewN | apply Kd.R_drew)); exact Kd.R_mono (Kd.R_far (p := ⟨gb190, 2, none⟩) (Kd.R_far (p := ⟨gb190, 1, none⟩) (Kd.R_far (p := ⟨gb190, 0, none⟩) (Kd.R_types HO_6.out BK190.out (by decide)) (fun _ hk => hk.2) (.slice Ao26 t199.length co26)) (fun _ hk => hk.2) (.int .i64 t202)) (fun _ hk => hk.2) (.int .i64 t203)) (fun _ hk => hk.1.2), by (with_reducible repeat (first | apply Kd.R_alloc | apply Kd.R_drewN | apply Kd.R_drew)); exact Kd.R_mono (Kd.R_far (p := ⟨gb190, 2, none⟩) (Kd.R_far (p := ⟨gb190, 1, none⟩) (Kd.R_far (p := ⟨gb190, 0, none⟩) (Kd.R_types HO201.out BK190.out (by decide)) (fun _ hk => hk.2) (.slice Ao26 t199.length co26)) (fun _ hk => hk.2) (.int .i64 t202)) (fun _ hk => hk.2) (.int .i64 t203)) (fun _ hk => hk.1.2), zB5_2⟩
   replace c21 := Bool.eq_false_iff.mpr c21
   subst c21
   have H1 : (if 0 ≤ a1_1 then (if a1_1 < (l0.length : Int) then ((spec_Decode.f (rd l0 a1_1)).bind fun bt205 => ((spec_Target.f bt205.1 bt205.2.1 bt205.2.2.1 bt205.2.2.2.1 bt205.2.2.2.2.1 l1_0).bind fun t212 => (if t212 ≥ 0 then (if 0 ≤ t212 then (if t212 < (l0.length : Int) then ((spec_Work.f kj3 l1_0 a1_1 a1_2 bt205.1 bt205.2.1 bt205.2.2.1 bt205.2.2.2.1 bt205.2.2.2.2.1 (rd l0 t212)).bind fun bt214 => (if bt214.2.2.2 ≥ 0 then (if t212 < (y194.length : Int) then (some ((y194.set (t212 : Int).toNat bt214.2.2.2), bt214.1, bt214.2.1, bt214.2.2.1)) else (none)) else (some (y194, bt214.1, bt214.2.1, bt214.2.2.1)))) else (none)) else (none)) else ((spec_Work.f kj3 l1_0 a1_1 a1_2 bt205.1 bt205.2.1 bt205.2.2.1 bt205.2.2.2.1 bt205.2.2.2.2.1 0).bind fun bt222 => (if bt222.2.2.2 ≥ 0 then (if 0 ≤ t212 then (if t212 < (y194.length : Int) then (some ((y194.set (t212 : Int).toNat bt222.2.2.2), bt222.1, bt222.2.1, bt222.2.2.1)) else (none)) else (none)) else (some (y194, bt222.1, bt222.2.1, bt222.2.2.1))))))) else (none)) else (none)) = some (r1, r2, r3, r4) := by rw [if_neg (show ¬ (false = true) by decide)] at H; exact H
   clear H
   have H := H1
   clear H1
   by_cases c28 : 0 ≤ a1_1
   rotate_left
   ·rw [if_neg c28] at H
    exact absurd H (by simp)
   rw [if_pos c28] at H
   have c28b0 : decide (0 ≤ a1_1) = true := decide_eq_true c28
   clear c28
   by_cases c29 : a1_1 < (l0.length : Int)
   rotate_left
   ·rw [if_neg c29] at H
    exact absurd H (by simp)
   rw [if_pos c29] at H
   have c29b0 : decide (a1_1 < (l0.length : Int)) = true := decide_eq_true c29
   clear c29
   replace H := Option.bind_eq_some_iff.mp H
   obtain ⟨⟨t205, t206, t207, t208, t209, t210⟩, A300, H⟩ := H
   replace H : ((spec_Target.f t205 t206 t207 t208 t209 l1_0).bind fun t212 => (if t212 ≥ 0 then (if 0 ≤ t212 then (if t212 < (l0.length : Int) then ((spec_Work.f kj3 l1_0 a1_1 a1_2 t205 t206 t207 t208 t209 (rd l0 t212)).bind fun bt214 => (if bt214.2.2.2 ≥ 0 then (if t212 < (y194.length : Int) then (some ((y194.set (t212 : Int).toNat bt214.2.2.2), bt214.1, bt214.2.1, bt214.2.2.1)) else (none)) else (some (y194, bt214.1, bt214.2.1, bt214.2.2.1)))) else (none)) else (none)) else ((spec_Work.f kj3 l1_0 a1_1 a1_2 t205 t206 t207 t208 t209 0).bind fun bt222 => (if bt222.2.2.2 ≥ 0 then (if 0 ≤ t212 then (if t212 < (y194.length : Int) then (some ((y194.set (t212 : Int).toNat bt222.2.2.2), bt222.1, bt222.2.1, bt222.2.2.1)) else (none)) else (none)) else (some (y194, bt222.1, bt222.2.1, bt222.2.2.1)))))) = some (r1, r2, r3, r4) := H
   have A30 := Aside0.mk A300
   clear A300
   replace H := Option.bind_eq_some_iff.mp H
   obtain ⟨t212, A310, H⟩ := H
   replace H : (if t212 ≥ 0 then (if 0 ≤ t212 then (if t212 < (l0.length : Int) then ((spec_Work.f kj3 l1_0 a1_1 a1_2 t205 t206 t207 t208 t209 (rd l0 t212)).bind fun bt214 => (if bt214.2.2.2 ≥ 0 then (if t212 < (y194.length : Int) then (some ((y194.set (t212 : Int).toNat bt214.2.2.2), bt214.1, bt214.2.1, bt214.2.2.1)) else (none)) else (some (y194, bt214.1, bt214.2.1, bt214.2.2.1)))) else (none)) else (none)) else ((spec_Work.f kj3 l1_0 a1_1 a1_2 t205 t206 t207 t208 t209 0).bind fun bt222 => (if bt222.2.2.2 ≥ 0 then (if 0 ≤ t212 then (if t212 < (y194.length : Int) then (some ((y194.set (t212 : Int).toNat bt222.2.2.2), bt222.1, bt222.2.1, bt222.2.2.1)) else (none)) else (none)) else (some (y194, bt222.1, bt222.2.1, bt222.2.2.1))))) = some (r1, r2, r3, r4) := H
   have A31 := Aside0.mk A310
   clear A310
   by_cases c32 : t212 ≥ 0
   rotate_left
   ·rw [if_neg c32] at H
    have c32b0 : decide (0 ≤ t212) = false := decide_eq_false c32
    clear c32
    replace H := Option.bind_eq_some_iff.mp H
    obtain ⟨⟨t222, t225, t226, t227⟩, A870, H⟩ := H
    replace H : (if t227 ≥ 0 then (if 0 ≤ t212 then (if t212 < (y194.length : Int) then (some ((y194.set (t212 : Int).toNat t227), t222, t225, t226)) else (none)) else (none)) else (some (y194, t222, t225, t226))) = some (r1, r2, r3, r4) := H
    have A87 := Aside0.mk A870
    clear A870
    by_cases c88 : t227 ≥ 0
    rotate_left
    ·rw [if_neg c88] at H
     have c88b0 : decide (0 ≤ t227) = false := decide_eq_false c88
     clear c88
     simp only [Option.some.injEq, Prod.mk.injEq] at H
     obtain ⟨rfl, rfl, rfl, rfl⟩ := H
     have hnb117 := NB189_190.out
     have hnc117 := NB190_189.out
     obtain ⟨hcz118_0, hcz118_1, hcz118_2, hfz118_0, hfz118_1, hfz118_2⟩ := zc5_3 (w := wc) BK189.out
     have p204 : 0 ≤ (a1_1 : Int) := zA5
     have q204 : a1_1 < (l0.length : Int) := zA5
     obtain ⟨ad204, e204, hx204_0⟩ := Kd.at_int HR0.out a1_1 p204 q204
     cases e204
     replace hx204_0 := (HB.out.cell (World.block_lt_of_cell? w _ hx204_0)).trans hx204_0
     replace p204 := eq_true p204
     replace q204 := eq_true q204
     try go_wp2_with (first | ((with_reducible refine gate_callee (f := 77) rfl ?_); refine goesL_ (some 38) rfl rfl Try.func77 (by kernel_rfl) rfl #[.int .i64 (rd l0 a1_1)] rfl zT5 ?_; (with_reducible refine (spec_Decode.calls (rd l0 a1_1) t205 t206 t207 t208 t209 t210 _ A30.out).mono ?_); rintro e w119 ⟨rfl, hb⟩; refine ⟨_, rfl, ?_⟩; have n0_ := Aside0.mk (Kd.R_below (zR5 HO_6.out) hb); have n1_ := Aside0.mk (zb5 BK189.out hb); have n2_ := Aside0.mk (zb5 BK190.out hb); have n3_ := Aside0.mk (below_step (zB5_2) hb); clear HO_6; clear BK189; clear BK190; clear HB; have HO_6 := n0_; have BK189 := n1_; have BK190 := n2_; have HB := n3_; clear n0_ n1_ n2_ n3_; (try clear hb); (try clear hb2); (try clear hk); (try clear hi)) | ((with_reducible refine gate_dst (N := 7) rfl ?_); refine box_event ?hg (N := 7) ?hd (cs := #[.int .i64 0, .int .i64 0, .int .i64 0, .int .i64 0, .int .i64 0]) (t := 71) ?hr ?_; (case hd => rfl); (case hg => rfl); (case hr => first | (go_simp; done) | (go_simp; rfl)); intro gb211 hg w120 hbox hb; have n0_ := Aside0.mk (Kd.R_below (zR5 HO_6.out) hb); have n1_ := Aside0.mk (zb5 BK189.out hb); have n2_ := Aside0.mk (zb5 BK190.out hb); have n3_ := Aside0.mk (below_step (zB5_2) hb); have n4_ := Aside0.mk (hbox); have n5_ := Aside0.mk ((by rw [hg]; exact (below_size (zB5_2)) : w.heap.size ≤ gb211)); have n6_ := Aside0.mk ((by rw [hg]; exact (below_size (zB5_2)) : w.heap.size ≤ gb211)); have n7_ := Aside0.mk ((zn5 BK189.out hg : gb189 ≠ gb211)); have n8_ := Aside0.mk ((zm5 BK189.out hg : gb211 ≠ gb189)); have n9_ := Aside0.mk ((zn5 BK190.out hg : gb190 ≠ gb211)); have n10_ := Aside0.mk ((zm5 BK190.out hg : gb211 ≠ gb190)); clear HO_6; clear BK189; clear BK190; clear HB; have HO_6 := n0_; have BK189 := n1_; have BK190 := n2_; have HB := n3_; have BK211 := n4_; have GW211 := n5_; have GE211 := n6_; have NB189_211 := n7_; have NB211_189 := n8_; have NB190_211 := n9_; have NB211_190 := n10_; clear n0_ n1_ n2_ n3_ n4_ n5_ n6_ n7_ n8_ n9_ n10_; clear hb hbox hg; have hnb121 := NB211_189.out; have hnc121 := NB189_211.out; have hnb122 := NB211_190.out; have hnc122 := NB190_211.out; obtain ⟨hcz123_0, hcz123_1, hcz123_2, hcz123_3, hcz123_4, hfz123_0, hfz123_1, hfz123_2, hfz123_3, hfz123_4⟩ := zc5_5 (w := w120) BK211.out; obtain ⟨hcz124_0, hcz124_1, hcz124_2, hfz124_0, hfz124_1, hfz124_2⟩ := zc5_3 (w := w120) BK189.out) | ((with_reducible refine gate_callee (f := 78) rfl ?_); refine goesL_ (some 44) rfl rfl Try.func78 (by kernel_rfl) rfl #[.agg #[.int .i64 t205, .int .i64 t206, .int .i64 t207, .int .i64 t208, .int .i64 t209], .slice A1_0 l1_0.length c1_0] rfl zT5 ?_; (with_reducible refine (spec_Target.calls t205 t206 t207 t208 t209 _ _ l1_0 t212 _ ?side1 ?side2 A31.out).mono ?_); (case side1 => exact Kd.C_below HR1_0.out (zB5_3)); (case side2 => exact HC1_0.out); rintro e w125 ⟨rfl, hb⟩; refine ⟨_, rfl, ?_⟩; have n0_ := Aside0.mk (Kd.R_below (by (with_reducible repeat (first | apply Kd.R_alloc | apply Kd.R_drewN | apply Kd.R_drew)); exact (Kd.R_mono (Kd.R_far (p := ⟨gb211, 4, none⟩) (Kd.R_far (p := ⟨gb211, 3, none⟩) (Kd.R_far (p := ⟨gb211, 2, none⟩) (Kd.R_far (p := ⟨gb211, 1, none⟩) (Kd.R_far (p := ⟨gb211, 0, none⟩) (Kd.R_types HO_6.out BK211.out (by decide)) (fun _ hk => hk.2) (.int .i64 t205)) (fun _ hk => hk.2) (.int .i64 t206)) (fun _ hk => hk.2) (.int .i64 t207)) (fun _ hk => hk.2) (.int .i64 t208)) (fun _ hk => hk.2) (.int .i64 t209)) (fun _ h_ => h_.1))) hb); have n1_ := Aside0.mk (blk_below (g := gb189) (o := .cells #[.slice A1_0 l1_0.length c1_0, .int .i64 a1_1, .int .i64 a1_2] 49 (0, 0)) (by refine zP5 ?_; refine blk_far ?_ NB189_211.out _; refine zP5 ?_; refine blk_far ?_ NB189_211.out _; refine zP5 ?_; refine blk_far ?_ NB189_211.out _; refine zP5 ?_; refine blk_far ?_ NB189_211.out _; refine zP5 ?_; refine blk_far ?_ NB189_211.out _; refine zP5 ?_; exact BK189.out) hb); have n2_ := Aside0.mk (blk_below (g := gb190) (o := .cells #[.slice none 0 0, .int .i64 0, .int .i64 0] 49 (0, 0)) (by refine zP5 ?_; refine blk_far ?_ NB190_211.out _; refine zP5 ?_; refine blk_far ?_ NB190_211.out _; refine zP5 ?_; refine blk_far ?_ NB190_211.out _; refine zP5 ?_; refine blk_far ?_ NB190_211.out _; refine zP5 ?_; refine blk_far ?_ NB190_211.out _; refine zP5 ?_; exact BK190.out) hb); have n3_ := Aside0.mk (blk_below (g := gb211) (o := .cells #[.int .i64 t205, .int .i64 t206, .int .i64 t207, .int .i64 t208, .int .i64 t209] 71 (0, 0)) (by refine zP5 ?_; refine blk_put (cs := #[.int .i64 t205, .int .i64 t206, .int .i64 t207, .int .i64 t208, .int .i64 0]) ?_ 4 _ rfl; refine zP5 ?_; refine blk_put (cs := #[.int .i64 t205, .int .i64 t206, .int .i64 t207, .int .i64 0, .int .i64 0]) ?_ 3 _ rfl; refine zP5 ?_; refine blk_put (cs := #[.int .i64 t205, .int .i64 t206, .int .i64 0, .int .i64 0, .int .i64 0]) ?_ 2 _ rfl; refine zP5 ?_; refine blk_put (cs := #[.int .i64 t205, .int .i64 0, .int .i64 0, .int .i64 0, .int .i64 0]) ?_ 1 _ rfl; refine zP5 ?_; refine blk_put (cs := #[.int .i64 0, .int .i64 0, .int .i64 0, .int .i64 0, .int .i64 0]) ?_ 0 _ rfl; refine zP5 ?_; exact BK211.out) hb); have n4_ := Aside0.mk (below_step (zB5_3) hb); clear HO_6; clear BK189; clear BK190; clear BK211; clear HB; have HO_6 := n0_; have BK189 := n1_; have BK190 := n2_; have BK211 := n3_; have HB := n4_; clear n0_ n1_ n2_ n3_ n4_; (try clear hb); (try clear hb2); (try clear hk); (try clear hi); obtain ⟨hcz126_0, hcz126_1, hcz126_2, hfz126_0, hfz126_1, hfz126_2⟩ := zc5_3 (w := w125) BK189.out; obtain ⟨hcz127_0, hcz127_1, hcz127_2, hcz127_3, hcz127_4, hfz127_0, hfz127_1, hfz127_2, hfz127_3, hfz127_4⟩ := zc5_5 (w := w125) BK211.out) | ((with_reducible refine gate_callee (f := 79) rfl ?_); refine goesL_ (some 55) rfl rfl Try.func79 (by kernel_rfl) rfl #[.agg #[.slice A1_0 l1_0.length c1_0, .int .i64 a1_1, .int .i64 a1_2], .agg #[.int .i64 t205, .int .i64 t206, .int .i64 t207, .int .i64 t208, .int .i64 t209], .int .i64 0] rfl zT5 ?_; (with_reducible refine (spec_Work.calls kj3 _ _ l1_0 a1_1 a1_2 t205 t206 t207 t208 t209 0 t222 t225 t226 t227 _ ?side1 ?side2 A87.out).mono ?_); (case side1 => exact zC5 (Kd.C_below HR1_0.out HB.out)); (case side2 => exact HC1_0.out); rintro e w128 ⟨v223, rfl, ho0, hb⟩; refine ⟨_, rfl, ?_⟩; have n0_ := Aside0.mk (Kd.R_elder' (zR5 HO_6.out) (Kd.R_base ho0) hb); have n1_ := Aside0.mk (Kd.R_lower (Kd.R_new' ho0 (Kd.R_lt (zR5 HO_6.out))) (below_size (zB5_3))); have n2_ := Aside0.mk (zb5 BK189.out hb); have n3_ := Aside0.mk (zb5 BK190.out hb); have n4_ := Aside0.mk (zb5 BK211.out hb); have n5_ := Aside0.mk (below_step (zB5_3) hb); clear HO_6; clear BK189; clear BK190; clear BK211; clear HB; have HO_6 := n0_; have HO224 := n1_; have BK189 := n2_; have BK190 := n3_; have BK211 := n4_; have HB := n5_; clear n0_ n1_ n2_ n3_ n4_ n5_; (try clear hb); (try clear hb2); (try clear hk); (try clear hi); (try clear ho0)) | ((with_reducible refine gate_dst (N := 11) rfl ?_); refine box_event ?hg (N := 11) ?hd (cs := #[.slice none 0 0, .int .i64 0, .int .i64 0]) (t := 49) ?hr ?_; (case hd => rfl); (case hg => rfl); (case hr => first | (go_simp; done) | (go_simp; rfl)); intro gb228 hg w129 hbox hb; have n0_ := Aside0.mk (Kd.R_below (zR5 HO_6.out) hb); have n1_ := Aside0.mk (Kd.R_below (zR5 HO224.out) hb); have n2_ := Aside0.mk (zb5 BK189.out hb); have n3_ := Aside0.mk (zb5 BK190.out hb); have n4_ := Aside0.mk (zb5 BK211.out hb); have n5_ := Aside0.mk (below_step (zB5_3) hb); have n6_ := Aside0.mk (hbox); have n7_ := Aside0.mk ((by rw [hg]; exact (below_size (zB5_3)) : w.heap.size ≤ gb228)); have n8_ := Aside0.mk ((by rw [hg]; exact (below_size (zB5_3)) : w.heap.size ≤ gb228)); have n9_ := Aside0.mk ((zn5 BK189.out hg : gb189 ≠ gb228)); have n10_ := Aside0.mk ((zm5 BK189.out hg : gb228 ≠ gb189)); have n11_ := Aside0.mk ((zn5 BK190.out hg : gb190 ≠ gb228)); have n12_ := Aside0.mk ((zm5 BK190.out hg : gb228 ≠ gb190)); have n13_ := Aside0.mk ((zn5 BK211.out hg : gb211 ≠ gb228)); have n14_ := Aside0.mk ((zm5 BK211.out hg : gb228 ≠ gb211)); clear HO_6; clear HO224; clear BK189; clear BK190; clear BK211; clear HB; have HO_6 := n0_; have HO224 := n1_; have BK189 := n2_; have BK190 := n3_; have BK211 := n4_; have HB := n5_; have BK228 := n6_; have GW228 := n7_; have GE228 := n8_; have NB189_228 := n9_; have NB228_189 := n10_; have NB190_228 := n11_; have NB228_190 := n12_; have NB211_228 := n13_; have NB228_211 := n14_; clear n0_ n1_ n2_ n3_ n4_ n5_ n6_ n7_ n8_ n9_ n10_ n11_ n12_ n13_ n14_; clear hb hbox hg; obtain ⟨Ao130, co130, eo130⟩ := Kd.R_slice HO224.out; subst eo130; have hnb131 := NB228_189.out; have hnc131 := NB189_228.out; have hnb132 := NB228_190.out; have hnc132 := NB190_228.out; have hnb133 := NB228_211.out; have hnc133 := NB211_228.out; obtain ⟨hcz134_0, hcz134_1, hcz134_2, hfz134_0, hfz134_1, hfz134_2⟩ := zc5_3 (w := w129) BK228.out))
     have n0_ : Aside0 (Kd.R (Kd.int .i64) 3 (((w129.setCell ⟨gb228, 0, none⟩ (.slice Ao130 t222.length co130)).setCell ⟨gb228, 1, none⟩ (.int .i64 t225)).setCell ⟨gb228, 2, none⟩ (.int .i64 t226)) w.heap.size (fun k_ => some k_ ≠ (.slice Ao130 t222.length co130 : Value).ownBlock) v195 y194) := ⟨by (with_reducible repeat (first | apply Kd.R_alloc | apply Kd.R_drewN | apply Kd.R_drew)); exact Kd.R_mono (Kd.R_far (p := ⟨gb228, 2, none⟩) (Kd.R_far (p := ⟨gb228, 1, none⟩) (Kd.R_far (p := ⟨gb228, 0, none⟩) (Kd.R_types HO_6.out BK228.out (by decide)) (fun _ hk => hk.2) (.slice Ao130 t222.length co130)) (fun _ hk => hk.2) (.int .i64 t225)) (fun _ hk => hk.2) (.int .i64 t226)) (fun _ hk => hk.1.2)⟩
     have n1_ : Aside0 (Kd.R (Kd.int .i64) 3 (((w129.setCell ⟨gb228, 0, none⟩ (.slice Ao130 t222.length co130)).setCell ⟨gb228, 1, none⟩ (.int .i64 t225)).setCell ⟨gb228, 2, none⟩ (.int .i64 t226)) w.heap.size (fun k_ => some k_ ≠ (v195 : Value).ownBlock) (.slice Ao130 t222.length co130) t222) := ⟨by (with_reducible repeat (first | apply Kd.R_alloc | apply Kd.R_drewN | apply Kd.R_drew)); exact Kd.R_mono (Kd.R_far (p := ⟨gb228, 2, none⟩) (Kd.R_far (p := ⟨gb228, 1, none⟩) (Kd.R_far (p := ⟨gb228, 0, none⟩) (Kd.R_types HO224.out BK228.out (by decide)) (fun _ hk => hk.2) (.slice Ao130 t222.length co130)) (fun _ hk => hk.2) (.int .i64 t225)) (fun _ hk => hk.2) (.int .i64 t226)) (fun _ hk => hk.1.2)⟩
     have n2_ : Aside0 ((((w129.setCell ⟨gb228, 0, none⟩ (.slice Ao130 t222.length co130)).setCell ⟨gb228, 1, none⟩ (.int .i64 t225)).setCell ⟨gb228, 2, none⟩ (.int .i64 t226)).heap[gb189]? = some (.cells #[.slice A1_0 l1_0.length c1_0, .int .i64 a1_1, .int .i64 a1_2] 49 (0, 0))) := ⟨by refine zP5 ?_; refine blk_far ?_ NB189_228.out _; refine zP5 ?_; refine blk_far ?_ NB189_228.out _; refine zP5 ?_; refine blk_far ?_ NB189_228.out _; refine zP5 ?_; exact BK189.out⟩
     have n3_ : Aside0 ((((w129.setCell ⟨gb228, 0, none⟩ (.slice Ao130 t222.length co130)).setCell ⟨gb228, 1, none⟩ (.int .i64 t225)).setCell ⟨gb228, 2, none⟩ (.int .i64 t226)).heap[gb190]? = some (.cells #[.slice none 0 0, .int .i64 0, .int .i64 0] 49 (0, 0))) := ⟨by refine zP5 ?_; refine blk_far ?_ NB190_228.out _; refine zP5 ?_; refine blk_far ?_ NB190_228.out _; refine zP5 ?_; refine blk_far ?_ NB190_228.out _; refine zP5 ?_; exact BK190.out⟩
     have n4_ : Aside0 ((((w129.setCell ⟨gb228, 0, none⟩ (.slice Ao130 t222.length co130)).setCell ⟨gb228, 1, none⟩ (.int .i64 t225)).setCell ⟨gb228, 2, none⟩ (.int .i64 t226)).heap[gb211]? = some (.cells #[.int .i64 t205, .int .i64 t206, .int .i64 t207, .int .i64 t208, .int .i64 t209] 71 (0, 0))) := ⟨by refine zP5 ?_; refine blk_far ?_ NB211_228.out _; refine zP5 ?_; refine blk_far ?_ NB211_228.out _; refine zP5 ?_; refine blk_far ?_ NB211_228.out _; refine zP5 ?_; exact BK211.out⟩
     have n5_ : Aside0 ((((w129.setCell ⟨gb228, 0, none⟩ (.slice Ao130 t222.length co130)).setCell ⟨gb228, 1, none⟩ (.int .i64 t225)).setCell ⟨gb228, 2, none⟩ (.int .i64 t226)).heap[gb228]? = some (.cells #[.slice Ao130 t222.length co130, .int .i64 t225, .int .i64 t226] 49 (0, 0))) := ⟨by refine zP5 ?_; refine blk_put (cs := #[.slice Ao130 t222.length co130, .int .i64 t225, .int .i64 0]) ?_ 2 _ rfl; refine zP5 ?_; refine blk_put (cs := #[.slice Ao130 t222.length co130, .int .i64 0, .int .i64 0]) ?_ 1 _ rfl; refine zP5 ?_; refine blk_put (cs := #[.slice none 0 0, .int .i64 0, .int .i64 0]) ?_ 0 _ rfl; refine zP5 ?_; exact BK228.out⟩
     have n6_ : Aside0 (Below w.heap.size w (((w129.setCell ⟨gb228, 0, none⟩ (.slice Ao130 t222.length co130)).setCell ⟨gb228, 1, none⟩ (.int .i64 t225)).setCell ⟨gb228, 2, none⟩ (.int .i64 t226))) := ⟨zB5_5⟩
     (try clear HO_6)
     (try clear HO224)
     (try clear BK189)
     (try clear BK190)
     (try clear BK211)
     (try clear BK228)
     (try clear HB)
     generalize (((w129.setCell ⟨gb228, 0, none⟩ (.slice Ao130 t222.length co130)).setCell ⟨gb228, 1, none⟩ (.int .i64 t225)).setCell ⟨gb228, 2, none⟩ (.int .i64 t226)) = w135 at n0_ n1_ n2_ n3_ n4_ n5_ n6_ ⊢
     have HO_6 := n0_
     have HO224 := n1_
     have BK189 := n2_
     have BK190 := n3_
     have BK211 := n4_
     have BK228 := n5_
     have HB := n6_
     clear n0_ n1_ n2_ n3_ n4_ n5_ n6_
     have n0_ := Aside0.mk (Kd.R_drew HO_6.out)
     have n1_ := Aside0.mk (Kd.R_drew HO224.out)
     have n2_ := Aside0.mk (blk_drew BK189.out)
     have n3_ := Aside0.mk (blk_drew BK190.out)
     have n4_ := Aside0.mk (blk_drew BK211.out)
     have n5_ := Aside0.mk (blk_drew BK228.out)
     have n6_ := Aside0.mk (below_drew1 HB.out)
     clear HO_6 HO224 BK189 BK190 BK211 BK228 HB
     have HO_6 := n0_
     have HO224 := n1_
     have BK189 := n2_
     have BK190 := n3_
     have BK211 := n4_
     have BK228 := n5_
     have HB := n6_
     clear n0_ n1_ n2_ n3_ n4_ n5_ n6_
     refine start_ (n := 4) (S := fun w' => w'.cell? ⟨gb228, 0, none⟩ = some (.slice Ao130 t222.length co130) ∧ w'.cell? ⟨gb228, 1, none⟩ = some (.int .i64 t225) ∧ w'.cell? ⟨gb228, 2, none⟩ = some (.int .i64 t226)) (ds := []) #[false, false, false, false] (by kernel_rfl) rfl rfl ⟨(blk_cell BK228.out 0).trans rfl, (blk_cell BK228.out 1).trans rfl, (blk_cell BK228.out 2).trans rfl⟩ (fun hHeld => ?_)
     generalize w135.drew = w136 at HO_6 HO224 BK189 BK190 BK211 BK228 HB hHeld ⊢
     refine pure_ (i := 0) (N := some 64) (v := ?_) (a' := ?_) #[true, false, false, false] rfl rfl (by kernel_rfl) (fun _ _ _ h => h) (Or.inl ⟨by rfl, ?_⟩) ?_ ?_
     rotate_left
     ·intro w'
      go_simp
      with_reducible rfl
     rotate_left
     ·exact zV5
     refine pure_ (i := 2) (N := some 4) (v := ?_) (a' := ?_) #[true, false, true, false] rfl rfl (by kernel_rfl) (fun _ _ _ h => h) (Or.inl ⟨by rfl, ?_⟩) ?_ ?_
     rotate_left
     ·intro w'
      go_simp
      with_reducible rfl
     rotate_left
     ·exact zV5
     refine take_ (i := 1) (N := some 65) (v := ?_) (a' := ?_) #[true, true, true, false] rfl rfl (by kernel_rfl) (fun _ _ _ h => h) (Or.inl ⟨by rfl, ?_⟩) hHeld ?_ ?_
     rotate_left
     ·rintro w' ⟨s0, s1, s2⟩
      go_simp
      with_reducible rfl
     rotate_left
     ·exact zV5
     refine one_ (i := 3) (N := none) #[true, true, true, true] rfl rfl (by kernel_rfl) (by decide) (fun K hK => ?_)
     have hs137 : w136.cell? ⟨gb190, 0, none⟩ = some (.slice none 0 0) := (blk_cell BK190.out 0).trans rfl
     have hfs137 := blk_frozen BK190.out 0
     have hns137_0 := NB189_190.out
     have hns137_2 := NB211_190.out
     have hns137_3 := NB228_190.out
     have hms137_0 := NB190_189.out
     have hms137_2 := NB190_211.out
     have hms137_3 := NB190_228.out
     have hs138 : w136.cell? ⟨gb190, 1, none⟩ = some (.int .i64 0) := (blk_cell BK190.out 1).trans rfl
     have hfs138 := blk_frozen BK190.out 1
     have hns138_0 := NB189_190.out
     have hns138_2 := NB211_190.out
     have hns138_3 := NB228_190.out
     have hms138_0 := NB190_189.out
     have hms138_2 := NB190_211.out
     have hms138_3 := NB190_228.out
     have hs139 : w136.cell? ⟨gb190, 2, none⟩ = some (.int .i64 0) := (blk_cell BK190.out 2).trans rfl
     have hfs139 := blk_frozen BK190.out 2
     have hns139_0 := NB189_190.out
     have hns139_2 := NB211_190.out
     have hns139_3 := NB228_190.out
     have hms139_0 := NB190_189.out
     have hms139_2 := NB190_211.out
     have hms139_3 := NB190_228.out
     refine skip_ (w1 := ?_) (by rfl) rfl ?_ ?_
     rotate_left
     ·go_simp
      rfl
     refine hK.out _ _ ⟨((cell_far (p := ⟨gb190, _, none⟩) NB228_190.out _).trans (((cell_far (p := ⟨gb190, _, none⟩) NB228_190.out _).trans (((cell_far (p := ⟨gb190, _, none⟩) NB228_190.out _).trans (hHeld.1)))))), ((cell_far (p := ⟨gb190, _, none⟩) NB228_190.out _).trans (((cell_far (p := ⟨gb190, _, none⟩) NB228_190.out _).trans (((cell_far (p := ⟨gb190, _, none⟩) NB228_190.out _).trans (hHeld.2.1)))))), ((cell_far (p := ⟨gb190, _, none⟩) NB228_190.out _).trans (((cell_far (p := ⟨gb190, _, none⟩) NB228_190.out _).trans (((cell_far (p := ⟨gb190, _, none⟩) NB228_190.out _).trans (hHeld.2.2))))))⟩ (fun hHeld => ?_)
     clear hK K
     refine done_ (by kernel_rfl) ?_
     try go_wp2
     refine bodyPost_ret (results_tc rfl _ _ gb190 49 #[.slice Ao130 t222.length co130, .int .i64 t225, .int .i64 t226] (0, 0) _ rfl (by refine zP5 ?_; refine blk_put (cs := #[.slice Ao130 t222.length co130, .int .i64 t225, .int .i64 0]) ?_ 2 _ rfl; refine zP5 ?_; refine blk_put (cs := #[.slice Ao130 t222.length co130, .int .i64 0, .int .i64 0]) ?_ 1 _ rfl; refine zP5 ?_; refine blk_put (cs := #[.slice none 0 0, .int .i64 0, .int .i64 0]) ?_ 0 _ rfl; refine zP5 ?_; exact BK190.out) Try.underlying49 rfl (by kernel_rfl)) rfl ?_
     exact ⟨_, _, zE5, by (with_reducible repeat (first | apply Kd.R_alloc | apply Kd.R_drewN | apply Kd.R_drew)); exact Kd.R_mono (Kd.R_far (p := ⟨gb190, 2, none⟩) (Kd.R_far (p := ⟨gb190, 1, none⟩) (Kd.R_far (p := ⟨gb190, 0, none⟩) (Kd.R_types HO_6.out BK190.out (by decide)) (fun _ hk => hk.2) (.slice Ao130 t222.length co130)) (fun _ hk => hk.2) (.int .i64 t225)) (fun _ hk => hk.2) (.int .i64 t226)) (fun _ hk => hk.1), by (with_reducible repeat (first | apply Kd.R_alloc | apply Kd.R_drewN | apply Kd.R_drew)); exact Kd.R_mono (Kd.R_far (p := ⟨gb190, 2, none⟩) (Kd.R_far (p := ⟨gb190, 1, none⟩) (Kd.R_far (p := ⟨gb190, 0, none⟩) (Kd.R_types HO224.out BK190.out (by decide)) (fun _ hk => hk.2) (.slice Ao130 t222.length co130)) (fun _ hk => hk.2) (.int .i64 t225)) (fun _ hk => hk.2) (.int .i64 t226)) (fun _ hk => hk.1), zB5_5⟩
    rw [if_pos c88] at H
    have c88b0 : decide (0 ≤ t227) = true := decide_eq_true c88
    clear c88
    by_cases c89 : 0 ≤ t212
    rotate_left
    ·rw [if_neg c89] at H
     exact absurd H (by simp)
    rw [if_pos c89] at H
    have c89b0 : decide (0 ≤ t212) = true := decide_eq_true c89
    clear c89
    by_cases c90 : t212 < (y194.length : Int)
    rotate_left
    ·rw [if_neg c90] at H
     exact absurd H (by simp)
    rw [if_pos c90] at H
    have c90b0 : decide (t212 < (y194.length : Int)) = true := decide_eq_true c90
    clear c90
    obtain ⟨y229, hy229⟩ : ∃ y_ : List Int, y_ = (y194.set (t212 : Int).toNat t227) := ⟨_, rfl⟩
    replace H : (some (y229, t222, t225, t226)) = some (r1, r2, r3, r4) := by first | (rw [hy229]; with_reducible exact H) | (have H2_ := (Option.bind_some _ _).symm.trans H; rw [hy229]; with_reducible exact H2_) | (have H2_ := (Option.bind_some _ _).symm.trans H; with_reducible exact H2_) | with_reducible exact H | (rw [hy229]; exact H) | exact H
    have Ny229 := Aside0.mk hy229
    clear hy229
    simp only [Option.some.injEq, Prod.mk.injEq] at H
    obtain ⟨rfl, rfl, rfl, rfl⟩ := H
    have hnb92 := NB189_190.out
    have hnc92 := NB190_189.out
    obtain ⟨hcz93_0, hcz93_1, hcz93_2, hfz93_0, hfz93_1, hfz93_2⟩ := zc5_3 (w := wc) BK189.out
    have p204 : 0 ≤ (a1_1 : Int) := zA5
    have q204 : a1_1 < (l0.length : Int) := zA5
    obtain ⟨ad204, e204, hx204_0⟩ := Kd.at_int HR0.out a1_1 p204 q204
    cases e204
    replace hx204_0 := (HB.out.cell (World.block_lt_of_cell? w _ hx204_0)).trans hx204_0
    replace p204 := eq_true p204
    replace q204 := eq_true q204
    try go_wp2_with (first | ((with_reducible refine gate_callee (f := 77) rfl ?_); refine goesL_ (some 38) rfl rfl Try.func77 (by kernel_rfl) rfl #[.int .i64 (rd l0 a1_1)] rfl zT5 ?_; (with_reducible refine (spec_Decode.calls (rd l0 a1_1) t205 t206 t207 t208 t209 t210 _ A30.out).mono ?_); rintro e w94 ⟨rfl, hb⟩; refine ⟨_, rfl, ?_⟩; have n0_ := Aside0.mk (Kd.R_below (zR5 HO_6.out) hb); have n1_ := Aside0.mk (zb5 BK189.out hb); have n2_ := Aside0.mk (zb5 BK190.out hb); have n3_ := Aside0.mk (below_step (zB5_2) hb); clear HO_6; clear BK189; clear BK190; clear HB; have HO_6 := n0_; have BK189 := n1_; have BK190 := n2_; have HB := n3_; clear n0_ n1_ n2_ n3_; (try clear hb); (try clear hb2); (try clear hk); (try clear hi)) | ((with_reducible refine gate_dst (N := 7) rfl ?_); refine box_event ?hg (N := 7) ?hd (cs := #[.int .i64 0, .int .i64 0, .int .i64 0, .int .i64 0, .int .i64 0]) (t := 71) ?hr ?_; (case hd => rfl); (case hg => rfl); (case hr => first | (go_simp; done) | (go_simp; rfl)); intro gb211 hg w95 hbox hb; have n0_ := Aside0.mk (Kd.R_below (zR5 HO_6.out) hb); have n1_ := Aside0.mk (zb5 BK189.out hb); have n2_ := Aside0.mk (zb5 BK190.out hb); have n3_ := Aside0.mk (below_step (zB5_2) hb); have n4_ := Aside0.mk (hbox); have n5_ := Aside0.mk ((by rw [hg]; exact (below_size (zB5_2)) : w.heap.size ≤ gb211)); have n6_ := Aside0.mk ((by rw [hg]; exact (below_size (zB5_2)) : w.heap.size ≤ gb211)); have n7_ := Aside0.mk ((zn5 BK189.out hg : gb189 ≠ gb211)); have n8_ := Aside0.mk ((zm5 BK189.out hg : gb211 ≠ gb189)); have n9_ := Aside0.mk ((zn5 BK190.out hg : gb190 ≠ gb211)); have n10_ := Aside0.mk ((zm5 BK190.out hg : gb211 ≠ gb190)); clear HO_6; clear BK189; clear BK190; clear HB; have HO_6 := n0_; have BK189 := n1_; have BK190 := n2_; have HB := n3_; have BK211 := n4_; have GW211 := n5_; have GE211 := n6_; have NB189_211 := n7_; have NB211_189 := n8_; have NB190_211 := n9_; have NB211_190 := n10_; clear n0_ n1_ n2_ n3_ n4_ n5_ n6_ n7_ n8_ n9_ n10_; clear hb hbox hg; have hnb96 := NB211_189.out; have hnc96 := NB189_211.out; have hnb97 := NB211_190.out; have hnc97 := NB190_211.out; obtain ⟨hcz98_0, hcz98_1, hcz98_2, hcz98_3, hcz98_4, hfz98_0, hfz98_1, hfz98_2, hfz98_3, hfz98_4⟩ := zc5_5 (w := w95) BK211.out; obtain ⟨hcz99_0, hcz99_1, hcz99_2, hfz99_0, hfz99_1, hfz99_2⟩ := zc5_3 (w := w95) BK189.out) | ((with_reducible refine gate_callee (f := 78) rfl ?_); refine goesL_ (some 44) rfl rfl Try.func78 (by kernel_rfl) rfl #[.agg #[.int .i64 t205, .int .i64 t206, .int .i64 t207, .int .i64 t208, .int .i64 t209], .slice A1_0 l1_0.length c1_0] rfl zT5 ?_; (with_reducible refine (spec_Target.calls t205 t206 t207 t208 t209 _ _ l1_0 t212 _ ?side1 ?side2 A31.out).mono ?_); (case side1 => exact Kd.C_below HR1_0.out (zB5_3)); (case side2 => exact HC1_0.out); rintro e w100 ⟨rfl, hb⟩; refine ⟨_, rfl, ?_⟩; have n0_ := Aside0.mk (Kd.R_below (by (with_reducible repeat (first | apply Kd.R_alloc | apply Kd.R_drewN | apply Kd.R_drew)); exact (Kd.R_mono (Kd.R_far (p := ⟨gb211, 4, none⟩) (Kd.R_far (p := ⟨gb211, 3, none⟩) (Kd.R_far (p := ⟨gb211, 2, none⟩) (Kd.R_far (p := ⟨gb211, 1, none⟩) (Kd.R_far (p := ⟨gb211, 0, none⟩) (Kd.R_types HO_6.out BK211.out (by decide)) (fun _ hk => hk.2) (.int .i64 t205)) (fun _ hk => hk.2) (.int .i64 t206)) (fun _ hk => hk.2) (.int .i64 t207)) (fun _ hk => hk.2) (.int .i64 t208)) (fun _ hk => hk.2) (.int .i64 t209)) (fun _ h_ => h_.1))) hb); have n1_ := Aside0.mk (blk_below (g := gb189) (o := .cells #[.slice A1_0 l1_0.length c1_0, .int .i64 a1_1, .int .i64 a1_2] 49 (0, 0)) (by refine zP5 ?_; refine blk_far ?_ NB189_211.out _; refine zP5 ?_; refine blk_far ?_ NB189_211.out _; refine zP5 ?_; refine blk_far ?_ NB189_211.out _; refine zP5 ?_; refine blk_far ?_ NB189_211.out _; refine zP5 ?_; refine blk_far ?_ NB189_211.out _; refine zP5 ?_; exact BK189.out) hb); have n2_ := Aside0.mk (blk_below (g := gb190) (o := .cells #[.slice none 0 0, .int .i64 0, .int .i64 0] 49 (0, 0)) (by refine zP5 ?_; refine blk_far ?_ NB190_211.out _; refine zP5 ?_; refine blk_far ?_ NB190_211.out _; refine zP5 ?_; refine blk_far ?_ NB190_211.out _; refine zP5 ?_; refine blk_far ?_ NB190_211.out _; refine zP5 ?_; refine blk_far ?_ NB190_211.out _; refine zP5 ?_; exact BK190.out) hb); have n3_ := Aside0.mk (blk_below (g := gb211) (o := .cells #[.int .i64 t205, .int .i64 t206, .int .i64 t207, .int .i64 t208, .int .i64 t209] 71 (0, 0)) (by refine zP5 ?_; refine blk_put (cs := #[.int .i64 t205, .int .i64 t206, .int .i64 t207, .int .i64 t208, .int .i64 0]) ?_ 4 _ rfl; refine zP5 ?_; refine blk_put (cs := #[.int .i64 t205, .int .i64 t206, .int .i64 t207, .int .i64 0, .int .i64 0]) ?_ 3 _ rfl; refine zP5 ?_; refine blk_put (cs := #[.int .i64 t205, .int .i64 t206, .int .i64 0, .int .i64 0, .int .i64 0]) ?_ 2 _ rfl; refine zP5 ?_; refine blk_put (cs := #[.int .i64 t205, .int .i64 0, .int .i64 0, .int .i64 0, .int .i64 0]) ?_ 1 _ rfl; refine zP5 ?_; refine blk_put (cs := #[.int .i64 0, .int .i64 0, .int .i64 0, .int .i64 0, .int .i64 0]) ?_ 0 _ rfl; refine zP5 ?_; exact BK211.out) hb); have n4_ := Aside0.mk (below_step (zB5_3) hb); clear HO_6; clear BK189; clear BK190; clear BK211; clear HB; have HO_6 := n0_; have BK189 := n1_; have BK190 := n2_; have BK211 := n3_; have HB := n4_; clear n0_ n1_ n2_ n3_ n4_; (try clear hb); (try clear hb2); (try clear hk); (try clear hi); obtain ⟨hcz101_0, hcz101_1, hcz101_2, hfz101_0, hfz101_1, hfz101_2⟩ := zc5_3 (w := w100) BK189.out; obtain ⟨hcz102_0, hcz102_1, hcz102_2, hcz102_3, hcz102_4, hfz102_0, hfz102_1, hfz102_2, hfz102_3, hfz102_4⟩ := zc5_5 (w := w100) BK211.out) | ((with_reducible refine gate_callee (f := 79) rfl ?_); refine goesL_ (some 55) rfl rfl Try.func79 (by kernel_rfl) rfl #[.agg #[.slice A1_0 l1_0.length c1_0, .int .i64 a1_1, .int .i64 a1_2], .agg #[.int .i64 t205, .int .i64 t206, .int .i64 t207, .int .i64 t208, .int .i64 t209], .int .i64 0] rfl zT5 ?_; (with_reducible refine (spec_Work.calls kj3 _ _ l1_0 a1_1 a1_2 t205 t206 t207 t208 t209 0 t222 t225 t226 t227 _ ?side1 ?side2 A87.out).mono ?_); (case side1 => exact zC5 (Kd.C_below HR1_0.out HB.out)); (case side2 => exact HC1_0.out); rintro e w103 ⟨v223, rfl, ho0, hb⟩; refine ⟨_, rfl, ?_⟩; have n0_ := Aside0.mk (Kd.R_elder' (zR5 HO_6.out) (Kd.R_base ho0) hb); have n1_ := Aside0.mk (Kd.R_lower (Kd.R_new' ho0 (Kd.R_lt (zR5 HO_6.out))) (below_size (zB5_3))); have n2_ := Aside0.mk (zb5 BK189.out hb); have n3_ := Aside0.mk (zb5 BK190.out hb); have n4_ := Aside0.mk (zb5 BK211.out hb); have n5_ := Aside0.mk (below_step (zB5_3) hb); clear HO_6; clear BK189; clear BK190; clear BK211; clear HB; have HO_6 := n0_; have HO224 := n1_; have BK189 := n2_; have BK190 := n3_; have BK211 := n4_; have HB := n5_; clear n0_ n1_ n2_ n3_ n4_ n5_; (try clear hb); (try clear hb2); (try clear hk); (try clear hi); (try clear ho0)) | ((with_reducible refine gate_dst (N := 11) rfl ?_); refine box_event ?hg (N := 11) ?hd (cs := #[.slice none 0 0, .int .i64 0, .int .i64 0]) (t := 49) ?hr ?_; (case hd => rfl); (case hg => rfl); (case hr => first | (go_simp; done) | (go_simp; rfl)); intro gb228 hg w104 hbox hb; have n0_ := Aside0.mk (Kd.R_below (zR5 HO_6.out) hb); have n1_ := Aside0.mk (Kd.R_below (zR5 HO224.out) hb); have n2_ := Aside0.mk (zb5 BK189.out hb); have n3_ := Aside0.mk (zb5 BK190.out hb); have n4_ := Aside0.mk (zb5 BK211.out hb); have n5_ := Aside0.mk (below_step (zB5_3) hb); have n6_ := Aside0.mk (hbox); have n7_ := Aside0.mk ((by rw [hg]; exact (below_size (zB5_3)) : w.heap.size ≤ gb228)); have n8_ := Aside0.mk ((by rw [hg]; exact (below_size (zB5_3)) : w.heap.size ≤ gb228)); have n9_ := Aside0.mk ((zn5 BK189.out hg : gb189 ≠ gb228)); have n10_ := Aside0.mk ((zm5 BK189.out hg : gb228 ≠ gb189)); have n11_ := Aside0.mk ((zn5 BK190.out hg : gb190 ≠ gb228)); have n12_ := Aside0.mk ((zm5 BK190.out hg : gb228 ≠ gb190)); have n13_ := Aside0.mk ((zn5 BK211.out hg : gb211 ≠ gb228)); have n14_ := Aside0.mk ((zm5 BK211.out hg : gb228 ≠ gb211)); clear HO_6; clear HO224; clear BK189; clear BK190; clear BK211; clear HB; have HO_6 := n0_; have HO224 := n1_; have BK189 := n2_; have BK190 := n3_; have BK211 := n4_; have HB := n5_; have BK228 := n6_; have GW228 := n7_; have GE228 := n8_; have NB189_228 := n9_; have NB228_189 := n10_; have NB190_228 := n11_; have NB228_190 := n12_; have NB211_228 := n13_; have NB228_211 := n14_; clear n0_ n1_ n2_ n3_ n4_ n5_ n6_ n7_ n8_ n9_ n10_ n11_ n12_ n13_ n14_; clear hb hbox hg; obtain ⟨Ao105, co105, eo105⟩ := Kd.R_slice HO224.out; subst eo105; have hnb106 := NB228_189.out; have hnc106 := NB189_228.out; have hnb107 := NB228_190.out; have hnc107 := NB190_228.out; have hnb108 := NB228_211.out; have hnc108 := NB211_228.out; obtain ⟨hcz109_0, hcz109_1, hcz109_2, hfz109_0, hfz109_1, hfz109_2⟩ := zc5_3 (w := w104) BK228.out) | ((with_reducible refine gate_store (t := 49) (p := 11) rfl ?_); refine store_event (t := 49) (p := 11) (v := ?vo_w110) (w1 := (((w104.setCell ⟨gb228, 0, none⟩ (.slice Ao105 t222.length co105)).setCell ⟨gb228, 1, none⟩ (.int .i64 t225)).setCell ⟨gb228, 2, none⟩ (.int .i64 t226))) ?hg ?ho ?hn ?hr ?_; (case ho => rfl); (case hg => rfl); (case hn => rfl); (case hr => first | (go_simp; done) | (go_simp; rfl)); intro w110 hw; have n0_ : Aside0 (Kd.R (Kd.int .i64) 3 w110 w.heap.size (fun k_ => some k_ ≠ (.slice Ao105 t222.length co105 : Value).ownBlock) v195 y194) := ⟨(by rw [hw]; exact (by (with_reducible repeat (first | apply Kd.R_alloc | apply Kd.R_drewN | apply Kd.R_drew)); exact Kd.R_mono (Kd.R_far (p := ⟨gb228, 2, none⟩) (Kd.R_far (p := ⟨gb228, 1, none⟩) (Kd.R_far (p := ⟨gb228, 0, none⟩) (Kd.R_types HO_6.out BK228.out (by decide)) (fun _ hk => hk.2) (.slice Ao105 t222.length co105)) (fun _ hk => hk.2) (.int .i64 t225)) (fun _ hk => hk.2) (.int .i64 t226)) (fun _ hk => hk.1.2)))⟩; have n1_ : Aside0 (Kd.R (Kd.int .i64) 3 w110 w.heap.size (fun k_ => some k_ ≠ (v195 : Value).ownBlock) (.slice Ao105 t222.length co105) t222) := ⟨(by rw [hw]; exact (by (with_reducible repeat (first | apply Kd.R_alloc | apply Kd.R_drewN | apply Kd.R_drew)); exact Kd.R_mono (Kd.R_far (p := ⟨gb228, 2, none⟩) (Kd.R_far (p := ⟨gb228, 1, none⟩) (Kd.R_far (p := ⟨gb228, 0, none⟩) (Kd.R_types HO224.out BK228.out (by decide)) (fun _ hk => hk.2) (.slice Ao105 t222.length co105)) (fun _ hk => hk.2) (.int .i64 t225)) (fun _ hk => hk.2) (.int .i64 t226)) (fun _ hk => hk.1.2)))⟩; have n2_ : Aside0 (w110.heap[gb189]? = some (.cells #[.slice A1_0 l1_0.length c1_0, .int .i64 a1_1, .int .i64 a1_2] 49 (0, 0))) := ⟨(by rw [hw]; exact (by refine zP5 ?_; refine blk_far ?_ NB189_228.out _; refine zP5 ?_; refine blk_far ?_ NB189_228.out _; refine zP5 ?_; refine blk_far ?_ NB189_228.out _; refine zP5 ?_; exact BK189.out))⟩; have n3_ : Aside0 (w110.heap[gb190]? = some (.cells #[.slice none 0 0, .int .i64 0, .int .i64 0] 49 (0, 0))) := ⟨(by rw [hw]; exact (by refine zP5 ?_; refine blk_far ?_ NB190_228.out _; refine zP5 ?_; refine blk_far ?_ NB190_228.out _; refine zP5 ?_; refine blk_far ?_ NB190_228.out _; refine zP5 ?_; exact BK190.out))⟩; have n4_ : Aside0 (w110.heap[gb211]? = some (.cells #[.int .i64 t205, .int .i64 t206, .int .i64 t207, .int .i64 t208, .int .i64 t209] 71 (0, 0))) := ⟨(by rw [hw]; exact (by refine zP5 ?_; refine blk_far ?_ NB211_228.out _; refine zP5 ?_; refine blk_far ?_ NB211_228.out _; refine zP5 ?_; refine blk_far ?_ NB211_228.out _; refine zP5 ?_; exact BK211.out))⟩; have n5_ : Aside0 (w110.heap[gb228]? = some (.cells #[.slice Ao105 t222.length co105, .int .i64 t225, .int .i64 t226] 49 (0, 0))) := ⟨(by rw [hw]; exact (by refine zP5 ?_; refine blk_put (cs := #[.slice Ao105 t222.length co105, .int .i64 t225, .int .i64 0]) ?_ 2 _ rfl; refine zP5 ?_; refine blk_put (cs := #[.slice Ao105 t222.length co105, .int .i64 0, .int .i64 0]) ?_ 1 _ rfl; refine zP5 ?_; refine blk_put (cs := #[.slice none 0 0, .int .i64 0, .int .i64 0]) ?_ 0 _ rfl; refine zP5 ?_; exact BK228.out))⟩; have n6_ : Aside0 (Below w.heap.size w w110) := ⟨(by rw [hw]; exact (zB5_5))⟩; clear hw; clear HO_6; clear HO224; clear BK189; clear BK190; clear BK211; clear BK228; clear HB; have HO_6 := n0_; have HO224 := n1_; have BK189 := n2_; have BK190 := n3_; have BK211 := n4_; have BK228 := n5_; have HB := n6_; clear n0_ n1_ n2_ n3_ n4_ n5_ n6_; have p91 : 0 ≤ (t212 : Int) := zA5; have q91 : (t212 : Int) < ((y194.length : Int) : Int) := zA5; obtain ⟨go91, co91, eo91, gb91, gl91, cl91, HG91⟩ := Kd.R_form HO_6.out (by omega); (first | cases eo91 | (injection eo91 with ea_ en_ ec_; (first | subst ea_ | (injection ea_ with ea_; subst ea_)); subst ec_; clear en_)); have GB91 := Aside0.mk gb91; have GG91 := Aside0.mk HG91; clear gb91 gl91 HG91; obtain ⟨hx91_0, hf91_0⟩ := Kd.R_celln 0 HO_6.out (t212 : Int) p91 q91; replace p91 := eq_true p91; replace q91 := eq_true q91; obtain ⟨hy111_, hz111_⟩ := Kd.R_celln 0 HO_6.out (t212 : Int) (zA5) (zA5); have HP111 := Kd.R_putg HO_6.out (t212 : Int) t227) | ((with_reducible refine gate_store (t := 3) (p := 63) rfl ?_); refine store_event (t := 3) (p := 63) (v := ?vo_w112) (w1 := (w110.setCell ⟨go91, (t212 : Int).toNat, none⟩ (.int .i64 t227))) ?hg ?ho ?hn ?hr ?_; (case ho => rfl); (case hg => rfl); (case hn => rfl); (case hr => first | (go_simp; done) | (go_simp; rfl)); intro w112 hw; have hg : w110.grownBy w112 (some go91) := (by rw [hw]; exact HP111.2); have hp_ : Kd.R (Kd.int .i64) 3 w112 w.heap.size (fun k_ => some k_ ≠ (.slice Ao105 t222.length co105 : Value).ownBlock) (.slice (some ⟨go91, 0, none⟩) y194.length co91) y229 := (by rw [hw, Ny229.out]; exact HP111.1); clear HP111; have n0_ := Aside0.mk (hp_); have n1_ := Aside0.mk (zg5 BK189.out hg (Kd.R_ne HO_6.out BK189.out (by decide))); have n2_ := Aside0.mk (zg5 BK190.out hg (Kd.R_ne HO_6.out BK190.out (by decide))); have n3_ := Aside0.mk (zg5 BK211.out hg (Kd.R_ne HO_6.out BK211.out (by decide))); have n4_ := Aside0.mk (Kd.R_after (v := (.slice (some ⟨go91, 0, none⟩) y194.length co91)) (v1 := (.slice (some ⟨go91, 0, none⟩) y194.length co91)) (ok := (fun _ => True)) (by (with_reducible repeat (first | apply Kd.R_alloc | apply Kd.R_drewN | apply Kd.R_drew)); exact Kd.R_mono HO224.out (fun _ hk => ⟨trivial, hk⟩)) hg (.inl rfl)); have n5_ := Aside0.mk (zg5 BK228.out hg (Kd.R_ne HO_6.out BK228.out (by decide))); have n6_ := Aside0.mk ((by rw [hw]; exact below_set (HB.out) GB91.out : Below w.heap.size w w112)); clear HO_6; clear BK189; clear BK190; clear BK211; clear HO224; clear BK228; clear HB; have HO_6 := n0_; have BK189 := n1_; have BK190 := n2_; have BK211 := n3_; have HO224 := n4_; have BK228 := n5_; have HB := n6_; clear n0_ n1_ n2_ n3_ n4_ n5_ n6_; clear hg hw hp_))
    have n0_ := Aside0.mk (Kd.R_drew HO_6.out)
    have n1_ := Aside0.mk (Kd.R_drew HO224.out)
    have n2_ := Aside0.mk (blk_drew BK189.out)
    have n3_ := Aside0.mk (blk_drew BK190.out)
    have n4_ := Aside0.mk (blk_drew BK211.out)
    have n5_ := Aside0.mk (blk_drew BK228.out)
    have n6_ := Aside0.mk (below_drew1 HB.out)
    clear HO_6 HO224 BK189 BK190 BK211 BK228 HB
    have HO_6 := n0_
    have HO224 := n1_
    have BK189 := n2_
    have BK190 := n3_
    have BK211 := n4_
    have BK228 := n5_
    have HB := n6_
    clear n0_ n1_ n2_ n3_ n4_ n5_ n6_
    refine start_ (n := 4) (S := fun w' => w'.cell? ⟨gb228, 0, none⟩ = some (.slice Ao105 t222.length co105) ∧ w'.cell? ⟨gb228, 1, none⟩ = some (.int .i64 t225) ∧ w'.cell? ⟨gb228, 2, none⟩ = some (.int .i64 t226)) (ds := []) #[false, false, false, false] (by kernel_rfl) rfl rfl ⟨(blk_cell BK228.out 0).trans rfl, (blk_cell BK228.out 1).trans rfl, (blk_cell BK228.out 2).trans rfl⟩ (fun hHeld => ?_)
    generalize w112.drew = w113 at HO_6 HO224 BK189 BK190 BK211 BK228 HB hHeld ⊢
    refine pure_ (i := 0) (N := some 64) (v := ?_) (a' := ?_) #[true, false, false, false] rfl rfl (by kernel_rfl) (fun _ _ _ h => h) (Or.inl ⟨by rfl, ?_⟩) ?_ ?_
    rotate_left
    ·intro w'
     go_simp
     with_reducible rfl
    rotate_left
    ·exact zV5
    refine pure_ (i := 2) (N := some 4) (v := ?_) (a' := ?_) #[true, false, true, false] rfl rfl (by kernel_rfl) (fun _ _ _ h => h) (Or.inl ⟨by rfl, ?_⟩) ?_ ?_
    rotate_left
    ·intro w'
     go_simp
     with_reducible rfl
    rotate_left
    ·exact zV5
    refine take_ (i := 1) (N := some 65) (v := ?_) (a' := ?_) #[true, true, true, false] rfl rfl (by kernel_rfl) (fun _ _ _ h => h) (Or.inl ⟨by rfl, ?_⟩) hHeld ?_ ?_
    rotate_left
    ·rintro w' ⟨s0, s1, s2⟩
     go_simp
     with_reducible rfl
    rotate_left
    ·exact zV5
    refine one_ (i := 3) (N := none) #[true, true, true, true] rfl rfl (by kernel_rfl) (by decide) (fun K hK => ?_)
    have hs114 : w113.cell? ⟨gb190, 0, none⟩ = some (.slice none 0 0) := (blk_cell BK190.out 0).trans rfl
    have hfs114 := blk_frozen BK190.out 0
    have hns114_0 := NB189_190.out
    have hns114_2 := NB211_190.out
    have hns114_3 := NB228_190.out
    have hms114_0 := NB190_189.out
    have hms114_2 := NB190_211.out
    have hms114_3 := NB190_228.out
    have hs115 : w113.cell? ⟨gb190, 1, none⟩ = some (.int .i64 0) := (blk_cell BK190.out 1).trans rfl
    have hfs115 := blk_frozen BK190.out 1
    have hns115_0 := NB189_190.out
    have hns115_2 := NB211_190.out
    have hns115_3 := NB228_190.out
    have hms115_0 := NB190_189.out
    have hms115_2 := NB190_211.out
    have hms115_3 := NB190_228.out
    have hs116 : w113.cell? ⟨gb190, 2, none⟩ = some (.int .i64 0) := (blk_cell BK190.out 2).trans rfl
    have hfs116 := blk_frozen BK190.out 2
    have hns116_0 := NB189_190.out
    have hns116_2 := NB211_190.out
    have hns116_3 := NB228_190.out
    have hms116_0 := NB190_189.out
    have hms116_2 := NB190_211.out
    have hms116_3 := NB190_228.out
    refine skip_ (w1 := ?_) (by rfl) rfl ?_ ?_
    rotate_left
    ·go_simp
     rfl
    refine hK.out _ _ ⟨((cell_far (p := ⟨gb190, _, none⟩) NB228_190.out _).trans (((cell_far (p := ⟨gb190, _, none⟩) NB228_190.out _).trans (((cell_far (p := ⟨gb190, _, none⟩) NB228_190.out _).trans (hHeld.1)))))), ((cell_far (p := ⟨gb190, _, none⟩) NB228_190.out _).trans (((cell_far (p := ⟨gb190, _, none⟩) NB228_190.out _).trans (((cell_far (p := ⟨gb190, _, none⟩) NB228_190.out _).trans (hHeld.2.1)))))), ((cell_far (p := ⟨gb190, _, none⟩) NB228_190.out _).trans (((cell_far (p := ⟨gb190, _, none⟩) NB228_190.out _).trans (((cell_far (p := ⟨gb190, _, none⟩) NB228_190.out _).trans (hHeld.2.2))))))⟩ (fun hHeld => ?_)
    clear hK K
    refine done_ (by kernel_rfl) ?_
    try go_wp2
    refine bodyPost_ret (results_tc rfl _ _ gb190 49 #[.slice Ao105 t222.length co105, .int .i64 t225, .int .i64 t226] (0, 0) _ rfl (by refine zP5 ?_; refine blk_put (cs := #[.slice Ao105 t222.length co105, .int .i64 t225, .int .i64 0]) ?_ 2 _ rfl; refine zP5 ?_; refine blk_put (cs := #[.slice Ao105 t222.length co105, .int .i64 0, .int .i64 0]) ?_ 1 _ rfl; refine zP5 ?_; refine blk_put (cs := #[.slice none 0 0, .int .i64 0, .int .i64 0]) ?_ 0 _ rfl; refine zP5 ?_; exact BK190.out) Try.underlying49 rfl (by kernel_rfl)) rfl ?_
    exact ⟨_, _, zE5, by (with_reducible repeat (first | apply Kd.R_alloc | apply Kd.R_drewN | apply Kd.R_drew)); exact Kd.R_mono (Kd.R_far (p := ⟨gb190, 2, none⟩) (Kd.R_far (p := ⟨gb190, 1, none⟩) (Kd.R_far (p := ⟨gb190, 0, none⟩) (Kd.R_types HO_6.out BK190.out (by decide)) (fun _ hk => hk.2) (.slice Ao105 t222.length co105)) (fun _ hk => hk.2) (.int .i64 t225)) (fun _ hk => hk.2) (.int .i64 t226)) (fun _ hk => hk.1), by (with_reducible repeat (first | apply Kd.R_alloc | apply Kd.R_drewN | apply Kd.R_drew)); exact Kd.R_mono (Kd.R_far (p := ⟨gb190, 2, none⟩) (Kd.R_far (p := ⟨gb190, 1, none⟩) (Kd.R_far (p := ⟨gb190, 0, none⟩) (Kd.R_types HO224.out BK190.out (by decide)) (fun _ hk => hk.2) (.slice Ao105 t222.length co105)) (fun _ hk => hk.2) (.int .i64 t225)) (fun _ hk => hk.2) (.int .i64 t226)) (fun _ hk => hk.1.2), zB5_5⟩
   rw [if_pos c32] at H
   have c32b0 : decide (0 ≤ t212) = true := decide_eq_true c32
   clear c32
   by_cases c33 : 0 ≤ t212
   rotate_left
   ·rw [if_neg c33] at H
    exact absurd H (by simp)
   rw [if_pos c33] at H
   have c33b0 : decide (0 ≤ t212) = true := decide_eq_true c33
   clear c33
   by_cases c34 : t212 < (l0.length : Int)
   rotate_left
   ·rw [if_neg c34] at H
    exact absurd H (by simp)
   rw [if_pos c34] at H
   have c34b0 : decide (t212 < (l0.length : Int)) = true := decide_eq_true c34
   clear c34
   replace H := Option.bind_eq_some_iff.mp H
   obtain ⟨⟨t214, t217, t218, t219⟩, A350, H⟩ := H
   replace H : (if t219 ≥ 0 then (if t212 < (y194.length : Int) then (some ((y194.set (t212 : Int).toNat t219), t214, t217, t218)) else (none)) else (some (y194, t214, t217, t218))) = some (r1, r2, r3, r4) := H
   have A35 := Aside0.mk A350
   clear A350
   by_cases c36 : t219 ≥ 0
   rotate_left
   ·rw [if_neg c36] at H
    have c36b0 : decide (0 ≤ t219) = false := decide_eq_false c36
    clear c36
    simp only [Option.some.injEq, Prod.mk.injEq] at H
    obtain ⟨rfl, rfl, rfl, rfl⟩ := H
    have hnb64 := NB189_190.out
    have hnc64 := NB190_189.out
    obtain ⟨hcz65_0, hcz65_1, hcz65_2, hfz65_0, hfz65_1, hfz65_2⟩ := zc5_3 (w := wc) BK189.out
    have p204 : 0 ≤ (a1_1 : Int) := zA5
    have q204 : a1_1 < (l0.length : Int) := zA5
    obtain ⟨ad204, e204, hx204_0⟩ := Kd.at_int HR0.out a1_1 p204 q204
    cases e204
    replace hx204_0 := (HB.out.cell (World.block_lt_of_cell? w _ hx204_0)).trans hx204_0
    replace p204 := eq_true p204
    replace q204 := eq_true q204
    try go_wp2_with (first | ((with_reducible refine gate_callee (f := 77) rfl ?_); refine goesL_ (some 38) rfl rfl Try.func77 (by kernel_rfl) rfl #[.int .i64 (rd l0 a1_1)] rfl zT5 ?_; (with_reducible refine (spec_Decode.calls (rd l0 a1_1) t205 t206 t207 t208 t209 t210 _ A30.out).mono ?_); rintro e w66 ⟨rfl, hb⟩; refine ⟨_, rfl, ?_⟩; have n0_ := Aside0.mk (Kd.R_below (zR5 HO_6.out) hb); have n1_ := Aside0.mk (zb5 BK189.out hb); have n2_ := Aside0.mk (zb5 BK190.out hb); have n3_ := Aside0.mk (below_step (zB5_2) hb); clear HO_6; clear BK189; clear BK190; clear HB; have HO_6 := n0_; have BK189 := n1_; have BK190 := n2_; have HB := n3_; clear n0_ n1_ n2_ n3_; (try clear hb); (try clear hb2); (try clear hk); (try clear hi)) | ((with_reducible refine gate_dst (N := 7) rfl ?_); refine box_event ?hg (N := 7) ?hd (cs := #[.int .i64 0, .int .i64 0, .int .i64 0, .int .i64 0, .int .i64 0]) (t := 71) ?hr ?_; (case hd => rfl); (case hg => rfl); (case hr => first | (go_simp; done) | (go_simp; rfl)); intro gb211 hg w67 hbox hb; have n0_ := Aside0.mk (Kd.R_below (zR5 HO_6.out) hb); have n1_ := Aside0.mk (zb5 BK189.out hb); have n2_ := Aside0.mk (zb5 BK190.out hb); have n3_ := Aside0.mk (below_step (zB5_2) hb); have n4_ := Aside0.mk (hbox); have n5_ := Aside0.mk ((by rw [hg]; exact (below_size (zB5_2)) : w.heap.size ≤ gb211)); have n6_ := Aside0.mk ((by rw [hg]; exact (below_size (zB5_2)) : w.heap.size ≤ gb211)); have n7_ := Aside0.mk ((zn5 BK189.out hg : gb189 ≠ gb211)); have n8_ := Aside0.mk ((zm5 BK189.out hg : gb211 ≠ gb189)); have n9_ := Aside0.mk ((zn5 BK190.out hg : gb190 ≠ gb211)); have n10_ := Aside0.mk ((zm5 BK190.out hg : gb211 ≠ gb190)); clear HO_6; clear BK189; clear BK190; clear HB; have HO_6 := n0_; have BK189 := n1_; have BK190 := n2_; have HB := n3_; have BK211 := n4_; have GW211 := n5_; have GE211 := n6_; have NB189_211 := n7_; have NB211_189 := n8_; have NB190_211 := n9_; have NB211_190 := n10_; clear n0_ n1_ n2_ n3_ n4_ n5_ n6_ n7_ n8_ n9_ n10_; clear hb hbox hg; have hnb68 := NB211_189.out; have hnc68 := NB189_211.out; have hnb69 := NB211_190.out; have hnc69 := NB190_211.out; obtain ⟨hcz70_0, hcz70_1, hcz70_2, hcz70_3, hcz70_4, hfz70_0, hfz70_1, hfz70_2, hfz70_3, hfz70_4⟩ := zc5_5 (w := w67) BK211.out; obtain ⟨hcz71_0, hcz71_1, hcz71_2, hfz71_0, hfz71_1, hfz71_2⟩ := zc5_3 (w := w67) BK189.out) | ((with_reducible refine gate_callee (f := 78) rfl ?_); refine goesL_ (some 44) rfl rfl Try.func78 (by kernel_rfl) rfl #[.agg #[.int .i64 t205, .int .i64 t206, .int .i64 t207, .int .i64 t208, .int .i64 t209], .slice A1_0 l1_0.length c1_0] rfl zT5 ?_; (with_reducible refine (spec_Target.calls t205 t206 t207 t208 t209 _ _ l1_0 t212 _ ?side1 ?side2 A31.out).mono ?_); (case side1 => exact Kd.C_below HR1_0.out (zB5_3)); (case side2 => exact HC1_0.out); rintro e w72 ⟨rfl, hb⟩; refine ⟨_, rfl, ?_⟩; have n0_ := Aside0.mk (Kd.R_below (by (with_reducible repeat (first | apply Kd.R_alloc | apply Kd.R_drewN | apply Kd.R_drew)); exact (Kd.R_mono (Kd.R_far (p := ⟨gb211, 4, none⟩) (Kd.R_far (p := ⟨gb211, 3, none⟩) (Kd.R_far (p := ⟨gb211, 2, none⟩) (Kd.R_far (p := ⟨gb211, 1, none⟩) (Kd.R_far (p := ⟨gb211, 0, none⟩) (Kd.R_types HO_6.out BK211.out (by decide)) (fun _ hk => hk.2) (.int .i64 t205)) (fun _ hk => hk.2) (.int .i64 t206)) (fun _ hk => hk.2) (.int .i64 t207)) (fun _ hk => hk.2) (.int .i64 t208)) (fun _ hk => hk.2) (.int .i64 t209)) (fun _ h_ => h_.1))) hb); have n1_ := Aside0.mk (blk_below (g := gb189) (o := .cells #[.slice A1_0 l1_0.length c1_0, .int .i64 a1_1, .int .i64 a1_2] 49 (0, 0)) (by refine zP5 ?_; refine blk_far ?_ NB189_211.out _; refine zP5 ?_; refine blk_far ?_ NB189_211.out _; refine zP5 ?_; refine blk_far ?_ NB189_211.out _; refine zP5 ?_; refine blk_far ?_ NB189_211.out _; refine zP5 ?_; refine blk_far ?_ NB189_211.out _; refine zP5 ?_; exact BK189.out) hb); have n2_ := Aside0.mk (blk_below (g := gb190) (o := .cells #[.slice none 0 0, .int .i64 0, .int .i64 0] 49 (0, 0)) (by refine zP5 ?_; refine blk_far ?_ NB190_211.out _; refine zP5 ?_; refine blk_far ?_ NB190_211.out _; refine zP5 ?_; refine blk_far ?_ NB190_211.out _; refine zP5 ?_; refine blk_far ?_ NB190_211.out _; refine zP5 ?_; refine blk_far ?_ NB190_211.out _; refine zP5 ?_; exact BK190.out) hb); have n3_ := Aside0.mk (blk_below (g := gb211) (o := .cells #[.int .i64 t205, .int .i64 t206, .int .i64 t207, .int .i64 t208, .int .i64 t209] 71 (0, 0)) (by refine zP5 ?_; refine blk_put (cs := #[.int .i64 t205, .int .i64 t206, .int .i64 t207, .int .i64 t208, .int .i64 0]) ?_ 4 _ rfl; refine zP5 ?_; refine blk_put (cs := #[.int .i64 t205, .int .i64 t206, .int .i64 t207, .int .i64 0, .int .i64 0]) ?_ 3 _ rfl; refine zP5 ?_; refine blk_put (cs := #[.int .i64 t205, .int .i64 t206, .int .i64 0, .int .i64 0, .int .i64 0]) ?_ 2 _ rfl; refine zP5 ?_; refine blk_put (cs := #[.int .i64 t205, .int .i64 0, .int .i64 0, .int .i64 0, .int .i64 0]) ?_ 1 _ rfl; refine zP5 ?_; refine blk_put (cs := #[.int .i64 0, .int .i64 0, .int .i64 0, .int .i64 0, .int .i64 0]) ?_ 0 _ rfl; refine zP5 ?_; exact BK211.out) hb); have n4_ := Aside0.mk (below_step (zB5_3) hb); clear HO_6; clear BK189; clear BK190; clear BK211; clear HB; have HO_6 := n0_; have BK189 := n1_; have BK190 := n2_; have BK211 := n3_; have HB := n4_; clear n0_ n1_ n2_ n3_ n4_; (try clear hb); (try clear hb2); (try clear hk); (try clear hi); have p213 : 0 ≤ (t212 : Int) := zA5; have q213 : t212 < (l0.length : Int) := zA5; obtain ⟨ad213, e213, hx213_0⟩ := Kd.at_int HR0.out t212 p213 q213; obtain rfl : ad204 = ad213 := (by injection e213); replace hx213_0 := (HB.out.cell (World.block_lt_of_cell? w _ hx213_0)).trans hx213_0; replace p213 := eq_true p213; replace q213 := eq_true q213; obtain ⟨hcz73_0, hcz73_1, hcz73_2, hfz73_0, hfz73_1, hfz73_2⟩ := zc5_3 (w := w72) BK189.out; obtain ⟨hcz74_0, hcz74_1, hcz74_2, hcz74_3, hcz74_4, hfz74_0, hfz74_1, hfz74_2, hfz74_3, hfz74_4⟩ := zc5_5 (w := w72) BK211.out) | ((with_reducible refine gate_callee (f := 79) rfl ?_); refine goesL_ (some 55) rfl rfl Try.func79 (by kernel_rfl) rfl #[.agg #[.slice A1_0 l1_0.length c1_0, .int .i64 a1_1, .int .i64 a1_2], .agg #[.int .i64 t205, .int .i64 t206, .int .i64 t207, .int .i64 t208, .int .i64 t209], .int .i64 (rd l0 t212)] rfl zT5 ?_; (with_reducible refine (spec_Work.calls kj3 _ _ l1_0 a1_1 a1_2 t205 t206 t207 t208 t209 (rd l0 t212) t214 t217 t218 t219 _ ?side1 ?side2 A35.out).mono ?_); (case side1 => exact zC5 (Kd.C_below HR1_0.out HB.out)); (case side2 => exact HC1_0.out); rintro e w75 ⟨v215, rfl, ho0, hb⟩; refine ⟨_, rfl, ?_⟩; have n0_ := Aside0.mk (Kd.R_elder' (zR5 HO_6.out) (Kd.R_base ho0) hb); have n1_ := Aside0.mk (Kd.R_lower (Kd.R_new' ho0 (Kd.R_lt (zR5 HO_6.out))) (below_size (zB5_3))); have n2_ := Aside0.mk (zb5 BK189.out hb); have n3_ := Aside0.mk (zb5 BK190.out hb); have n4_ := Aside0.mk (zb5 BK211.out hb); have n5_ := Aside0.mk (below_step (zB5_3) hb); clear HO_6; clear BK189; clear BK190; clear BK211; clear HB; have HO_6 := n0_; have HO216 := n1_; have BK189 := n2_; have BK190 := n3_; have BK211 := n4_; have HB := n5_; clear n0_ n1_ n2_ n3_ n4_ n5_; (try clear hb); (try clear hb2); (try clear hk); (try clear hi); (try clear ho0)) | ((with_reducible refine gate_dst (N := 11) rfl ?_); refine box_event ?hg (N := 11) ?hd (cs := #[.slice none 0 0, .int .i64 0, .int .i64 0]) (t := 49) ?hr ?_; (case hd => rfl); (case hg => rfl); (case hr => first | (go_simp; done) | (go_simp; rfl)); intro gb220 hg w76 hbox hb; have n0_ := Aside0.mk (Kd.R_below (zR5 HO_6.out) hb); have n1_ := Aside0.mk (Kd.R_below (zR5 HO216.out) hb); have n2_ := Aside0.mk (zb5 BK189.out hb); have n3_ := Aside0.mk (zb5 BK190.out hb); have n4_ := Aside0.mk (zb5 BK211.out hb); have n5_ := Aside0.mk (below_step (zB5_3) hb); have n6_ := Aside0.mk (hbox); have n7_ := Aside0.mk ((by rw [hg]; exact (below_size (zB5_3)) : w.heap.size ≤ gb220)); have n8_ := Aside0.mk ((by rw [hg]; exact (below_size (zB5_3)) : w.heap.size ≤ gb220)); have n9_ := Aside0.mk ((zn5 BK189.out hg : gb189 ≠ gb220)); have n10_ := Aside0.mk ((zm5 BK189.out hg : gb220 ≠ gb189)); have n11_ := Aside0.mk ((zn5 BK190.out hg : gb190 ≠ gb220)); have n12_ := Aside0.mk ((zm5 BK190.out hg : gb220 ≠ gb190)); have n13_ := Aside0.mk ((zn5 BK211.out hg : gb211 ≠ gb220)); have n14_ := Aside0.mk ((zm5 BK211.out hg : gb220 ≠ gb211)); clear HO_6; clear HO216; clear BK189; clear BK190; clear BK211; clear HB; have HO_6 := n0_; have HO216 := n1_; have BK189 := n2_; have BK190 := n3_; have BK211 := n4_; have HB := n5_; have BK220 := n6_; have GW220 := n7_; have GE220 := n8_; have NB189_220 := n9_; have NB220_189 := n10_; have NB190_220 := n11_; have NB220_190 := n12_; have NB211_220 := n13_; have NB220_211 := n14_; clear n0_ n1_ n2_ n3_ n4_ n5_ n6_ n7_ n8_ n9_ n10_ n11_ n12_ n13_ n14_; clear hb hbox hg; obtain ⟨Ao77, co77, eo77⟩ := Kd.R_slice HO216.out; subst eo77; have hnb78 := NB220_189.out; have hnc78 := NB189_220.out; have hnb79 := NB220_190.out; have hnc79 := NB190_220.out; have hnb80 := NB220_211.out; have hnc80 := NB211_220.out; obtain ⟨hcz81_0, hcz81_1, hcz81_2, hfz81_0, hfz81_1, hfz81_2⟩ := zc5_3 (w := w76) BK220.out))
    have n0_ : Aside0 (Kd.R (Kd.int .i64) 3 (((w76.setCell ⟨gb220, 0, none⟩ (.slice Ao77 t214.length co77)).setCell ⟨gb220, 1, none⟩ (.int .i64 t217)).setCell ⟨gb220, 2, none⟩ (.int .i64 t218)) w.heap.size (fun k_ => some k_ ≠ (.slice Ao77 t214.length co77 : Value).ownBlock) v195 y194) := ⟨by (with_reducible repeat (first | apply Kd.R_alloc | apply Kd.R_drewN | apply Kd.R_drew)); exact Kd.R_mono (Kd.R_far (p := ⟨gb220, 2, none⟩) (Kd.R_far (p := ⟨gb220, 1, none⟩) (Kd.R_far (p := ⟨gb220, 0, none⟩) (Kd.R_types HO_6.out BK220.out (by decide)) (fun _ hk => hk.2) (.slice Ao77 t214.length co77)) (fun _ hk => hk.2) (.int .i64 t217)) (fun _ hk => hk.2) (.int .i64 t218)) (fun _ hk => hk.1.2)⟩
    have n1_ : Aside0 (Kd.R (Kd.int .i64) 3 (((w76.setCell ⟨gb220, 0, none⟩ (.slice Ao77 t214.length co77)).setCell ⟨gb220, 1, none⟩ (.int .i64 t217)).setCell ⟨gb220, 2, none⟩ (.int .i64 t218)) w.heap.size (fun k_ => some k_ ≠ (v195 : Value).ownBlock) (.slice Ao77 t214.length co77) t214) := ⟨by (with_reducible repeat (first | apply Kd.R_alloc | apply Kd.R_drewN | apply Kd.R_drew)); exact Kd.R_mono (Kd.R_far (p := ⟨gb220, 2, none⟩) (Kd.R_far (p := ⟨gb220, 1, none⟩) (Kd.R_far (p := ⟨gb220, 0, none⟩) (Kd.R_types HO216.out BK220.out (by decide)) (fun _ hk => hk.2) (.slice Ao77 t214.length co77)) (fun _ hk => hk.2) (.int .i64 t217)) (fun _ hk => hk.2) (.int .i64 t218)) (fun _ hk => hk.1.2)⟩
    have n2_ : Aside0 ((((w76.setCell ⟨gb220, 0, none⟩ (.slice Ao77 t214.length co77)).setCell ⟨gb220, 1, none⟩ (.int .i64 t217)).setCell ⟨gb220, 2, none⟩ (.int .i64 t218)).heap[gb189]? = some (.cells #[.slice A1_0 l1_0.length c1_0, .int .i64 a1_1, .int .i64 a1_2] 49 (0, 0))) := ⟨by refine zP5 ?_; refine blk_far ?_ NB189_220.out _; refine zP5 ?_; refine blk_far ?_ NB189_220.out _; refine zP5 ?_; refine blk_far ?_ NB189_220.out _; refine zP5 ?_; exact BK189.out⟩
    have n3_ : Aside0 ((((w76.setCell ⟨gb220, 0, none⟩ (.slice Ao77 t214.length co77)).setCell ⟨gb220, 1, none⟩ (.int .i64 t217)).setCell ⟨gb220, 2, none⟩ (.int .i64 t218)).heap[gb190]? = some (.cells #[.slice none 0 0, .int .i64 0, .int .i64 0] 49 (0, 0))) := ⟨by refine zP5 ?_; refine blk_far ?_ NB190_220.out _; refine zP5 ?_; refine blk_far ?_ NB190_220.out _; refine zP5 ?_; refine blk_far ?_ NB190_220.out _; refine zP5 ?_; exact BK190.out⟩
    have n4_ : Aside0 ((((w76.setCell ⟨gb220, 0, none⟩ (.slice Ao77 t214.length co77)).setCell ⟨gb220, 1, none⟩ (.int .i64 t217)).setCell ⟨gb220, 2, none⟩ (.int .i64 t218)).heap[gb211]? = some (.cells #[.int .i64 t205, .int .i64 t206, .int .i64 t207, .int .i64 t208, .int .i64 t209] 71 (0, 0))) := ⟨by refine zP5 ?_; refine blk_far ?_ NB211_220.out _; refine zP5 ?_; refine blk_far ?_ NB211_220.out _; refine zP5 ?_; refine blk_far ?_ NB211_220.out _; refine zP5 ?_; exact BK211.out⟩
    have n5_ : Aside0 ((((w76.setCell ⟨gb220, 0, none⟩ (.slice Ao77 t214.length co77)).setCell ⟨gb220, 1, none⟩ (.int .i64 t217)).setCell ⟨gb220, 2, none⟩ (.int .i64 t218)).heap[gb220]? = some (.cells #[.slice Ao77 t214.length co77, .int .i64 t217, .int .i64 t218] 49 (0, 0))) := ⟨by refine zP5 ?_; refine blk_put (cs := #[.slice Ao77 t214.length co77, .int .i64 t217, .int .i64 0]) ?_ 2 _ rfl; refine zP5 ?_; refine blk_put (cs := #[.slice Ao77 t214.length co77, .int .i64 0, .int .i64 0]) ?_ 1 _ rfl; refine zP5 ?_; refine blk_put (cs := #[.slice none 0 0, .int .i64 0, .int .i64 0]) ?_ 0 _ rfl; refine zP5 ?_; exact BK220.out⟩
    have n6_ : Aside0 (Below w.heap.size w (((w76.setCell ⟨gb220, 0, none⟩ (.slice Ao77 t214.length co77)).setCell ⟨gb220, 1, none⟩ (.int .i64 t217)).setCell ⟨gb220, 2, none⟩ (.int .i64 t218))) := ⟨zB5_4⟩
    (try clear HO_6)
    (try clear HO216)
    (try clear BK189)
    (try clear BK190)
    (try clear BK211)
    (try clear BK220)
    (try clear HB)
    generalize (((w76.setCell ⟨gb220, 0, none⟩ (.slice Ao77 t214.length co77)).setCell ⟨gb220, 1, none⟩ (.int .i64 t217)).setCell ⟨gb220, 2, none⟩ (.int .i64 t218)) = w82 at n0_ n1_ n2_ n3_ n4_ n5_ n6_ ⊢
    have HO_6 := n0_
    have HO216 := n1_
    have BK189 := n2_
    have BK190 := n3_
    have BK211 := n4_
    have BK220 := n5_
    have HB := n6_
    clear n0_ n1_ n2_ n3_ n4_ n5_ n6_
    have n0_ := Aside0.mk (Kd.R_drew HO_6.out)
    have n1_ := Aside0.mk (Kd.R_drew HO216.out)
    have n2_ := Aside0.mk (blk_drew BK189.out)
    have n3_ := Aside0.mk (blk_drew BK190.out)
    have n4_ := Aside0.mk (blk_drew BK211.out)
    have n5_ := Aside0.mk (blk_drew BK220.out)
    have n6_ := Aside0.mk (below_drew1 HB.out)
    clear HO_6 HO216 BK189 BK190 BK211 BK220 HB
    have HO_6 := n0_
    have HO216 := n1_
    have BK189 := n2_
    have BK190 := n3_
    have BK211 := n4_
    have BK220 := n5_
    have HB := n6_
    clear n0_ n1_ n2_ n3_ n4_ n5_ n6_
    refine start_ (n := 4) (S := fun w' => w'.cell? ⟨gb220, 0, none⟩ = some (.slice Ao77 t214.length co77) ∧ w'.cell? ⟨gb220, 1, none⟩ = some (.int .i64 t217) ∧ w'.cell? ⟨gb220, 2, none⟩ = some (.int .i64 t218)) (ds := []) #[false, false, false, false] (by kernel_rfl) rfl rfl ⟨(blk_cell BK220.out 0).trans rfl, (blk_cell BK220.out 1).trans rfl, (blk_cell BK220.out 2).trans rfl⟩ (fun hHeld => ?_)
    generalize w82.drew = w83 at HO_6 HO216 BK189 BK190 BK211 BK220 HB hHeld ⊢
    refine pure_ (i := 0) (N := some 64) (v := ?_) (a' := ?_) #[true, false, false, false] rfl rfl (by kernel_rfl) (fun _ _ _ h => h) (Or.inl ⟨by rfl, ?_⟩) ?_ ?_
    rotate_left
    ·intro w'
     go_simp
     with_reducible rfl
    rotate_left
    ·exact zV5
    refine pure_ (i := 2) (N := some 4) (v := ?_) (a' := ?_) #[true, false, true, false] rfl rfl (by kernel_rfl) (fun _ _ _ h => h) (Or.inl ⟨by rfl, ?_⟩) ?_ ?_
    rotate_left
    ·intro w'
     go_simp
     with_reducible rfl
    rotate_left
    ·exact zV5
    refine take_ (i := 1) (N := some 65) (v := ?_) (a' := ?_) #[true, true, true, false] rfl rfl (by kernel_rfl) (fun _ _ _ h => h) (Or.inl ⟨by rfl, ?_⟩) hHeld ?_ ?_
    rotate_left
    ·rintro w' ⟨s0, s1, s2⟩
     go_simp
     with_reducible rfl
    rotate_left
    ·exact zV5
    refine one_ (i := 3) (N := none) #[true, true, true, true] rfl rfl (by kernel_rfl) (by decide) (fun K hK => ?_)
    have hs84 : w83.cell? ⟨gb190, 0, none⟩ = some (.slice none 0 0) := (blk_cell BK190.out 0).trans rfl
    have hfs84 := blk_frozen BK190.out 0
    have hns84_0 := NB189_190.out
    have hns84_2 := NB211_190.out
    have hns84_3 := NB220_190.out
    have hms84_0 := NB190_189.out
    have hms84_2 := NB190_211.out
    have hms84_3 := NB190_220.out
    have hs85 : w83.cell? ⟨gb190, 1, none⟩ = some (.int .i64 0) := (blk_cell BK190.out 1).trans rfl
    have hfs85 := blk_frozen BK190.out 1
    have hns85_0 := NB189_190.out
    have hns85_2 := NB211_190.out
    have hns85_3 := NB220_190.out
    have hms85_0 := NB190_189.out
    have hms85_2 := NB190_211.out
    have hms85_3 := NB190_220.out
    have hs86 : w83.cell? ⟨gb190, 2, none⟩ = some (.int .i64 0) := (blk_cell BK190.out 2).trans rfl
    have hfs86 := blk_frozen BK190.out 2
    have hns86_0 := NB189_190.out
    have hns86_2 := NB211_190.out
    have hns86_3 := NB220_190.out
    have hms86_0 := NB190_189.out
    have hms86_2 := NB190_211.out
    have hms86_3 := NB190_220.out
    refine skip_ (w1 := ?_) (by rfl) rfl ?_ ?_
    rotate_left
    ·go_simp
     rfl
    refine hK.out _ _ ⟨((cell_far (p := ⟨gb190, _, none⟩) NB220_190.out _).trans (((cell_far (p := ⟨gb190, _, none⟩) NB220_190.out _).trans (((cell_far (p := ⟨gb190, _, none⟩) NB220_190.out _).trans (hHeld.1)))))), ((cell_far (p := ⟨gb190, _, none⟩) NB220_190.out _).trans (((cell_far (p := ⟨gb190, _, none⟩) NB220_190.out _).trans (((cell_far (p := ⟨gb190, _, none⟩) NB220_190.out _).trans (hHeld.2.1)))))), ((cell_far (p := ⟨gb190, _, none⟩) NB220_190.out _).trans (((cell_far (p := ⟨gb190, _, none⟩) NB220_190.out _).trans (((cell_far (p := ⟨gb190, _, none⟩) NB220_190.out _).trans (hHeld.2.2))))))⟩ (fun hHeld => ?_)
    clear hK K
    refine done_ (by kernel_rfl) ?_
    try go_wp2
    refine bodyPost_ret (results_tc rfl _ _ gb190 49 #[.slice Ao77 t214.length co77, .int .i64 t217, .int .i64 t218] (0, 0) _ rfl (by refine zP5 ?_; refine blk_put (cs := #[.slice Ao77 t214.length co77, .int .i64 t217, .int .i64 0]) ?_ 2 _ rfl; refine zP5 ?_; refine blk_put (cs := #[.slice Ao77 t214.length co77, .int .i64 0, .int .i64 0]) ?_ 1 _ rfl; refine zP5 ?_; refine blk_put (cs := #[.slice none 0 0, .int .i64 0, .int .i64 0]) ?_ 0 _ rfl; refine zP5 ?_; exact BK190.out) Try.underlying49 rfl (by kernel_rfl)) rfl ?_
    exact ⟨_, _, zE5, by (with_reducible repeat (first | apply Kd.R_alloc | apply Kd.R_drewN | apply Kd.R_drew)); exact Kd.R_mono (Kd.R_far (p := ⟨gb190, 2, none⟩) (Kd.R_far (p := ⟨gb190, 1, none⟩) (Kd.R_far (p := ⟨gb190, 0, none⟩) (Kd.R_types HO_6.out BK190.out (by decide)) (fun _ hk => hk.2) (.slice Ao77 t214.length co77)) (fun _ hk => hk.2) (.int .i64 t217)) (fun _ hk => hk.2) (.int .i64 t218)) (fun _ hk => hk.1), by (with_reducible repeat (first | apply Kd.R_alloc | apply Kd.R_drewN | apply Kd.R_drew)); exact Kd.R_mono (Kd.R_far (p := ⟨gb190, 2, none⟩) (Kd.R_far (p := ⟨gb190, 1, none⟩) (Kd.R_far (p := ⟨gb190, 0, none⟩) (Kd.R_types HO216.out BK190.out (by decide)) (fun _ hk => hk.2) (.slice Ao77 t214.length co77)) (fun _ hk => hk.2) (.int .i64 t217)) (fun _ hk => hk.2) (.int .i64 t218)) (fun _ hk => hk.1), zB5_4⟩
   rw [if_pos c36] at H
   have c36b0 : decide (0 ≤ t219) = true := decide_eq_true c36
   clear c36
   by_cases c37 : t212 < (y194.length : Int)
   rotate_left
   ·rw [if_neg c37] at H
    exact absurd H (by simp)
   rw [if_pos c37] at H
   have c37b0 : decide (t212 < (y194.length : Int)) = true := decide_eq_true c37
   clear c37
   obtain ⟨y221, hy221⟩ : ∃ y_ : List Int, y_ = (y194.set (t212 : Int).toNat t219) := ⟨_, rfl⟩
   replace H : (some (y221, t214, t217, t218)) = some (r1, r2, r3, r4) := by first | (rw [hy221]; with_reducible exact H) | (have H2_ := (Option.bind_some _ _).symm.trans H; rw [hy221]; with_reducible exact H2_) | (have H2_ := (Option.bind_some _ _).symm.trans H; with_reducible exact H2_) | with_reducible exact H | (rw [hy221]; exact H) | exact H
   have Ny221 := Aside0.mk hy221
   clear hy221
   simp only [Option.some.injEq, Prod.mk.injEq] at H
   obtain ⟨rfl, rfl, rfl, rfl⟩ := H
   have hnb39 := NB189_190.out
   have hnc39 := NB190_189.out
   obtain ⟨hcz40_0, hcz40_1, hcz40_2, hfz40_0, hfz40_1, hfz40_2⟩ := zc5_3 (w := wc) BK189.out
   have p204 : 0 ≤ (a1_1 : Int) := zA5
   have q204 : a1_1 < (l0.length : Int) := zA5
   obtain ⟨ad204, e204, hx204_0⟩ := Kd.at_int HR0.out a1_1 p204 q204
   cases e204
   replace hx204_0 := (HB.out.cell (World.block_lt_of_cell? w _ hx204_0)).trans hx204_0
   replace p204 := eq_true p204
   replace q204 := eq_true q204
   try go_wp2_with (first | ((with_reducible refine gate_callee (f := 77) rfl ?_); refine goesL_ (some 38) rfl rfl Try.func77 (by kernel_rfl) rfl #[.int .i64 (rd l0 a1_1)] rfl zT5 ?_; (with_reducible refine (spec_Decode.calls (rd l0 a1_1) t205 t206 t207 t208 t209 t210 _ A30.out).mono ?_); rintro e w41 ⟨rfl, hb⟩; refine ⟨_, rfl, ?_⟩; have n0_ := Aside0.mk (Kd.R_below (zR5 HO_6.out) hb); have n1_ := Aside0.mk (zb5 BK189.out hb); have n2_ := Aside0.mk (zb5 BK190.out hb); have n3_ := Aside0.mk (below_step (zB5_2) hb); clear HO_6; clear BK189; clear BK190; clear HB; have HO_6 := n0_; have BK189 := n1_; have BK190 := n2_; have HB := n3_; clear n0_ n1_ n2_ n3_; (try clear hb); (try clear hb2); (try clear hk); (try clear hi)) | ((with_reducible refine gate_dst (N := 7) rfl ?_); refine box_event ?hg (N := 7) ?hd (cs := #[.int .i64 0, .int .i64 0, .int .i64 0, .int .i64 0, .int .i64 0]) (t := 71) ?hr ?_; (case hd => rfl); (case hg => rfl); (case hr => first | (go_simp; done) | (go_simp; rfl)); intro gb211 hg w42 hbox hb; have n0_ := Aside0.mk (Kd.R_below (zR5 HO_6.out) hb); have n1_ := Aside0.mk (zb5 BK189.out hb); have n2_ := Aside0.mk (zb5 BK190.out hb); have n3_ := Aside0.mk (below_step (zB5_2) hb); have n4_ := Aside0.mk (hbox); have n5_ := Aside0.mk ((by rw [hg]; exact (below_size (zB5_2)) : w.heap.size ≤ gb211)); have n6_ := Aside0.mk ((by rw [hg]; exact (below_size (zB5_2)) : w.heap.size ≤ gb211)); have n7_ := Aside0.mk ((zn5 BK189.out hg : gb189 ≠ gb211)); have n8_ := Aside0.mk ((zm5 BK189.out hg : gb211 ≠ gb189)); have n9_ := Aside0.mk ((zn5 BK190.out hg : gb190 ≠ gb211)); have n10_ := Aside0.mk ((zm5 BK190.out hg : gb211 ≠ gb190)); clear HO_6; clear BK189; clear BK190; clear HB; have HO_6 := n0_; have BK189 := n1_; have BK190 := n2_; have HB := n3_; have BK211 := n4_; have GW211 := n5_; have GE211 := n6_; have NB189_211 := n7_; have NB211_189 := n8_; have NB190_211 := n9_; have NB211_190 := n10_; clear n0_ n1_ n2_ n3_ n4_ n5_ n6_ n7_ n8_ n9_ n10_; clear hb hbox hg; have hnb43 := NB211_189.out; have hnc43 := NB189_211.out; have hnb44 := NB211_190.out; have hnc44 := NB190_211.out; obtain ⟨hcz45_0, hcz45_1, hcz45_2, hcz45_3, hcz45_4, hfz45_0, hfz45_1, hfz45_2, hfz45_3, hfz45_4⟩ := zc5_5 (w := w42) BK211.out; obtain ⟨hcz46_0, hcz46_1, hcz46_2, hfz46_0, hfz46_1, hfz46_2⟩ := zc5_3 (w := w42) BK189.out) | ((with_reducible refine gate_callee (f := 78) rfl ?_); refine goesL_ (some 44) rfl rfl Try.func78 (by kernel_rfl) rfl #[.agg #[.int .i64 t205, .int .i64 t206, .int .i64 t207, .int .i64 t208, .int .i64 t209], .slice A1_0 l1_0.length c1_0] rfl zT5 ?_; (with_reducible refine (spec_Target.calls t205 t206 t207 t208 t209 _ _ l1_0 t212 _ ?side1 ?side2 A31.out).mono ?_); (case side1 => exact Kd.C_below HR1_0.out (zB5_3)); (case side2 => exact HC1_0.out); rintro e w47 ⟨rfl, hb⟩; refine ⟨_, rfl, ?_⟩; have n0_ := Aside0.mk (Kd.R_below (by (with_reducible repeat (first | apply Kd.R_alloc | apply Kd.R_drewN | apply Kd.R_drew)); exact (Kd.R_mono (Kd.R_far (p := ⟨gb211, 4, none⟩) (Kd.R_far (p := ⟨gb211, 3, none⟩) (Kd.R_far (p := ⟨gb211, 2, none⟩) (Kd.R_far (p := ⟨gb211, 1, none⟩) (Kd.R_far (p := ⟨gb211, 0, none⟩) (Kd.R_types HO_6.out BK211.out (by decide)) (fun _ hk => hk.2) (.int .i64 t205)) (fun _ hk => hk.2) (.int .i64 t206)) (fun _ hk => hk.2) (.int .i64 t207)) (fun _ hk => hk.2) (.int .i64 t208)) (fun _ hk => hk.2) (.int .i64 t209)) (fun _ h_ => h_.1))) hb); have n1_ := Aside0.mk (blk_below (g := gb189) (o := .cells #[.slice A1_0 l1_0.length c1_0, .int .i64 a1_1, .int .i64 a1_2] 49 (0, 0)) (by refine zP5 ?_; refine blk_far ?_ NB189_211.out _; refine zP5 ?_; refine blk_far ?_ NB189_211.out _; refine zP5 ?_; refine blk_far ?_ NB189_211.out _; refine zP5 ?_; refine blk_far ?_ NB189_211.out _; refine zP5 ?_; refine blk_far ?_ NB189_211.out _; refine zP5 ?_; exact BK189.out) hb); have n2_ := Aside0.mk (blk_below (g := gb190) (o := .cells #[.slice none 0 0, .int .i64 0, .int .i64 0] 49 (0, 0)) (by refine zP5 ?_; refine blk_far ?_ NB190_211.out _; refine zP5 ?_; refine blk_far ?_ NB190_211.out _; refine zP5 ?_; refine blk_far ?_ NB190_211.out _; refine zP5 ?_; refine blk_far ?_ NB190_211.out _; refine zP5 ?_; refine blk_far ?_ NB190_211.out _; refine zP5 ?_; exact BK190.out) hb); have n3_ := Aside0.mk (blk_below (g := gb211) (o := .cells #[.int .i64 t205, .int .i64 t206, .int .i64 t207, .int .i64 t208, .int .i64 t209] 71 (0, 0)) (by refine zP5 ?_; refine blk_put (cs := #[.int .i64 t205, .int .i64 t206, .int .i64 t207, .int .i64 t208, .int .i64 0]) ?_ 4 _ rfl; refine zP5 ?_; refine blk_put (cs := #[.int .i64 t205, .int .i64 t206, .int .i64 t207, .int .i64 0, .int .i64 0]) ?_ 3 _ rfl; refine zP5 ?_; refine blk_put (cs := #[.int .i64 t205, .int .i64 t206, .int .i64 0, .int .i64 0, .int .i64 0]) ?_ 2 _ rfl; refine zP5 ?_; refine blk_put (cs := #[.int .i64 t205, .int .i64 0, .int .i64 0, .int .i64 0, .int .i64 0]) ?_ 1 _ rfl; refine zP5 ?_; refine blk_put (cs := #[.int .i64 0, .int .i64 0, .int .i64 0, .int .i64 0, .int .i64 0]) ?_ 0 _ rfl; refine zP5 ?_; exact BK211.out) hb); have n4_ := Aside0.mk (below_step (zB5_3) hb); clear HO_6; clear BK189; clear BK190; clear BK211; clear HB; have HO_6 := n0_; have BK189 := n1_; have BK190 := n2_; have BK211 := n3_; have HB := n4_; clear n0_ n1_ n2_ n3_ n4_; (try clear hb); (try clear hb2); (try clear hk); (try clear hi); have p213 : 0 ≤ (t212 : Int) := zA5; have q213 : t212 < (l0.length : Int) := zA5; obtain ⟨ad213, e213, hx213_0⟩ := Kd.at_int HR0.out t212 p213 q213; obtain rfl : ad204 = ad213 := (by injection e213); replace hx213_0 := (HB.out.cell (World.block_lt_of_cell? w _ hx213_0)).trans hx213_0; replace p213 := eq_true p213; replace q213 := eq_true q213; obtain ⟨hcz48_0, hcz48_1, hcz48_2, hfz48_0, hfz48_1, hfz48_2⟩ := zc5_3 (w := w47) BK189.out; obtain ⟨hcz49_0, hcz49_1, hcz49_2, hcz49_3, hcz49_4, hfz49_0, hfz49_1, hfz49_2, hfz49_3, hfz49_4⟩ := zc5_5 (w := w47) BK211.out) | ((with_reducible refine gate_callee (f := 79) rfl ?_); refine goesL_ (some 55) rfl rfl Try.func79 (by kernel_rfl) rfl #[.agg #[.slice A1_0 l1_0.length c1_0, .int .i64 a1_1, .int .i64 a1_2], .agg #[.int .i64 t205, .int .i64 t206, .int .i64 t207, .int .i64 t208, .int .i64 t209], .int .i64 (rd l0 t212)] rfl zT5 ?_; (with_reducible refine (spec_Work.calls kj3 _ _ l1_0 a1_1 a1_2 t205 t206 t207 t208 t209 (rd l0 t212) t214 t217 t218 t219 _ ?side1 ?side2 A35.out).mono ?_); (case side1 => exact zC5 (Kd.C_below HR1_0.out HB.out)); (case side2 => exact HC1_0.out); rintro e w50 ⟨v215, rfl, ho0, hb⟩; refine ⟨_, rfl, ?_⟩; have n0_ := Aside0.mk (Kd.R_elder' (zR5 HO_6.out) (Kd.R_base ho0) hb); have n1_ := Aside0.mk (Kd.R_lower (Kd.R_new' ho0 (Kd.R_lt (zR5 HO_6.out))) (below_size (zB5_3))); have n2_ := Aside0.mk (zb5 BK189.out hb); have n3_ := Aside0.mk (zb5 BK190.out hb); have n4_ := Aside0.mk (zb5 BK211.out hb); have n5_ := Aside0.mk (below_step (zB5_3) hb); clear HO_6; clear BK189; clear BK190; clear BK211; clear HB; have HO_6 := n0_; have HO216 := n1_; have BK189 := n2_; have BK190 := n3_; have BK211 := n4_; have HB := n5_; clear n0_ n1_ n2_ n3_ n4_ n5_; (try clear hb); (try clear hb2); (try clear hk); (try clear hi); (try clear ho0)) | ((with_reducible refine gate_dst (N := 11) rfl ?_); refine box_event ?hg (N := 11) ?hd (cs := #[.slice none 0 0, .int .i64 0, .int .i64 0]) (t := 49) ?hr ?_; (case hd => rfl); (case hg => rfl); (case hr => first | (go_simp; done) | (go_simp; rfl)); intro gb220 hg w51 hbox hb; have n0_ := Aside0.mk (Kd.R_below (zR5 HO_6.out) hb); have n1_ := Aside0.mk (Kd.R_below (zR5 HO216.out) hb); have n2_ := Aside0.mk (zb5 BK189.out hb); have n3_ := Aside0.mk (zb5 BK190.out hb); have n4_ := Aside0.mk (zb5 BK211.out hb); have n5_ := Aside0.mk (below_step (zB5_3) hb); have n6_ := Aside0.mk (hbox); have n7_ := Aside0.mk ((by rw [hg]; exact (below_size (zB5_3)) : w.heap.size ≤ gb220)); have n8_ := Aside0.mk ((by rw [hg]; exact (below_size (zB5_3)) : w.heap.size ≤ gb220)); have n9_ := Aside0.mk ((zn5 BK189.out hg : gb189 ≠ gb220)); have n10_ := Aside0.mk ((zm5 BK189.out hg : gb220 ≠ gb189)); have n11_ := Aside0.mk ((zn5 BK190.out hg : gb190 ≠ gb220)); have n12_ := Aside0.mk ((zm5 BK190.out hg : gb220 ≠ gb190)); have n13_ := Aside0.mk ((zn5 BK211.out hg : gb211 ≠ gb220)); have n14_ := Aside0.mk ((zm5 BK211.out hg : gb220 ≠ gb211)); clear HO_6; clear HO216; clear BK189; clear BK190; clear BK211; clear HB; have HO_6 := n0_; have HO216 := n1_; have BK189 := n2_; have BK190 := n3_; have BK211 := n4_; have HB := n5_; have BK220 := n6_; have GW220 := n7_; have GE220 := n8_; have NB189_220 := n9_; have NB220_189 := n10_; have NB190_220 := n11_; have NB220_190 := n12_; have NB211_220 := n13_; have NB220_211 := n14_; clear n0_ n1_ n2_ n3_ n4_ n5_ n6_ n7_ n8_ n9_ n10_ n11_ n12_ n13_ n14_; clear hb hbox hg; obtain ⟨Ao52, co52, eo52⟩ := Kd.R_slice HO216.out; subst eo52; have hnb53 := NB220_189.out; have hnc53 := NB189_220.out; have hnb54 := NB220_190.out; have hnc54 := NB190_220.out; have hnb55 := NB220_211.out; have hnc55 := NB211_220.out; obtain ⟨hcz56_0, hcz56_1, hcz56_2, hfz56_0, hfz56_1, hfz56_2⟩ := zc5_3 (w := w51) BK220.out) | ((with_reducible refine gate_store (t := 49) (p := 11) rfl ?_); refine store_event (t := 49) (p := 11) (v := ?vo_w57) (w1 := (((w51.setCell ⟨gb220, 0, none⟩ (.slice Ao52 t214.length co52)).setCell ⟨gb220, 1, none⟩ (.int .i64 t217)).setCell ⟨gb220, 2, none⟩ (.int .i64 t218))) ?hg ?ho ?hn ?hr ?_; (case ho => rfl); (case hg => rfl); (case hn => rfl); (case hr => first | (go_simp; done) | (go_simp; rfl)); intro w57 hw; have n0_ : Aside0 (Kd.R (Kd.int .i64) 3 w57 w.heap.size (fun k_ => some k_ ≠ (.slice Ao52 t214.length co52 : Value).ownBlock) v195 y194) := ⟨(by rw [hw]; exact (by (with_reducible repeat (first | apply Kd.R_alloc | apply Kd.R_drewN | apply Kd.R_drew)); exact Kd.R_mono (Kd.R_far (p := ⟨gb220, 2, none⟩) (Kd.R_far (p := ⟨gb220, 1, none⟩) (Kd.R_far (p := ⟨gb220, 0, none⟩) (Kd.R_types HO_6.out BK220.out (by decide)) (fun _ hk => hk.2) (.slice Ao52 t214.length co52)) (fun _ hk => hk.2) (.int .i64 t217)) (fun _ hk => hk.2) (.int .i64 t218)) (fun _ hk => hk.1.2)))⟩; have n1_ : Aside0 (Kd.R (Kd.int .i64) 3 w57 w.heap.size (fun k_ => some k_ ≠ (v195 : Value).ownBlock) (.slice Ao52 t214.length co52) t214) := ⟨(by rw [hw]; exact (by (with_reducible repeat (first | apply Kd.R_alloc | apply Kd.R_drewN | apply Kd.R_drew)); exact Kd.R_mono (Kd.R_far (p := ⟨gb220, 2, none⟩) (Kd.R_far (p := ⟨gb220, 1, none⟩) (Kd.R_far (p := ⟨gb220, 0, none⟩) (Kd.R_types HO216.out BK220.out (by decide)) (fun _ hk => hk.2) (.slice Ao52 t214.length co52)) (fun _ hk => hk.2) (.int .i64 t217)) (fun _ hk => hk.2) (.int .i64 t218)) (fun _ hk => hk.1.2)))⟩; have n2_ : Aside0 (w57.heap[gb189]? = some (.cells #[.slice A1_0 l1_0.length c1_0, .int .i64 a1_1, .int .i64 a1_2] 49 (0, 0))) := ⟨(by rw [hw]; exact (by refine zP5 ?_; refine blk_far ?_ NB189_220.out _; refine zP5 ?_; refine blk_far ?_ NB189_220.out _; refine zP5 ?_; refine blk_far ?_ NB189_220.out _; refine zP5 ?_; exact BK189.out))⟩; have n3_ : Aside0 (w57.heap[gb190]? = some (.cells #[.slice none 0 0, .int .i64 0, .int .i64 0] 49 (0, 0))) := ⟨(by rw [hw]; exact (by refine zP5 ?_; refine blk_far ?_ NB190_220.out _; refine zP5 ?_; refine blk_far ?_ NB190_220.out _; refine zP5 ?_; refine blk_far ?_ NB190_220.out _; refine zP5 ?_; exact BK190.out))⟩; have n4_ : Aside0 (w57.heap[gb211]? = some (.cells #[.int .i64 t205, .int .i64 t206, .int .i64 t207, .int .i64 t208, .int .i64 t209] 71 (0, 0))) := ⟨(by rw [hw]; exact (by refine zP5 ?_; refine blk_far ?_ NB211_220.out _; refine zP5 ?_; refine blk_far ?_ NB211_220.out _; refine zP5 ?_; refine blk_far ?_ NB211_220.out _; refine zP5 ?_; exact BK211.out))⟩; have n5_ : Aside0 (w57.heap[gb220]? = some (.cells #[.slice Ao52 t214.length co52, .int .i64 t217, .int .i64 t218] 49 (0, 0))) := ⟨(by rw [hw]; exact (by refine zP5 ?_; refine blk_put (cs := #[.slice Ao52 t214.length co52, .int .i64 t217, .int .i64 0]) ?_ 2 _ rfl; refine zP5 ?_; refine blk_put (cs := #[.slice Ao52 t214.length co52, .int .i64 0, .int .i64 0]) ?_ 1 _ rfl; refine zP5 ?_; refine blk_put (cs := #[.slice none 0 0, .int .i64 0, .int .i64 0]) ?_ 0 _ rfl; refine zP5 ?_; exact BK220.out))⟩; have n6_ : Aside0 (Below w.heap.size w w57) := ⟨(by rw [hw]; exact (zB5_4))⟩; clear hw; clear HO_6; clear HO216; clear BK189; clear BK190; clear BK211; clear BK220; clear HB; have HO_6 := n0_; have HO216 := n1_; have BK189 := n2_; have BK190 := n3_; have BK211 := n4_; have BK220 := n5_; have HB := n6_; clear n0_ n1_ n2_ n3_ n4_ n5_ n6_; have p38 : 0 ≤ (t212 : Int) := zA5; have q38 : (t212 : Int) < ((y194.length : Int) : Int) := zA5; obtain ⟨go38, co38, eo38, gb38, gl38, cl38, HG38⟩ := Kd.R_form HO_6.out (by omega); (first | cases eo38 | (injection eo38 with ea_ en_ ec_; (first | subst ea_ | (injection ea_ with ea_; subst ea_)); subst ec_; clear en_)); have GB38 := Aside0.mk gb38; have GG38 := Aside0.mk HG38; clear gb38 gl38 HG38; obtain ⟨hx38_0, hf38_0⟩ := Kd.R_celln 0 HO_6.out (t212 : Int) p38 q38; replace p38 := eq_true p38; replace q38 := eq_true q38; obtain ⟨hy58_, hz58_⟩ := Kd.R_celln 0 HO_6.out (t212 : Int) (zA5) (zA5); have HP58 := Kd.R_putg HO_6.out (t212 : Int) t219) | ((with_reducible refine gate_store (t := 3) (p := 63) rfl ?_); refine store_event (t := 3) (p := 63) (v := ?vo_w59) (w1 := (w57.setCell ⟨go38, (t212 : Int).toNat, none⟩ (.int .i64 t219))) ?hg ?ho ?hn ?hr ?_; (case ho => rfl); (case hg => rfl); (case hn => rfl); (case hr => first | (go_simp; done) | (go_simp; rfl)); intro w59 hw; have hg : w57.grownBy w59 (some go38) := (by rw [hw]; exact HP58.2); have hp_ : Kd.R (Kd.int .i64) 3 w59 w.heap.size (fun k_ => some k_ ≠ (.slice Ao52 t214.length co52 : Value).ownBlock) (.slice (some ⟨go38, 0, none⟩) y194.length co38) y221 := (by rw [hw, Ny221.out]; exact HP58.1); clear HP58; have n0_ := Aside0.mk (hp_); have n1_ := Aside0.mk (zg5 BK189.out hg (Kd.R_ne HO_6.out BK189.out (by decide))); have n2_ := Aside0.mk (zg5 BK190.out hg (Kd.R_ne HO_6.out BK190.out (by decide))); have n3_ := Aside0.mk (zg5 BK211.out hg (Kd.R_ne HO_6.out BK211.out (by decide))); have n4_ := Aside0.mk (Kd.R_after (v := (.slice (some ⟨go38, 0, none⟩) y194.length co38)) (v1 := (.slice (some ⟨go38, 0, none⟩) y194.length co38)) (ok := (fun _ => True)) (by (with_reducible repeat (first | apply Kd.R_alloc | apply Kd.R_drewN | apply Kd.R_drew)); exact Kd.R_mono HO216.out (fun _ hk => ⟨trivial, hk⟩)) hg (.inl rfl)); have n5_ := Aside0.mk (zg5 BK220.out hg (Kd.R_ne HO_6.out BK220.out (by decide))); have n6_ := Aside0.mk ((by rw [hw]; exact below_set (HB.out) GB38.out : Below w.heap.size w w59)); clear HO_6; clear BK189; clear BK190; clear BK211; clear HO216; clear BK220; clear HB; have HO_6 := n0_; have BK189 := n1_; have BK190 := n2_; have BK211 := n3_; have HO216 := n4_; have BK220 := n5_; have HB := n6_; clear n0_ n1_ n2_ n3_ n4_ n5_ n6_; clear hg hw hp_))
   have n0_ := Aside0.mk (Kd.R_drew HO_6.out)
   have n1_ := Aside0.mk (Kd.R_drew HO216.out)
   have n2_ := Aside0.mk (blk_drew BK189.out)
   have n3_ := Aside0.mk (blk_drew BK190.out)
   have n4_ := Aside0.mk (blk_drew BK211.out)
   have n5_ := Aside0.mk (blk_drew BK220.out)
   have n6_ := Aside0.mk (below_drew1 HB.out)
   clear HO_6 HO216 BK189 BK190 BK211 BK220 HB
   have HO_6 := n0_
   have HO216 := n1_
   have BK189 := n2_
   have BK190 := n3_
   have BK211 := n4_
   have BK220 := n5_
   have HB := n6_
   clear n0_ n1_ n2_ n3_ n4_ n5_ n6_
   refine start_ (n := 4) (S := fun w' => w'.cell? ⟨gb220, 0, none⟩ = some (.slice Ao52 t214.length co52) ∧ w'.cell? ⟨gb220, 1, none⟩ = some (.int .i64 t217) ∧ w'.cell? ⟨gb220, 2, none⟩ = some (.int .i64 t218)) (ds := []) #[false, false, false, false] (by kernel_rfl) rfl rfl ⟨(blk_cell BK220.out 0).trans rfl, (blk_cell BK220.out 1).trans rfl, (blk_cell BK220.out 2).trans rfl⟩ (fun hHeld => ?_)
   generalize w59.drew = w60 at HO_6 HO216 BK189 BK190 BK211 BK220 HB hHeld ⊢
   refine pure_ (i := 0) (N := some 64) (v := ?_) (a' := ?_) #[true, false, false, false] rfl rfl (by kernel_rfl) (fun _ _ _ h => h) (Or.inl ⟨by rfl, ?_⟩) ?_ ?_
   rotate_left
   ·intro w'
    go_simp
    with_reducible rfl
   rotate_left
   ·exact zV5
   refine pure_ (i := 2) (N := some 4) (v := ?_) (a' := ?_) #[true, false, true, false] rfl rfl (by kernel_rfl) (fun _ _ _ h => h) (Or.inl ⟨by rfl, ?_⟩) ?_ ?_
   rotate_left
   ·intro w'
    go_simp
    with_reducible rfl
   rotate_left
   ·exact zV5
   refine take_ (i := 1) (N := some 65) (v := ?_) (a' := ?_) #[true, true, true, false] rfl rfl (by kernel_rfl) (fun _ _ _ h => h) (Or.inl ⟨by rfl, ?_⟩) hHeld ?_ ?_
   rotate_left
   ·rintro w' ⟨s0, s1, s2⟩
    go_simp
    with_reducible rfl
   rotate_left
   ·exact zV5
   refine one_ (i := 3) (N := none) #[true, true, true, true] rfl rfl (by kernel_rfl) (by decide) (fun K hK => ?_)
   have hs61 : w60.cell? ⟨gb190, 0, none⟩ = some (.slice none 0 0) := (blk_cell BK190.out 0).trans rfl
   have hfs61 := blk_frozen BK190.out 0
   have hns61_0 := NB189_190.out
   have hns61_2 := NB211_190.out
   have hns61_3 := NB220_190.out
   have hms61_0 := NB190_189.out
   have hms61_2 := NB190_211.out
   have hms61_3 := NB190_220.out
   have hs62 : w60.cell? ⟨gb190, 1, none⟩ = some (.int .i64 0) := (blk_cell BK190.out 1).trans rfl
   have hfs62 := blk_frozen BK190.out 1
   have hns62_0 := NB189_190.out
   have hns62_2 := NB211_190.out
   have hns62_3 := NB220_190.out
   have hms62_0 := NB190_189.out
   have hms62_2 := NB190_211.out
   have hms62_3 := NB190_220.out
   have hs63 : w60.cell? ⟨gb190, 2, none⟩ = some (.int .i64 0) := (blk_cell BK190.out 2).trans rfl
   have hfs63 := blk_frozen BK190.out 2
   have hns63_0 := NB189_190.out
   have hns63_2 := NB211_190.out
   have hns63_3 := NB220_190.out
   have hms63_0 := NB190_189.out
   have hms63_2 := NB190_211.out
   have hms63_3 := NB190_220.out
   refine skip_ (w1 := ?_) (by rfl) rfl ?_ ?_
   rotate_left
   ·go_simp
    rfl
   refine hK.out _ _ ⟨((cell_far (p := ⟨gb190, _, none⟩) NB220_190.out _).trans (((cell_far (p := ⟨gb190, _, none⟩) NB220_190.out _).trans (((cell_far (p := ⟨gb190, _, none⟩) NB220_190.out _).trans (hHeld.1)))))), ((cell_far (p := ⟨gb190, _, none⟩) NB220_190.out _).trans (((cell_far (p := ⟨gb190, _, none⟩) NB220_190.out _).trans (((cell_far (p := ⟨gb190, _, none⟩) NB220_190.out _).trans (hHeld.2.1)))))), ((cell_far (p := ⟨gb190, _, none⟩) NB220_190.out _).trans (((cell_far (p := ⟨gb190, _, none⟩) NB220_190.out _).trans (((cell_far (p := ⟨gb190, _, none⟩) NB220_190.out _).trans (hHeld.2.2))))))⟩ (fun hHeld => ?_)
   clear hK K
   refine done_ (by kernel_rfl) ?_
   try go_wp2
   refine bodyPost_ret (results_tc rfl _ _ gb190 49 #[.slice Ao52 t214.length co52, .int .i64 t217, .int .i64 t218] (0, 0) _ rfl (by refine zP5 ?_; refine blk_put (cs := #[.slice Ao52 t214.length co52, .int .i64 t217, .int .i64 0]) ?_ 2 _ rfl; refine zP5 ?_; refine blk_put (cs := #[.slice Ao52 t214.length co52, .int .i64 0, .int .i64 0]) ?_ 1 _ rfl; refine zP5 ?_; refine blk_put (cs := #[.slice none 0 0, .int .i64 0, .int .i64 0]) ?_ 0 _ rfl; refine zP5 ?_; exact BK190.out) Try.underlying49 rfl (by kernel_rfl)) rfl ?_
   exact ⟨_, _, zE5, by (with_reducible repeat (first | apply Kd.R_alloc | apply Kd.R_drewN | apply Kd.R_drew)); exact Kd.R_mono (Kd.R_far (p := ⟨gb190, 2, none⟩) (Kd.R_far (p := ⟨gb190, 1, none⟩) (Kd.R_far (p := ⟨gb190, 0, none⟩) (Kd.R_types HO_6.out BK190.out (by decide)) (fun _ hk => hk.2) (.slice Ao52 t214.length co52)) (fun _ hk => hk.2) (.int .i64 t217)) (fun _ hk => hk.2) (.int .i64 t218)) (fun _ hk => hk.1), by (with_reducible repeat (first | apply Kd.R_alloc | apply Kd.R_drewN | apply Kd.R_drew)); exact Kd.R_mono (Kd.R_far (p := ⟨gb190, 2, none⟩) (Kd.R_far (p := ⟨gb190, 1, none⟩) (Kd.R_far (p := ⟨gb190, 0, none⟩) (Kd.R_types HO216.out BK190.out (by decide)) (fun _ hk => hk.2) (.slice Ao52 t214.length co52)) (fun _ hk => hk.2) (.int .i64 t217)) (fun _ hk => hk.2) (.int .i64 t218)) (fun _ hk => hk.1.2), zB5_4⟩

end Go.Proofs.Ytgbjengnkbomoaa.PFnByHart
