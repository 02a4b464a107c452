-- made by wip/tools/myprint.py out of the seat's translation
import Derived.Test.YtgbjengnkbomoaaPFnByHartx0
import Derived.Test.YtgbjengnkbomoaaPFnByHartx2
import Derived.Test.YtgbjengnkbomoaaPFnByHartx4
import Derived.Test.YtgbjengnkbomoaaPFnByHartx5
namespace Go.Proofs.Ytgbjengnkbomoaa.PFnByHart
open Go.RowKit Go.Proofs.YtgbjengnkbomoaaW.PrintWords Go.Proofs.YtgbjengnkbomoaaW.PrintLast Go.Proofs.YtgbjengnkbomoaaW.PrintMore
attribute [local go_sem] max2_int min2_int max_two min_two max_three min_three max_four min_four   -- for this text's walks alone
set_option linter.unusedVariables false
set_option linter.unusedSimpArgs false
theorem zc6_3 {w : World} {g : Nat} {a0 a1 a2 : Value} {t : TypeId} (h : w.heap[g]? = some (.cells #[a0, a1, a2] t (0, 0))) : w.cell? ⟨g, 0, none⟩ = some a0 ∧ w.cell? ⟨g, 1, none⟩ = some a1 ∧ w.cell? ⟨g, 2, none⟩ = some a2 ∧ w.frozen? ⟨g, 0, none⟩ = false ∧ w.frozen? ⟨g, 1, none⟩ = false ∧ w.frozen? ⟨g, 2, none⟩ = false := ⟨(blk_cell h 0).trans rfl, (blk_cell h 1).trans rfl, (blk_cell h 2).trans rfl, blk_frozen h 0, blk_frozen h 1, blk_frozen h 2⟩
theorem zc6_5 {w : World} {g : Nat} {a0 a1 a2 a3 a4 : Value} {t : TypeId} (h : w.heap[g]? = some (.cells #[a0, a1, a2, a3, a4] t (0, 0))) : w.cell? ⟨g, 0, none⟩ = some a0 ∧ w.cell? ⟨g, 1, none⟩ = some a1 ∧ w.cell? ⟨g, 2, none⟩ = some a2 ∧ w.cell? ⟨g, 3, none⟩ = some a3 ∧ w.cell? ⟨g, 4, none⟩ = some a4 ∧ w.frozen? ⟨g, 0, none⟩ = false ∧ w.frozen? ⟨g, 1, none⟩ = false ∧ w.frozen? ⟨g, 2, none⟩ = false ∧ w.frozen? ⟨g, 3, none⟩ = false ∧ w.frozen? ⟨g, 4, none⟩ = false := ⟨(blk_cell h 0).trans rfl, (blk_cell h 1).trans rfl, (blk_cell h 2).trans rfl, (blk_cell h 3).trans rfl, (blk_cell h 4).trans rfl, blk_frozen h 0, blk_frozen h 1, blk_frozen h 2, blk_frozen h 3, blk_frozen h 4⟩
theorem zR6 {p q : Prop} (x : q) (h : q → p := by intro h; (with_reducible repeat (first | apply Kd.R_alloc | apply Kd.R_drewN | apply Kd.R_drew)); exact h) : p := h x
theorem zK6 {p q : Prop} (x : q) (h : q → p := by intro h; (with_reducible repeat (first | refine blk_drewN ?_ _ | refine blk_drew ?_ | refine blk_alloc ?_ _)); exact h) : p := h x
theorem zA6 {p : Prop} [Decidable p] (h : decide p = true := by first | (with_reducible assumption) | assumption) : p := of_decide_eq_true h
theorem zT6 {p : Prop} (h : p := by (try simp only [List.map_toArray, List.map_cons, List.map_nil]); first | done | rfl | (simp only [List.length_drop, List.length_take]; rfl)) : p := h
theorem zC6 {p q : Prop} (x : q) (h : q → p := by intro h; repeat (first | exact h | (with_reducible refine Kd.C_alloc ?_ _) | (with_reducible refine Kd.C_drewN ?_ _) | (with_reducible refine Kd.C_drew ?_))) : p := h x
theorem zb6 {W w w1 : World} {g : Nat} {o : Obj} (x : W.heap[g]? = some o) (hb : Below w.heap.size w w1) (h : W.heap[g]? = some o → w.heap[g]? = some o := by intro h; (with_reducible repeat (first | refine blk_drewN ?_ _ | refine blk_drew ?_ | refine blk_alloc ?_ _)); exact h) : w1.heap[g]? = some o := blk_below (h x) hb
theorem zg6 {W w w1 : World} {g : Nat} {o : Obj} {row : Option Nat} (x : W.heap[g]? = some o) (hg : w.grownBy w1 row) (hne : some g ≠ row) (h : W.heap[g]? = some o → w.heap[g]? = some o := by intro h; (with_reducible repeat (first | refine blk_drewN ?_ _ | refine blk_drew ?_ | refine blk_alloc ?_ _)); exact h) : w1.heap[g]? = some o := blk_grown (h x) hg hne
theorem zn6 {W w : World} {g g' : Nat} {o : Obj} (x : W.heap[g]? = some o) (hg : g' = w.heap.size) (h : W.heap[g]? = some o → w.heap[g]? = some o := by intro h; (with_reducible repeat (first | refine blk_drewN ?_ _ | refine blk_drew ?_ | refine blk_alloc ?_ _)); exact h) : g ≠ g' := by rw [hg]; exact Nat.ne_of_lt (blk_lt (h x))
theorem zm6 {W w : World} {g g' : Nat} {o : Obj} (x : W.heap[g]? = some o) (hg : g' = w.heap.size) (h : W.heap[g]? = some o → w.heap[g]? = some o := by intro h; (with_reducible repeat (first | refine blk_drewN ?_ _ | refine blk_drew ?_ | refine blk_alloc ?_ _)); exact h) : g' ≠ g := by rw [hg]; exact Nat.ne_of_gt (blk_lt (h x))
theorem zP6 {p q : Prop} (x : q) (h : q → p := by intro h; (with_reducible repeat (first | refine blk_drewN ?_ _ | refine blk_drew ?_ | refine blk_alloc ?_ _)); exact h) : p := h x
theorem zE6 {p : Prop} (h : p := by first | rfl | (simp [errW_none, errW_some] <;> rfl) | (simp [*, errW_none, errW_some] <;> rfl)) : p := h
theorem zB6_0 {p : Prop} (h : p := by repeat (first | (with_reducible first | exact HB.out | apply below_alloc | apply pw_below_drewN | apply below_drew1) | exact HB.out)) : p := h
theorem zB6_1 {p : Prop} (h : p := by repeat (first | (with_reducible first | exact HB.out | apply below_alloc | apply pw_below_drewN | apply below_drew1 | refine below_set ?_ GE254.out) | exact HB.out)) : p := h
theorem zB6_2 {p : Prop} (h : p := by repeat (first | (with_reducible first | exact HB.out | apply below_alloc | apply pw_below_drewN | apply below_drew1 | refine below_set ?_ GE254.out | refine below_set ?_ GE267.out) | exact HB.out)) : p := h
theorem zB6_3 {p : Prop} (h : p := by repeat (first | (with_reducible first | exact HB.out | apply below_alloc | apply pw_below_drewN | apply below_drew1 | refine below_set ?_ GE254.out | refine below_set ?_ GE278.out) | exact HB.out)) : p := h
theorem zB6_4 {p : Prop} (h : p := by repeat (first | (with_reducible first | exact HI0.out | apply IsS90.alloc | apply IsS90.drewN | apply IsS90.drew | apply IsS90.set_1 | apply IsS90.set_2) | exact HI0.out)) : p := h
theorem zB6_5 {p : Prop} (h : p := by repeat (first | (with_reducible first | exact HB.out | apply below_alloc | apply pw_below_drewN | apply below_drew1 | refine below_set ?_ (IsS90.ge HI0.out)) | exact HB.out)) : p := h
theorem zB6_6 {p : Prop} (h : p := by repeat (first | (with_reducible first | exact HK.out | apply KeepBut.set_ | apply keep_drewN | apply keep_drew | apply keep_alloc) | exact HK.out)) : p := h
theorem zB6_7 {p : Prop} (h : p := by repeat (first | (with_reducible first | exact HB.out | apply below_alloc | apply pw_below_drewN | apply below_drew1 | refine below_set ?_ GE303.out) | exact HB.out)) : p := h

/-! ### spec_Trace: function 28 -/
mutual
def spec_Trace.l0 : Nat → List Int → List (S31) → List Int → List (S49) → Int → Option ((List (S31)))
 | 0, _, _, _, _, _ => none
 | k + 1, x2, x7, x8, x9, x10 => if x10 < (x2.length : Int) then (spec_Trace.j1 k x2 x7 x8 x9 x10 (decide ((x2.length : Int) ≤ 2000))) else (spec_Trace.j1 k x2 x7 x8 x9 x10 false)
def spec_Trace.j1 : Nat → List Int → List (S31) → List Int → List (S49) → Int → Bool → Option ((List (S31)))
 | 0, _, _, _, _, _, _ => none
 | k + 1, x2, x7, x8, x9, x10, x31 => if x31 = true then (if 0 ≤ x10 then (if x10 < (x2.length : Int) then ((spec_l1In.f (rd x2 x10) 0 (wrap64 ((x9.length : Int) - 1))).bind fun t246 => (if t246 = true then (if 0 ≤ (rd x2 x10) then (if (rd x2 x10) < (x9.length : Int) then ((spec_EventOf.f k x8 ((rd_T49 x9 (rd x2 x10)).f0) ((rd_T49 x9 (rd x2 x10)).f1) ((rd_T49 x9 (rd x2 x10)).f2) (rd x2 x10)).bind fun bt248 => (if bt248.2.2.2.2.2 = true then (if x7.length < 3518437208883 then ((spec_FlatStep.f k x8 ((rd_T49 x9 (rd x2 x10)).f0) ((rd_T49 x9 (rd x2 x10)).f1) ((rd_T49 x9 (rd x2 x10)).f2)).bind fun bt259 => (spec_Trace.l0 k x2 (x7 ++ [(⟨bt248.1, bt248.2.1, bt248.2.2.1, bt248.2.2.2.1, bt248.2.2.2.2.1⟩ : S31)]) bt259.1 (x9.set ((rd x2 x10) : Int).toNat (⟨bt259.2.1, bt259.2.2.1, bt259.2.2.2⟩ : S49)) (wrap64 (x10 + 1)))) else (none)) else ((spec_FlatStep.f k x8 ((rd_T49 x9 (rd x2 x10)).f0) ((rd_T49 x9 (rd x2 x10)).f1) ((rd_T49 x9 (rd x2 x10)).f2)).bind fun bt270 => (spec_Trace.l0 k x2 x7 bt270.1 (x9.set ((rd x2 x10) : Int).toNat (⟨bt270.2.1, bt270.2.2.1, bt270.2.2.2⟩ : S49)) (wrap64 (x10 + 1)))))) else (none)) else (none)) else (spec_Trace.l0 k x2 x7 x8 x9 (wrap64 (x10 + 1))))) else (none)) else (none)) else (some x7)
end
def spec_Trace.f (k : Nat) (l0 : List Int) (l1 : List (S49)) (l2 : List Int) : Option ((List (S31))) := (some (([] : List Int) : List Int)).bind fun y233 => (if y233.length + l0.length < 17592186044416 then ((some (([] : List (S49)) : List (S49))).bind fun y239 => (if y239.length + l1.length < 3518437208883 then (spec_Trace.l0 k l2 (([] : List (S31))) (y233 ++ l0) (y239 ++ l1) 0) else (none))) else (none))
theorem spec_Trace.mono_l : ∀ k, (∀ y0 y1 y2 y3 y4, LeO (spec_Trace.l0 k y0 y1 y2 y3 y4) (spec_Trace.l0 (k + 1) y0 y1 y2 y3 y4)) ∧ (∀ y0 y1 y2 y3 y4 y5, LeO (spec_Trace.j1 k y0 y1 y2 y3 y4 y5) (spec_Trace.j1 (k + 1) y0 y1 y2 y3 y4 y5))
 | 0 => ⟨fun _ _ _ _ _ r h => by simp [spec_Trace.l0] at h, fun _ _ _ _ _ _ r h => by simp [spec_Trace.j1] at h⟩
 | k + 1 => by
  obtain ⟨ih0, ih1⟩ := spec_Trace.mono_l k
  refine ⟨?_, ?_⟩
  ·intro y0 y1 y2 y3 y4
   unfold spec_Trace.l0
   repeat' first
   | (with_reducible exact ih0 _ _ _ _ _)
   | (with_reducible exact ih1 _ _ _ _ _ _)
   | (with_reducible exact spec_EventOf.mono _ _ _ _ _ _)
   | (with_reducible exact spec_FlatStep.mono _ _ _ _ _)
   | (with_reducible exact LeO.refl _)
   | (with_reducible exact LeO.none _)
   | (with_reducible refine LeO.ite ?_ ?_)
   | (with_reducible refine LeO.bind ?_ (fun _ => ?_))
   | exact ih0 _ _ _ _ _
   | exact ih1 _ _ _ _ _ _
   | exact spec_EventOf.mono _ _ _ _ _ _
   | exact spec_FlatStep.mono _ _ _ _ _
   | exact LeO.none _
   | refine LeO.ite ?_ ?_
   | refine LeO.bind ?_ (fun _ => ?_)
  ·intro y0 y1 y2 y3 y4 y5
   unfold spec_Trace.j1
   repeat' first
   | (with_reducible exact ih0 _ _ _ _ _)
   | (with_reducible exact ih1 _ _ _ _ _ _)
   | (with_reducible exact spec_EventOf.mono _ _ _ _ _ _)
   | (with_reducible exact spec_FlatStep.mono _ _ _ _ _)
   | (with_reducible exact LeO.refl _)
   | (with_reducible exact LeO.none _)
   | (with_reducible refine LeO.ite ?_ ?_)
   | (with_reducible refine LeO.bind ?_ (fun _ => ?_))
   | exact ih0 _ _ _ _ _
   | exact ih1 _ _ _ _ _ _
   | exact spec_EventOf.mono _ _ _ _ _ _
   | exact spec_FlatStep.mono _ _ _ _ _
   | exact LeO.none _
   | refine LeO.ite ?_ ?_
   | refine LeO.bind ?_ (fun _ => ?_)
theorem spec_Trace.mono : ∀ a0 a1 a2 k, LeO (spec_Trace.f k a0 a1 a2) (spec_Trace.f (k + 1) a0 a1 a2) := by
 intro a0 a1 a2 k
 obtain ⟨ih0, ih1⟩ := spec_Trace.mono_l k
 unfold spec_Trace.f
 repeat' first
   | (with_reducible exact ih0 _ _ _ _ _)
   | (with_reducible exact ih1 _ _ _ _ _ _)
   | (with_reducible exact spec_EventOf.mono _ _ _ _ _ _)
   | (with_reducible exact spec_FlatStep.mono _ _ _ _ _)
   | (with_reducible exact LeO.refl _)
   | (with_reducible exact LeO.none _)
   | (with_reducible refine LeO.ite ?_ ?_)
   | (with_reducible refine LeO.bind ?_ (fun _ => ?_))
   | exact ih0 _ _ _ _ _
   | exact ih1 _ _ _ _ _ _
   | exact spec_EventOf.mono _ _ _ _ _ _
   | exact spec_FlatStep.mono _ _ _ _ _
   | exact LeO.none _
   | refine LeO.ite ?_ ?_
   | refine LeO.bind ?_ (fun _ => ?_)
set_option maxHeartbeats 8000000 in
set_option maxRecDepth 100000 in
theorem spec_Trace.calls (k : Nat) (A0 : Option Addr) (c0 : Nat) (l0 : List Int) (P1_ : Nat → Prop) (A1 : Option Addr) (c1 : Nat) (l1 : List (S49)) (A2 : Option Addr) (c2 : Nat) (l2 : List Int) (r : List (S31)) (w : World) (hr0 : Kd.C (Kd.int .i64) w A0 l0.length l0) (hc0 : l0.length ≤ c0) (hs1 : Kd.V k49 49 w w.heap.size (fun k_ => P1_ k_) (.slice A1 l1.length c1) l1) (hr2 : Kd.C (Kd.int .i64) w A2 l2.length l2) (hc2 : l2.length ≤ c2) (h : spec_Trace.f k l0 l1 l2 = some r) :
  Calls Try.prog 28 #[.slice A0 l0.length c0, .slice A1 l1.length c1, .slice A2 l2.length c2] w fun e w' => ∃ v0_ : Value, e = .returned (v0_) ∧ Kd.R k31 31 w' w.heap.size (fun k_ => (w.heap.size ≤ k_)) v0_ r ∧ Below w.heap.size w w' := by
 have hu49 := Try.underlying49
 have hu31 := Try.underlying31
 have HR0 := Aside0.mk hr0
 have HC0 := Aside0.mk hc0
 clear hr0 hc0
 have HO1 := Aside0.mk (show Kd.V k49 49 w w.heap.size (fun k_ => (P1_ k_ ∨ w.heap.size ≤ k_)) (.slice A1 l1.length c1) l1 from Kd.V_mono hs1 (fun k_ hk => .inl hk))
 have HR2 := Aside0.mk hr2
 have HC2 := Aside0.mk hc2
 clear hr2 hc2
 have HB := Aside0.mk (Below.refl w.heap.size w)
 have H : ((some (([] : List Int) : List Int)).bind fun y233 => (if y233.length + l0.length < 17592186044416 then ((some (([] : List (S49)) : List (S49))).bind fun y239 => (if y239.length + l1.length < 3518437208883 then (spec_Trace.l0 k l2 (([] : List (S31))) (y233 ++ l0) (y239 ++ l1) 0) else (none))) else (none))) = some r := h
 clear h
 obtain ⟨y230, hy230⟩ : ∃ y_ : List (S31), y_ = (([] : List (S31))) := ⟨_, rfl⟩
 replace H : ((some (([] : List Int) : List Int)).bind fun y233 => (if y233.length + l0.length < 17592186044416 then ((some (([] : List (S49)) : List (S49))).bind fun y239 => (if y239.length + l1.length < 3518437208883 then (spec_Trace.l0 k l2 y230 (y233 ++ l0) (y239 ++ l1) 0) else (none))) else (none))) = some r := by first | (rw [hy230]; with_reducible exact H) | (have H2_ := (Option.bind_some _ _).symm.trans H; rw [hy230]; with_reducible exact H2_) | (have H2_ := (Option.bind_some _ _).symm.trans H; with_reducible exact H2_) | with_reducible exact H | (rw [hy230]; exact H) | exact H
 have Ny230 := Aside0.mk hy230
 clear hy230
 obtain ⟨y233, hy233⟩ : ∃ y_ : List Int, y_ = (([] : List Int)) := ⟨_, rfl⟩
 replace H : (if y233.length + l0.length < 17592186044416 then ((some (([] : List (S49)) : List (S49))).bind fun y239 => (if y239.length + l1.length < 3518437208883 then (spec_Trace.l0 k l2 y230 (y233 ++ l0) (y239 ++ l1) 0) else (none))) else (none)) = some r := by first | (rw [hy233]; with_reducible exact H) | (have H2_ := (Option.bind_some _ _).symm.trans H; rw [hy233]; with_reducible exact H2_) | (have H2_ := (Option.bind_some _ _).symm.trans H; with_reducible exact H2_) | with_reducible exact H | (rw [hy233]; exact H) | exact H
 have Ny233 := Aside0.mk hy233
 clear hy233
 by_cases c4 : y233.length + l0.length < 17592186044416
 rotate_left
 ·rw [if_neg c4] at H
  exact absurd H (by simp)
 rw [if_pos c4] at H
 have LMc4 := Aside0.mk c4
 clear c4
 obtain ⟨y236, hy236⟩ : ∃ y_ : List Int, y_ = (y233 ++ l0) := ⟨_, rfl⟩
 replace H : ((some (([] : List (S49)) : List (S49))).bind fun y239 => (if y239.length + l1.length < 3518437208883 then (spec_Trace.l0 k l2 y230 y236 (y239 ++ l1) 0) else (none))) = some r := by first | (rw [hy236]; with_reducible exact H) | (have H2_ := (Option.bind_some _ _).symm.trans H; rw [hy236]; with_reducible exact H2_) | (have H2_ := (Option.bind_some _ _).symm.trans H; with_reducible exact H2_) | with_reducible exact H | (rw [hy236]; exact H) | exact H
 have Ny236 := Aside0.mk hy236
 clear hy236
 obtain ⟨y239, hy239⟩ : ∃ y_ : List (S49), y_ = (([] : List (S49))) := ⟨_, rfl⟩
 replace H : (if y239.length + l1.length < 3518437208883 then (spec_Trace.l0 k l2 y230 y236 (y239 ++ l1) 0) else (none)) = some r := by first | (rw [hy239]; with_reducible exact H) | (have H2_ := (Option.bind_some _ _).symm.trans H; rw [hy239]; with_reducible exact H2_) | (have H2_ := (Option.bind_some _ _).symm.trans H; with_reducible exact H2_) | with_reducible exact H | (rw [hy239]; exact H) | exact H
 have Ny239 := Aside0.mk hy239
 clear hy239
 by_cases c5 : y239.length + l1.length < 3518437208883
 rotate_left
 ·rw [if_neg c5] at H
  exact absurd H (by simp)
 rw [if_pos c5] at H
 have LMc5 := Aside0.mk c5
 clear c5
 obtain ⟨y242, hy242⟩ : ∃ y_ : List (S49), y_ = (y239 ++ l1) := ⟨_, rfl⟩
 replace H : (spec_Trace.l0 k l2 y230 y236 y242 0) = some r := by first | (rw [hy242]; with_reducible exact H) | (have H2_ := (Option.bind_some _ _).symm.trans H; rw [hy242]; with_reducible exact H2_) | (have H2_ := (Option.bind_some _ _).symm.trans H; with_reducible exact H2_) | with_reducible exact H | (rw [hy242]; exact H) | exact H
 have Ny242 := Aside0.mk hy242
 clear hy242
 have H' := Aside0.mk H
 clear H
 go_enter Try.func28, Try.ntmps28
 go_wp2_with (first | ((with_reducible refine gate_dst (N := 16) rfl ?_); (try (refine gate_guard (by rfl) ?_; dsimp only)); refine Kd.R_lit k31 _ 31 ?hg (N := 16) ?hd (xs := ([] : List (S31))) (inner := []) (ok := fun _ => True) (okp := fun _ => True) ?hr ?hp (fun _ hk => hk) trivial (Below.refl _ _) (Nat.le_refl _) (by simp) ?_; (case hd => rfl); (case hg => rfl); (case hr => first | (go_simp; done) | (go_simp; rfl)); (case hp => exact (Reps.none _ _)); intro v231 w6 ho7 hb hg_ hnew_; clear hg_ hnew_; (first | rw [← Ny230.out] at ho7 | (simp only [Int.reduceToNat] at ho7; rw [← Ny230.out] at ho7)); have n0_ := Aside0.mk (Kd.V_elder' (by (with_reducible repeat (first | apply Kd.V_alloc | apply Kd.V_drewN | apply Kd.V_drew)); exact HO1.out) (Kd.R_base ho7) hb); have n1_ := Aside0.mk (Kd.R_lower (Kd.R_newM (M := fun k_ => (w.heap.size ≤ k_)) ho7 (below_size (zB6_0)) (fun k_ h_ => h_)) (below_size (zB6_0))); have n2_ := Aside0.mk (below_step (zB6_0) hb); clear HO1; clear HB; have HO1 := n0_; have HO232 := n1_; have HB := n2_; clear n0_ n1_ n2_; clear hb ho7) | ((with_reducible refine gate_dst (N := 17) rfl ?_); (try (refine gate_guard (by rfl) ?_; dsimp only)); refine Kd.R_lit (Kd.int .i64) _ 3 ?hg (N := 17) ?hd (xs := ([] : List Int)) (inner := []) (ok := fun _ => True) (okp := fun _ => True) ?hr ?hp (fun _ hk => hk) trivial (Below.refl _ _) (Nat.le_refl _) (by simp) ?_; (case hd => rfl); (case hg => rfl); (case hr => first | (go_simp; done) | (go_simp; rfl)); (case hp => exact (Reps.none _ _)); intro v234 w8 ho9 hb hg_ hnew_; clear hg_ hnew_; (first | rw [← Ny233.out] at ho9 | (simp only [Int.reduceToNat] at ho9; rw [← Ny233.out] at ho9)); have n0_ := Aside0.mk (Kd.V_elder' (by (with_reducible repeat (first | apply Kd.V_alloc | apply Kd.V_drewN | apply Kd.V_drew)); exact HO1.out) (Kd.R_base ho9) hb); have n1_ := Aside0.mk (Kd.R_below (zR6 HO232.out) hb); have n2_ := Aside0.mk (Kd.R_lower (Kd.R_newM (M := fun k_ => (w.heap.size ≤ k_)) ho9 (below_size (zB6_0)) (fun k_ h_ => h_)) (below_size (zB6_0))); have n3_ := Aside0.mk (below_step (zB6_0) hb); clear HO1; clear HO232; clear HB; have HO1 := n0_; have HO232 := n1_; have HO235 := n2_; have HB := n3_; clear n0_ n1_ n2_ n3_; clear hb ho9) | ((with_reducible refine gate_builtin (b := .append) (xs := #[.tmp 17, .tmp 18]) rfl ?_); (try (refine gate_guard (by rfl) ?_; dsimp only)); at_builtin; refine Kd.R_append_rows (Kd.int .i64) (w0 := w) w.heap.size rfl (.tmp 17) (.tmp 18) 29 3 (.int .i64 0) 8 rfl Try.underlying29 info3 rfl (by decide) (by omega) v234 y233 l0 _ _ _ (fun k_ => (w.heap.size ≤ k_)) (fun _ => False) rfl rfl ?aO ?aR (fun _ _ h => h) (fun _ h => h.elim) ?aF ?aB ?aS ?aL ?_; (case aR => exact zC6 (Kd.C_below HR0.out HB.out)); (case aB => exact (zB6_0)); (case aF => exact (fun k_ hk => (Nat.le_trans (below_size (zB6_0)) hk))); (case aO => exact (by (with_reducible repeat (first | apply Kd.R_alloc | apply Kd.R_drewN | apply Kd.R_drew)); exact Kd.R_mono HO235.out (fun _ hk => hk.1))); (case aS => exact (below_size (zB6_0))); (case aL => have := LMc4.out; omega); intro v237 w10 ho hb hg hat; rw [← Ny236.out] at ho; have n0_ := Aside0.mk (Kd.V_afterv (ok := (fun k_ => (P1_ k_ ∨ w.heap.size ≤ k_) ∧ some k_ ≠ (v231 : Value).ownBlock)) (by (with_reducible repeat (first | apply Kd.V_alloc | apply Kd.V_drewN | apply Kd.V_drew)); exact HO1.out) hg hat); have n1_ := Aside0.mk (Kd.R_over' (zR6 HO232.out) (Kd.R_typed (zR6 HO235.out)) (by decide) hg); have n2_ := Aside0.mk (hb); have n3_ := Aside0.mk (ho); clear HO1; clear HO232; clear HB; clear HO235; have HO1 := n0_; have HO232 := n1_; have HB := n2_; have HO238 := n3_; clear n0_ n1_ n2_ n3_; clear ho hb hg hat) | ((with_reducible refine gate_dst (N := 20) rfl ?_); (try (refine gate_guard (by rfl) ?_; dsimp only)); refine Kd.N_lit k49 _ 49 ?hg (N' := 20) ?hd (xs := ([] : List (S49))) (inner := []) (ok := (fun k_ => (P1_ k_ ∨ w.heap.size ≤ k_) ∧ some k_ ≠ (v231 : Value).ownBlock ∧ some k_ ≠ (v237 : Value).ownBlock)) (okp := (fun k_ => (P1_ k_ ∨ w.heap.size ≤ k_) ∧ some k_ ≠ (v231 : Value).ownBlock ∧ some k_ ≠ (v237 : Value).ownBlock)) ?hr ?hp (fun _ hk => hk) ((show ∀ k_, w10.heap.size ≤ k_ → (fun k_ => (P1_ k_ ∨ w.heap.size ≤ k_) ∧ some k_ ≠ (v231 : Value).ownBlock ∧ some k_ ≠ (v237 : Value).ownBlock) k_ from fun k_ hk => ⟨(.inr (Nat.le_trans (below_size (zB6_0)) hk)), Kd.fresh' (Kd.R_lt (zR6 HO232.out)) k_ hk, Kd.fresh' (Kd.R_lt (zR6 HO238.out)) k_ hk⟩) _ (Nat.le_refl _)) (Below.refl _ _) (Nat.le_refl _) (by simp) ?_; (case hd => rfl); (case hg => rfl); (case hr => first | (go_simp; done) | (go_simp; rfl)); (case hp => exact (Reps.none _ _)); intro v240 w11 ho12 hb hg_ hnew_; clear hg_ hnew_; (first | rw [← Ny239.out] at ho12 | (simp only [Int.reduceToNat] at ho12; rw [← Ny239.out] at ho12)); have n0_ := Aside0.mk (Kd.V_elder' (by (with_reducible repeat (first | apply Kd.V_alloc | apply Kd.V_drewN | apply Kd.V_drew)); exact HO1.out) (Kd.N_base ho12) hb); have n1_ := Aside0.mk (Kd.R_below (zR6 HO232.out) hb); have n2_ := Aside0.mk (Kd.R_below (zR6 HO238.out) hb); have n3_ := Aside0.mk (Kd.N_lower ho12 (below_size (zB6_0))); have n4_ := Aside0.mk (below_step (zB6_0) hb); clear HO1; clear HO232; clear HO238; clear HB; have HO1 := n0_; have HO232 := n1_; have HO238 := n2_; have HO241 := n3_; have HB := n4_; clear n0_ n1_ n2_ n3_ n4_; clear hb ho12) | ((with_reducible refine gate_builtin (b := .append) (xs := #[.tmp 20, .tmp 21]) rfl ?_); (try (refine gate_guard (by rfl) ?_; dsimp only)); at_builtin; refine Kd.N_append_rows k49 (w0 := w) w.heap.size rfl (.tmp 20) (.tmp 21) 51 49 (.agg #[(.slice none 0 0), (.int .i64 0), (.int .i64 0)]) 40 rfl Try.underlying51 info49 rfl (by decide) (by omega) v240 y239 l1 _ _ _ (fun k_ => (P1_ k_ ∨ w.heap.size ≤ k_) ∧ some k_ ≠ (v231 : Value).ownBlock ∧ some k_ ≠ (v237 : Value).ownBlock) (fun k_ => ((fun k_ => (P1_ k_ ∨ w.heap.size ≤ k_) ∧ some k_ ≠ (v231 : Value).ownBlock ∧ some k_ ≠ (v237 : Value).ownBlock)) k_ ∧ some k_ ≠ (v240 : Value).ownBlock) rfl rfl ?aO ?aR (fun _ hk => hk) ?aF ?aB ?aS ?aL ?_; (case aR => exact (by skip; exact Kd.V_F (Kd.V_mono (ok' := (fun k_ => ((fun k_ => (P1_ k_ ∨ w.heap.size ≤ k_) ∧ some k_ ≠ (v231 : Value).ownBlock ∧ some k_ ≠ (v237 : Value).ownBlock)) k_ ∧ some k_ ≠ (v240 : Value).ownBlock)) (HO1.out) (fun k_ hk => ⟨⟨hk.1.1.1, ⟨hk.1.1.2, hk.1.2⟩⟩, hk.2⟩)))); (case aB => exact (zB6_0)); (case aF => exact (fun k_ hk => ⟨(.inr (Nat.le_trans (below_size (zB6_0)) hk)), Kd.fresh' (Kd.R_lt (zR6 HO232.out)) k_ hk, Kd.fresh' (Kd.R_lt (zR6 HO238.out)) k_ hk⟩)); (case aO => exact (by (with_reducible repeat (first | apply Kd.N_alloc | apply Kd.N_drewN | apply Kd.N_drew)); exact HO241.out)); (case aS => exact (below_size (zB6_0))); (case aL => have := LMc5.out; omega); intro v243 w13 ho hb hg hat; rw [← Ny242.out] at ho; have n0_ := Aside0.mk (Kd.V_afterv (ok := (fun k_ => (P1_ k_ ∨ w.heap.size ≤ k_) ∧ some k_ ≠ (v231 : Value).ownBlock ∧ some k_ ≠ (v237 : Value).ownBlock)) (by (with_reducible repeat (first | apply Kd.V_alloc | apply Kd.V_drewN | apply Kd.V_drew)); exact Kd.V_mono HO1.out (fun _ hk => ⟨⟨hk.1.1.1, ⟨hk.1.1.2, hk.1.2⟩⟩, hk.2⟩)) hg hat); have n1_ := Aside0.mk (Kd.R_over' (zR6 HO232.out) (Kd.N_typed (by (with_reducible repeat (first | apply Kd.N_alloc | apply Kd.N_drewN | apply Kd.N_drew)); exact HO241.out)) (by decide) hg); have n2_ := Aside0.mk (Kd.R_over' (zR6 HO238.out) (Kd.N_typed (by (with_reducible repeat (first | apply Kd.N_alloc | apply Kd.N_drewN | apply Kd.N_drew)); exact HO241.out)) (by decide) hg); have n3_ := Aside0.mk (hb); have n4_ := Aside0.mk (ho); clear HO1; clear HO232; clear HO238; clear HB; clear HO241; have HO1 := n0_; have HO232 := n1_; have HO238 := n2_; have HB := n3_; have HO244 := n4_; clear n0_ n1_ n2_ n3_ n4_; clear ho hb hg hat))
 go_loopg [7, 8, 10] k (fun kq v7 v8 v10 w' => ∃ (x7_1 : List (S31)) (x8_1 : List Int) (x9_1 : List (S49)) (x10_1 : Int), v10 = .int .i64 x10_1 ∧ Aside0 (spec_Trace.l0 kq l2 x7_1 x8_1 x9_1 x10_1 = some r) ∧ Aside0 (kq ≤ k) ∧ Aside0 (Kd.R k31 31 w' w.heap.size (fun k_ => (w.heap.size ≤ k_)) v7 x7_1) ∧ Aside0 (Kd.R (Kd.int .i64) 3 w' w.heap.size (fun k_ => (w.heap.size ≤ k_)) v8 x8_1) ∧ Aside0 (Kd.N k49 49 w' w.heap.size (fun k_ => (P1_ k_ ∨ w.heap.size ≤ k_) ∧ some k_ ≠ (v7 : Value).ownBlock ∧ some k_ ≠ (v8 : Value).ownBlock) v243 x9_1) ∧ Aside0 (Below w.heap.size w w'))
 case atStart => exact ⟨(y230), (y236), (y242), (0), (by first | rfl | (simp; done) | (simp [*]; done)), H', ⟨Nat.le_refl _⟩, ⟨by (with_reducible repeat (first | apply Kd.R_alloc | apply Kd.R_drewN | apply Kd.R_drew)); exact Kd.R_mono HO232.out (fun _ hk => hk.1)⟩, ⟨zR6 HO238.out⟩, ⟨by (with_reducible repeat (first | apply Kd.N_alloc | apply Kd.N_drewN | apply Kd.N_drew)); exact HO244.out⟩, ⟨zB6_0⟩⟩
 case round =>
  clear H'
  try clear c1
  try clear c2
  try clear p2
  try clear c4
  try clear c5
  obtain ⟨x7_1, x8_1, x9_1, x10_1, rfl, HA, HK1, HO_7, HO_8, HO_9, HB⟩ := hrel
  cases gk with
  | zero => exact absurd HA.out (by simp [spec_Trace.l0])
  | succ k1 =>
   have H := HA.out
   clear HA
   simp only [spec_Trace.l0] at H
   have HC14 := Aside0.mk H
   clear H
   go_upto_region 5 with (fail)
   go_cut [31] (fun v31 wc => ∃ (kq : Nat) (x31_13 : Bool), v31 = .bool x31_13 ∧ Aside0 (spec_Trace.j1 kq l2 x7_1 x8_1 x9_1 x10_1 x31_13 = some r) ∧ Aside0 (kq ≤ k1) ∧ Aside0 (Kd.R k31 31 wc w.heap.size (fun k_ => (w.heap.size ≤ k_)) u7 x7_1) ∧ Aside0 (Kd.R (Kd.int .i64) 3 wc w.heap.size (fun k_ => (w.heap.size ≤ k_)) u8 x8_1) ∧ Aside0 (Kd.N k49 49 wc w.heap.size (fun k_ => (P1_ k_ ∨ w.heap.size ≤ k_) ∧ some k_ ≠ (u7 : Value).ownBlock ∧ some k_ ≠ (u8 : Value).ownBlock) v243 x9_1) ∧ Aside0 (Below w.heap.size w wc))
   case first =>
    have H := HC14.out
    clear HC14
    by_cases c15 : x10_1 < (l2.length : Int)
    rotate_left
    ·rw [if_neg c15] at H
     have c15b0 : decide (x10_1 < (l2.length : Int)) = false := decide_eq_false c15
     clear c15
     (first | rw [c15b0] | (simp only [i64_w, i32_w]; rw [c15b0]) | skip)
     have H' := Aside0.mk H
     clear H
     go_wp2
     go_meet
     case rel => exact ⟨_, (false), (by first | rfl | (simp; done) | (simp [*]; done)), H', ⟨by have := HK1.out; first | omega | exact Nat.le_refl _⟩, ⟨zR6 HO_7.out⟩, ⟨zR6 HO_8.out⟩, ⟨by (with_reducible repeat (first | apply Kd.N_alloc | apply Kd.N_drewN | apply Kd.N_drew)); exact HO_9.out⟩, ⟨zB6_0⟩⟩
    rw [if_pos c15] at H
    have c15b0 : decide (x10_1 < (l2.length : Int)) = true := decide_eq_true c15
    clear c15
    (first | rw [c15b0] | (simp only [i64_w, i32_w]; rw [c15b0]) | skip)
    have H' := Aside0.mk H
    clear H
    go_wp2
    go_meet
    case rel => exact ⟨_, (decide ((l2.length : Int) ≤ 2000)), (by first | rfl | (simp; done) | (simp [*]; done)), H', ⟨by have := HK1.out; first | omega | exact Nat.le_refl _⟩, ⟨zR6 HO_7.out⟩, ⟨zR6 HO_8.out⟩, ⟨by (with_reducible repeat (first | apply Kd.N_alloc | apply Kd.N_drewN | apply Kd.N_drew)); exact HO_9.out⟩, ⟨zB6_0⟩⟩
   case rest =>
    clear HC14
    try clear c1
    try clear c2
    try clear p2
    try clear c4
    try clear c5
    try clear c15
    try clear c15b0
    try clear p2
    obtain ⟨kq, x31_13, rfl, HA, HJ13, HO_7, HO_8, HO_9, HB⟩ := hcut
    cases kq with
    | zero => exact absurd HA.out (by simp [spec_Trace.j1])
    | succ kj13 =>
     have H := HA.out
     clear HA
     simp only [spec_Trace.j1] at H
     by_cases c16 : x31_13 = true
     rotate_left
     ·replace c16 := Bool.eq_false_iff.mpr c16
      subst c16
      have H1 : (some x7_1) = some r := by rw [if_neg (show ¬ (false = true) by decide)] at H; exact H
      clear H
      have H := H1
      clear H1
      obtain rfl := Option.some.inj H
      go_wp2
      go_ret
      exact ⟨_, zE6, zR6 HO_7.out, zB6_0⟩
     subst c16
     have H1 : (if 0 ≤ x10_1 then (if x10_1 < (l2.length : Int) then ((spec_l1In.f (rd l2 x10_1) 0 (wrap64 ((x9_1.length : Int) - 1))).bind fun t246 => (if t246 = true then (if 0 ≤ (rd l2 x10_1) then (if (rd l2 x10_1) < (x9_1.length : Int) then ((spec_EventOf.f kj13 x8_1 ((rd_T49 x9_1 (rd l2 x10_1)).f0) ((rd_T49 x9_1 (rd l2 x10_1)).f1) ((rd_T49 x9_1 (rd l2 x10_1)).f2) (rd l2 x10_1)).bind fun bt248 => (if bt248.2.2.2.2.2 = true then (if x7_1.length < 3518437208883 then ((spec_FlatStep.f kj13 x8_1 ((rd_T49 x9_1 (rd l2 x10_1)).f0) ((rd_T49 x9_1 (rd l2 x10_1)).f1) ((rd_T49 x9_1 (rd l2 x10_1)).f2)).bind fun bt259 => (spec_Trace.l0 kj13 l2 (x7_1 ++ [(⟨bt248.1, bt248.2.1, bt248.2.2.1, bt248.2.2.2.1, bt248.2.2.2.2.1⟩ : S31)]) bt259.1 (x9_1.set ((rd l2 x10_1) : Int).toNat (⟨bt259.2.1, bt259.2.2.1, bt259.2.2.2⟩ : S49)) (wrap64 (x10_1 + 1)))) else (none)) else ((spec_FlatStep.f kj13 x8_1 ((rd_T49 x9_1 (rd l2 x10_1)).f0) ((rd_T49 x9_1 (rd l2 x10_1)).f1) ((rd_T49 x9_1 (rd l2 x10_1)).f2)).bind fun bt270 => (spec_Trace.l0 kj13 l2 x7_1 bt270.1 (x9_1.set ((rd l2 x10_1) : Int).toNat (⟨bt270.2.1, bt270.2.2.1, bt270.2.2.2⟩ : S49)) (wrap64 (x10_1 + 1)))))) else (none)) else (none)) else (spec_Trace.l0 kj13 l2 x7_1 x8_1 x9_1 (wrap64 (x10_1 + 1))))) else (none)) else (none)) = some r := by rw [if_pos rfl] at H; exact H
     clear H
     have H := H1
     clear H1
     by_cases c17 : 0 ≤ x10_1
     rotate_left
     ·rw [if_neg c17] at H
      exact absurd H (by simp)
     rw [if_pos c17] at H
     have c17b0 : decide (0 ≤ x10_1) = true := decide_eq_true c17
     clear c17
     by_cases c18 : x10_1 < (l2.length : Int)
     rotate_left
     ·rw [if_neg c18] at H
      exact absurd H (by simp)
     rw [if_pos c18] at H
     have c18b0 : decide (x10_1 < (l2.length : Int)) = true := decide_eq_true c18
     clear c18
     replace H := Option.bind_eq_some_iff.mp H
     obtain ⟨t246, A190, H⟩ := H
     replace H : (if t246 = true then (if 0 ≤ (rd l2 x10_1) then (if (rd l2 x10_1) < (x9_1.length : Int) then ((spec_EventOf.f kj13 x8_1 ((rd_T49 x9_1 (rd l2 x10_1)).f0) ((rd_T49 x9_1 (rd l2 x10_1)).f1) ((rd_T49 x9_1 (rd l2 x10_1)).f2) (rd l2 x10_1)).bind fun bt248 => (if bt248.2.2.2.2.2 = true then (if x7_1.length < 3518437208883 then ((spec_FlatStep.f kj13 x8_1 ((rd_T49 x9_1 (rd l2 x10_1)).f0) ((rd_T49 x9_1 (rd l2 x10_1)).f1) ((rd_T49 x9_1 (rd l2 x10_1)).f2)).bind fun bt259 => (spec_Trace.l0 kj13 l2 (x7_1 ++ [(⟨bt248.1, bt248.2.1, bt248.2.2.1, bt248.2.2.2.1, bt248.2.2.2.2.1⟩ : S31)]) bt259.1 (x9_1.set ((rd l2 x10_1) : Int).toNat (⟨bt259.2.1, bt259.2.2.1, bt259.2.2.2⟩ : S49)) (wrap64 (x10_1 + 1)))) else (none)) else ((spec_FlatStep.f kj13 x8_1 ((rd_T49 x9_1 (rd l2 x10_1)).f0) ((rd_T49 x9_1 (rd l2 x10_1)).f1) ((rd_T49 x9_1 (rd l2 x10_1)).f2)).bind fun bt270 => (spec_Trace.l0 kj13 l2 x7_1 bt270.1 (x9_1.set ((rd l2 x10_1) : Int).toNat (⟨bt270.2.1, bt270.2.2.1, bt270.2.2.2⟩ : S49)) (wrap64 (x10_1 + 1)))))) else (none)) else (none)) else (spec_Trace.l0 kj13 l2 x7_1 x8_1 x9_1 (wrap64 (x10_1 + 1)))) = some r := H
     have A19 := Aside0.mk A190
     clear A190
     by_cases c20 : t246 = true
     rotate_left
     ·replace c20 := Bool.eq_false_iff.mpr c20
      subst c20
      have H1 : (spec_Trace.l0 kj13 l2 x7_1 x8_1 x9_1 (wrap64 (x10_1 + 1))) = some r := by rw [if_neg (show ¬ (false = true) by decide)] at H; exact H
      clear H
      have H := H1
      clear H1
      have H' := Aside0.mk H
      clear H
      have p245 : 0 ≤ (x10_1 : Int) := zA6
      have q245 : x10_1 < (l2.length : Int) := zA6
      obtain ⟨ad245, e245, hx245_0⟩ := Kd.at_int HR2.out x10_1 p245 q245
      cases e245
      replace hx245_0 := (HB.out.cell (World.block_lt_of_cell? w _ hx245_0)).trans hx245_0
      replace p245 := eq_true p245
      replace q245 := eq_true q245
      obtain ⟨Ao60, co60, eo60⟩ := Kd.N_slice HO_9.out
      subst eo60
      go_wp2_with (first | ((with_reducible refine gate_callee (f := 44) rfl ?_); refine goesL_ (some 42) rfl rfl Try.func44 (by kernel_rfl) rfl #[.int .i64 (rd l2 x10_1), .int .i64 0, .int .i64 (wrap64 ((x9_1.length : Int) - 1))] rfl zT6 ?_; (with_reducible refine (spec_l1In.calls (rd l2 x10_1) 0 (wrap64 ((x9_1.length : Int) - 1)) false _ A19.out).mono ?_); rintro e w' ⟨rfl, ⟨nd, rfl⟩⟩; refine ⟨_, rfl, ?_⟩))
      go_roundg kj13
      case measure => have := HK1.out; have := HJ13.out; omega
      case rel => exact ⟨(x7_1), (x8_1), (x9_1), (wrap64 (x10_1 + 1)), (by first | rfl | (simp; done) | (simp [*]; done)), H', ⟨by have := HK1.out; have := HJ13.out; omega⟩, ⟨zR6 HO_7.out⟩, ⟨zR6 HO_8.out⟩, ⟨by (with_reducible repeat (first | apply Kd.N_alloc | apply Kd.N_drewN | apply Kd.N_drew)); exact HO_9.out⟩, ⟨zB6_0⟩⟩
     subst c20
     have H1 : (if 0 ≤ (rd l2 x10_1) then (if (rd l2 x10_1) < (x9_1.length : Int) then ((spec_EventOf.f kj13 x8_1 ((rd_T49 x9_1 (rd l2 x10_1)).f0) ((rd_T49 x9_1 (rd l2 x10_1)).f1) ((rd_T49 x9_1 (rd l2 x10_1)).f2) (rd l2 x10_1)).bind fun bt248 => (if bt248.2.2.2.2.2 = true then (if x7_1.length < 3518437208883 then ((spec_FlatStep.f kj13 x8_1 ((rd_T49 x9_1 (rd l2 x10_1)).f0) ((rd_T49 x9_1 (rd l2 x10_1)).f1) ((rd_T49 x9_1 (rd l2 x10_1)).f2)).bind fun bt259 => (spec_Trace.l0 kj13 l2 (x7_1 ++ [(⟨bt248.1, bt248.2.1, bt248.2.2.1, bt248.2.2.2.1, bt248.2.2.2.2.1⟩ : S31)]) bt259.1 (x9_1.set ((rd l2 x10_1) : Int).toNat (⟨bt259.2.1, bt259.2.2.1, bt259.2.2.2⟩ : S49)) (wrap64 (x10_1 + 1)))) else (none)) else ((spec_FlatStep.f kj13 x8_1 ((rd_T49 x9_1 (rd l2 x10_1)).f0) ((rd_T49 x9_1 (rd l2 x10_1)).f1) ((rd_T49 x9_1 (rd l2 x10_1)).f2)).bind fun bt270 => (spec_Trace.l0 kj13 l2 x7_1 bt270.1 (x9_1.set ((rd l2 x10_1) : Int).toNat (⟨bt270.2.1, bt270.2.2.1, bt270.2.2.2⟩ : S49)) (wrap64 (x10_1 + 1)))))) else (none)) else (none)) = some r := by rw [if_pos rfl] at H; exact H
     clear H
     have H := H1
     clear H1
     by_cases c21 : 0 ≤ (rd l2 x10_1)
     rotate_left
     ·rw [if_neg c21] at H
      exact absurd H (by simp)
     rw [if_pos c21] at H
     have c21b0 : decide (0 ≤ (rd l2 x10_1)) = true := decide_eq_true c21
     clear c21
     by_cases c22 : (rd l2 x10_1) < (x9_1.length : Int)
     rotate_left
     ·rw [if_neg c22] at H
      exact absurd H (by simp)
     rw [if_pos c22] at H
     have c22b0 : decide ((rd l2 x10_1) < (x9_1.length : Int)) = true := decide_eq_true c22
     clear c22
     replace H := Option.bind_eq_some_iff.mp H
     obtain ⟨⟨t248, t249, t250, t251, t252, t253⟩, A230, H⟩ := H
     replace H : (if t253 = true then (if x7_1.length < 3518437208883 then ((spec_FlatStep.f kj13 x8_1 ((rd_T49 x9_1 (rd l2 x10_1)).f0) ((rd_T49 x9_1 (rd l2 x10_1)).f1) ((rd_T49 x9_1 (rd l2 x10_1)).f2)).bind fun bt259 => (spec_Trace.l0 kj13 l2 (x7_1 ++ [(⟨t248, t249, t250, t251, t252⟩ : S31)]) bt259.1 (x9_1.set ((rd l2 x10_1) : Int).toNat (⟨bt259.2.1, bt259.2.2.1, bt259.2.2.2⟩ : S49)) (wrap64 (x10_1 + 1)))) else (none)) else ((spec_FlatStep.f kj13 x8_1 ((rd_T49 x9_1 (rd l2 x10_1)).f0) ((rd_T49 x9_1 (rd l2 x10_1)).f1) ((rd_T49 x9_1 (rd l2 x10_1)).f2)).bind fun bt270 => (spec_Trace.l0 kj13 l2 x7_1 bt270.1 (x9_1.set ((rd l2 x10_1) : Int).toNat (⟨bt270.2.1, bt270.2.2.1, bt270.2.2.2⟩ : S49)) (wrap64 (x10_1 + 1))))) = some r := H
     have A23 := Aside0.mk A230
     clear A230
     by_cases c24 : t253 = true
     rotate_left
     ·replace c24 := Bool.eq_false_iff.mpr c24
      subst c24
      have H1 : ((spec_FlatStep.f kj13 x8_1 ((rd_T49 x9_1 (rd l2 x10_1)).f0) ((rd_T49 x9_1 (rd l2 x10_1)).f1) ((rd_T49 x9_1 (rd l2 x10_1)).f2)).bind fun bt270 => (spec_Trace.l0 kj13 l2 x7_1 bt270.1 (x9_1.set ((rd l2 x10_1) : Int).toNat (⟨bt270.2.1, bt270.2.2.1, bt270.2.2.2⟩ : S49)) (wrap64 (x10_1 + 1)))) = some r := by rw [if_neg (show ¬ (false = true) by decide)] at H; exact H
      clear H
      have H := H1
      clear H1
      replace H := Option.bind_eq_some_iff.mp H
      obtain ⟨⟨t270, t273, t276, t277⟩, A430, H⟩ := H
      replace H : (spec_Trace.l0 kj13 l2 x7_1 t270 (x9_1.set ((rd l2 x10_1) : Int).toNat (⟨t273, t276, t277⟩ : S49)) (wrap64 (x10_1 + 1))) = some r := H
      have A43 := Aside0.mk A430
      clear A430
      obtain ⟨y279, hy279⟩ : ∃ y_ : List (S49), y_ = (x9_1.set ((rd l2 x10_1) : Int).toNat (⟨t273, t276, t277⟩ : S49)) := ⟨_, rfl⟩
      replace H : (spec_Trace.l0 kj13 l2 x7_1 t270 y279 (wrap64 (x10_1 + 1))) = some r := by first | (rw [hy279]; with_reducible exact H) | (have H2_ := (Option.bind_some _ _).symm.trans H; rw [hy279]; with_reducible exact H2_) | (have H2_ := (Option.bind_some _ _).symm.trans H; with_reducible exact H2_) | with_reducible exact H | (rw [hy279]; exact H) | exact H
      have Ny279 := Aside0.mk hy279
      clear hy279
      have H' := Aside0.mk H
      clear H
      have p245 : 0 ≤ (x10_1 : Int) := zA6
      have q245 : x10_1 < (l2.length : Int) := zA6
      obtain ⟨ad245, e245, hx245_0⟩ := Kd.at_int HR2.out x10_1 p245 q245
      cases e245
      replace hx245_0 := (HB.out.cell (World.block_lt_of_cell? w _ hx245_0)).trans hx245_0
      replace p245 := eq_true p245
      replace q245 := eq_true q245
      obtain ⟨Ao45, co45, eo45⟩ := Kd.N_slice HO_9.out
      subst eo45
      go_wp2_with (first | ((with_reducible refine gate_callee (f := 44) rfl ?_); refine goesL_ (some 42) rfl rfl Try.func44 (by kernel_rfl) rfl #[.int .i64 (rd l2 x10_1), .int .i64 0, .int .i64 (wrap64 ((x9_1.length : Int) - 1))] rfl zT6 ?_; (with_reducible refine (spec_l1In.calls (rd l2 x10_1) 0 (wrap64 ((x9_1.length : Int) - 1)) true _ A19.out).mono ?_); rintro e w' ⟨rfl, ⟨nd, rfl⟩⟩; refine ⟨_, rfl, ?_⟩; (try (rw [drewN_self wc]; generalize hq_ : World.drewN wc _ = wc; have n0_ : Aside0 (Kd.R k31 31 wc w.heap.size (fun k_ => (w.heap.size ≤ k_)) u7 x7_1) := ⟨by rw [← hq_]; exact (zR6 HO_7.out)⟩; have n1_ : Aside0 (Kd.R (Kd.int .i64) 3 wc w.heap.size (fun k_ => (w.heap.size ≤ k_)) u8 x8_1) := ⟨by rw [← hq_]; exact (zR6 HO_8.out)⟩; have n2_ : Aside0 (Kd.N k49 49 wc w.heap.size (fun k_ => (P1_ k_ ∨ w.heap.size ≤ k_) ∧ some k_ ≠ (u7 : Value).ownBlock ∧ some k_ ≠ (u8 : Value).ownBlock) (.slice Ao45 x9_1.length co45) x9_1) := ⟨by rw [← hq_]; exact (by (with_reducible repeat (first | apply Kd.N_alloc | apply Kd.N_drewN | apply Kd.N_drew)); exact HO_9.out)⟩; have n3_ : Aside0 (Below w.heap.size w wc) := ⟨by rw [← hq_]; exact (zB6_0)⟩; clear HO_7 HO_8 HO_9 HB hq_; have HO_7 := n0_; have HO_8 := n1_; have HO_9 := n2_; have HB := n3_; clear n0_ n1_ n2_ n3_)); have p247 : 0 ≤ ((rd l2 x10_1) : Int) := zA6; have q247 : (rd l2 x10_1) < (x9_1.length : Int) := zA6; obtain ⟨ad247, A247_0, c247_0, e247, hx247_0, hx247_1, hx247_2, hl247_0, hi247_0⟩ := at_T49 (Kd.N_reads' HO_9.out).2.2 (rd l2 x10_1) p247 q247; cases e247; obtain ⟨ce247, hce247, hMe247, hcc247⟩ := Kd.N_get HO_9.out z49 (rd l2 x10_1) p247 (by first | exact q247 | exact zA6 | (have e_ := (Kd.N_reads' HO_9.out).1; omega)); obtain ⟨ua247_0, uc247_0, rfl, ul247_0, ge247_0⟩ := k49_openF hMe247; have hv247_0 := hcc247 0 _ rfl; rw [Nat.add_zero] at hv247_0; replace hv247_0 := Option.some.inj (hv247_0.symm.trans hx247_0); injection hv247_0 with hva_ hvn_ hvc_; rw [hva_] at ge247_0; rw [hvc_] at ul247_0; have HL247_0 := Aside0.mk (show Kd.V (Kd.int .i64) 3 _ w.heap.size _ _ ((rd_T49 x9_1 (rd l2 x10_1)).f0) from Kd.V_mk ul247_0 ge247_0); clear hva_ hvn_ hvc_ ge247_0 ul247_0; clear hcc247 hce247; have HR247_0 := Aside0.mk hi247_0; have HC247_0 := Aside0.mk hl247_0; clear hi247_0 hl247_0; replace p247 := eq_true p247; replace q247 := eq_true q247; obtain ⟨Ao46, co46, eo46⟩ := Kd.R_slice HO_8.out; subst eo46) | ((with_reducible refine gate_callee (f := 56) rfl ?_); refine goesL_ (some 51) rfl rfl Try.func56 (by kernel_rfl) rfl #[.slice Ao46 x8_1.length co46, .agg #[.slice A247_0 ((rd_T49 x9_1 (rd l2 x10_1)).f0).length c247_0, .int .i64 ((rd_T49 x9_1 (rd l2 x10_1)).f1), .int .i64 ((rd_T49 x9_1 (rd l2 x10_1)).f2)], .int .i64 (rd l2 x10_1)] rfl zT6 ?_; (with_reducible refine (spec_EventOf.calls kj13 _ _ x8_1 _ _ ((rd_T49 x9_1 (rd l2 x10_1)).f0) ((rd_T49 x9_1 (rd l2 x10_1)).f1) ((rd_T49 x9_1 (rd l2 x10_1)).f2) (rd l2 x10_1) t248 t249 t250 t251 t252 false _ ?side1 ?side2 ?side3 ?side4 A23.out).mono ?_); (case side1 => exact zC6 (Kd.R_reads' HO_8.out).2.2); (case side2 => exact (Kd.R_reads' HO_8.out).2.1); (case side3 => exact zC6 HR247_0.out); (case side4 => exact HC247_0.out); rintro e w47 ⟨rfl, hb⟩; refine ⟨_, rfl, ?_⟩; have n0_ := Aside0.mk (Kd.R_below (zR6 HO_7.out) hb); have n1_ := Aside0.mk (Kd.R_below (zR6 HO_8.out) hb); have n2_ := Aside0.mk (Kd.N_below (by (with_reducible repeat (first | apply Kd.N_alloc | apply Kd.N_drewN | apply Kd.N_drew)); exact HO_9.out) hb); have n3_ := Aside0.mk (Kd.V_below (by (with_reducible repeat (first | apply Kd.V_alloc | apply Kd.V_drewN | apply Kd.V_drew)); exact HL247_0.out) hb); have n4_ := Aside0.mk (Kd.C_below (by repeat (first | (with_reducible exact HR247_0.out) | (with_reducible refine Kd.C_alloc ?_ _) | (with_reducible refine Kd.C_drewN ?_ _) | (with_reducible refine Kd.C_drew ?_) | exact HR247_0.out)) hb); have n5_ := Aside0.mk (below_step (zB6_0) hb); clear HO_7; clear HO_8; clear HO_9; clear HL247_0; clear HR247_0; clear HB; have HO_7 := n0_; have HO_8 := n1_; have HO_9 := n2_; have HL247_0 := n3_; have HR247_0 := n4_; have HB := n5_; clear n0_ n1_ n2_ n3_ n4_ n5_; (try clear hb); (try clear hb2); (try clear hk); (try clear hi)) | ((with_reducible refine gate_dst (N := 12) rfl ?_); (try (refine gate_guard (by rfl) ?_; dsimp only)); refine box_event ?hg (N := 12) ?hd (cs := #[.int .i64 0, .int .i64 0, .int .i64 0, .int .i64 0, .int .i64 0]) (t := 31) ?hr ?_; (case hd => rfl); (case hg => rfl); (case hr => first | (go_simp; done) | (go_simp; rfl)); intro gb254 hg w48 hbox hb; have n0_ := Aside0.mk (Kd.R_below (Kd.R_elderB (zR6 HO_7.out) gb254 (Nat.le_of_eq hg.symm)) hb); have n1_ := Aside0.mk (Kd.R_below (zR6 HO_8.out) hb); have n2_ := Aside0.mk (Kd.N_below (Kd.N_elderB (by (with_reducible repeat (first | apply Kd.N_alloc | apply Kd.N_drewN | apply Kd.N_drew)); exact HO_9.out) gb254 (Nat.le_of_eq hg.symm)) hb); have n3_ := Aside0.mk (Kd.V_below (Kd.V_elderB (by (with_reducible repeat (first | apply Kd.V_alloc | apply Kd.V_drewN | apply Kd.V_drew)); exact HL247_0.out) gb254 (Nat.le_of_eq hg.symm)) hb); have n4_ := Aside0.mk (Kd.C_below (by repeat (first | (with_reducible exact HR247_0.out) | (with_reducible refine Kd.C_alloc ?_ _) | (with_reducible refine Kd.C_drewN ?_ _) | (with_reducible refine Kd.C_drew ?_) | exact HR247_0.out)) hb); have n5_ := Aside0.mk (below_step (zB6_0) hb); have n6_ := Aside0.mk (hbox); have n7_ := Aside0.mk ((by rw [hg]; exact (below_size (zB6_0)) : w.heap.size ≤ gb254)); have n8_ := Aside0.mk ((by rw [hg]; exact (below_size (zB6_0)) : w.heap.size ≤ gb254)); clear HO_7; clear HO_8; clear HO_9; clear HL247_0; clear HR247_0; clear HB; have HO_7 := n0_; have HO_8 := n1_; have HO_9 := n2_; have HL247_0 := n3_; have HR247_0 := n4_; have HB := n5_; have BK254 := n6_; have GW254 := n7_; have GE254 := n8_; clear n0_ n1_ n2_ n3_ n4_ n5_ n6_ n7_ n8_; clear hb hbox hg; obtain ⟨hcz49_0, hcz49_1, hcz49_2, hcz49_3, hcz49_4, hfz49_0, hfz49_1, hfz49_2, hfz49_3, hfz49_4⟩ := zc6_5 (w := w48) BK254.out) | ((with_reducible refine gate_store (t := 31) (p := 12) rfl ?_); refine store_event (t := 31) (p := 12) (v := ?vo_w50) (w1 := (((((w48.setCell ⟨gb254, 0, none⟩ (.int .i64 t248)).setCell ⟨gb254, 1, none⟩ (.int .i64 t249)).setCell ⟨gb254, 2, none⟩ (.int .i64 t250)).setCell ⟨gb254, 3, none⟩ (.int .i64 t251)).setCell ⟨gb254, 4, none⟩ (.int .i64 t252))) ?hg ?ho ?hn ?hr ?_; (case ho => rfl); (case hg => rfl); (case hn => rfl); (case hr => first | (go_simp; done) | (go_simp; rfl)); intro w50 hw; have n0_ : Aside0 (Kd.R k31 31 w50 w.heap.size (fun k_ => (w.heap.size ≤ k_) ∧ k_ ≠ gb254) u7 x7_1) := ⟨(by rw [hw]; exact (by (with_reducible repeat (first | apply Kd.R_alloc | apply Kd.R_drewN | apply Kd.R_drew)); exact Kd.R_mono (Kd.R_far (p := ⟨gb254, 4, none⟩) (Kd.R_far (p := ⟨gb254, 3, none⟩) (Kd.R_far (p := ⟨gb254, 2, none⟩) (Kd.R_far (p := ⟨gb254, 1, none⟩) (Kd.R_far (p := ⟨gb254, 0, none⟩) (Kd.R_mono HO_7.out (fun k_ hk => (⟨hk, hk.2⟩ : _ ∧ k_ ≠ gb254))) (fun _ hk => hk.2) (.int .i64 t248)) (fun _ hk => hk.2) (.int .i64 t249)) (fun _ hk => hk.2) (.int .i64 t250)) (fun _ hk => hk.2) (.int .i64 t251)) (fun _ hk => hk.2) (.int .i64 t252)) (fun _ hk => ⟨hk.1.1, hk.1.2⟩)))⟩; have n1_ : Aside0 (Kd.R (Kd.int .i64) 3 w50 w.heap.size (fun k_ => (w.heap.size ≤ k_)) (.slice Ao46 x8_1.length co46) x8_1) := ⟨(by rw [hw]; exact (by (with_reducible repeat (first | apply Kd.R_alloc | apply Kd.R_drewN | apply Kd.R_drew)); exact Kd.R_mono (Kd.R_far (p := ⟨gb254, 4, none⟩) (Kd.R_far (p := ⟨gb254, 3, none⟩) (Kd.R_far (p := ⟨gb254, 2, none⟩) (Kd.R_far (p := ⟨gb254, 1, none⟩) (Kd.R_far (p := ⟨gb254, 0, none⟩) (Kd.R_types HO_8.out BK254.out (by decide)) (fun _ hk => hk.2) (.int .i64 t248)) (fun _ hk => hk.2) (.int .i64 t249)) (fun _ hk => hk.2) (.int .i64 t250)) (fun _ hk => hk.2) (.int .i64 t251)) (fun _ hk => hk.2) (.int .i64 t252)) (fun _ hk => hk.1)))⟩; have n2_ : Aside0 (Kd.N k49 49 w50 w.heap.size (fun k_ => (P1_ k_ ∨ w.heap.size ≤ k_) ∧ some k_ ≠ (u7 : Value).ownBlock ∧ some k_ ≠ (.slice Ao46 x8_1.length co46 : Value).ownBlock ∧ k_ ≠ gb254) (.slice (some ad247) x9_1.length co45) x9_1) := ⟨(by rw [hw]; exact (by (with_reducible repeat (first | apply Kd.N_alloc | apply Kd.N_drewN | apply Kd.N_drew)); exact Kd.N_mono (Kd.N_far (p := ⟨gb254, 4, none⟩) (Kd.N_far (p := ⟨gb254, 3, none⟩) (Kd.N_far (p := ⟨gb254, 2, none⟩) (Kd.N_far (p := ⟨gb254, 1, none⟩) (Kd.N_far (p := ⟨gb254, 0, none⟩) (Kd.N_mono HO_9.out (fun k_ hk => (⟨hk, hk.2⟩ : _ ∧ k_ ≠ gb254))) (fun _ hk => hk.2) (.int .i64 t248)) (fun _ hk => hk.2) (.int .i64 t249)) (fun _ hk => hk.2) (.int .i64 t250)) (fun _ hk => hk.2) (.int .i64 t251)) (fun _ hk => hk.2) (.int .i64 t252)) (fun _ hk => ⟨hk.1.1.1, ⟨hk.1.1.2.1, ⟨hk.1.1.2.2, hk.1.2⟩⟩⟩)))⟩; have n3_ : Aside0 (Kd.V (Kd.int .i64) 3 w50 w.heap.size (fun k_ => (P1_ k_ ∨ w.heap.size ≤ k_) ∧ some k_ ≠ (u7 : Value).ownBlock ∧ some k_ ≠ (.slice Ao46 x8_1.length co46 : Value).ownBlock ∧ some k_ ≠ (.slice (some ad247) x9_1.length co45 : Value).ownBlock ∧ k_ ≠ gb254) (.slice A247_0 ((rd_T49 x9_1 (rd l2 x10_1)).f0).length c247_0) ((rd_T49 x9_1 (rd l2 x10_1)).f0)) := ⟨(by rw [hw]; exact (by (with_reducible repeat (first | apply Kd.V_alloc | apply Kd.V_drewN | apply Kd.V_drew)); exact Kd.V_mono (Kd.V_far (p := ⟨gb254, 4, none⟩) (Kd.V_far (p := ⟨gb254, 3, none⟩) (Kd.V_far (p := ⟨gb254, 2, none⟩) (Kd.V_far (p := ⟨gb254, 1, none⟩) (Kd.V_far (p := ⟨gb254, 0, none⟩) (Kd.V_mono HL247_0.out (fun k_ hk => (⟨hk, hk.2⟩ : _ ∧ k_ ≠ gb254))) (fun _ hk => hk.2) (.int .i64 t248)) (fun _ hk => hk.2) (.int .i64 t249)) (fun _ hk => hk.2) (.int .i64 t250)) (fun _ hk => hk.2) (.int .i64 t251)) (fun _ hk => hk.2) (.int .i64 t252)) (fun _ hk => ⟨hk.1.1.1.1, ⟨hk.1.1.1.2.1, ⟨hk.1.1.1.2.2, ⟨hk.1.1.2, hk.1.2⟩⟩⟩⟩)))⟩; have n4_ : Aside0 (w50.heap[gb254]? = some (.cells #[.int .i64 t248, .int .i64 t249, .int .i64 t250, .int .i64 t251, .int .i64 t252] 31 (0, 0))) := ⟨(by rw [hw]; exact (by refine zP6 ?_; refine blk_put (cs := #[.int .i64 t248, .int .i64 t249, .int .i64 t250, .int .i64 t251, .int .i64 0]) ?_ 4 _ rfl; refine zP6 ?_; refine blk_put (cs := #[.int .i64 t248, .int .i64 t249, .int .i64 t250, .int .i64 0, .int .i64 0]) ?_ 3 _ rfl; refine zP6 ?_; refine blk_put (cs := #[.int .i64 t248, .int .i64 t249, .int .i64 0, .int .i64 0, .int .i64 0]) ?_ 2 _ rfl; refine zP6 ?_; refine blk_put (cs := #[.int .i64 t248, .int .i64 0, .int .i64 0, .int .i64 0, .int .i64 0]) ?_ 1 _ rfl; refine zP6 ?_; refine blk_put (cs := #[.int .i64 0, .int .i64 0, .int .i64 0, .int .i64 0, .int .i64 0]) ?_ 0 _ rfl; refine zP6 ?_; exact BK254.out))⟩; have n5_ : Aside0 (Below w.heap.size w w50) := ⟨(by rw [hw]; exact (zB6_1))⟩; clear hw; clear HO_7; clear HO_8; clear HO_9; clear HL247_0; clear BK254; clear HB; have HO_7 := n0_; have HO_8 := n1_; have HO_9 := n2_; have HL247_0 := n3_; have BK254 := n4_; have HB := n5_; clear n0_ n1_ n2_ n3_ n4_ n5_; have p269 : 0 ≤ ((rd l2 x10_1) : Int) := zA6; have q269 : (rd l2 x10_1) < (x9_1.length : Int) := zA6; obtain ⟨ad269, A269_0, c269_0, e269, hx269_0, hx269_1, hx269_2, hl269_0, hi269_0⟩ := at_T49 (Kd.N_reads' HO_9.out).2.2 (rd l2 x10_1) p269 q269; obtain rfl : ad247 = ad269 := (by injection e269); obtain ⟨ce269, hce269, hMe269, hcc269⟩ := Kd.N_get HO_9.out z49 (rd l2 x10_1) p269 (by first | exact q269 | exact zA6 | (have e_ := (Kd.N_reads' HO_9.out).1; omega)); obtain ⟨ua269_0, uc269_0, rfl, ul269_0, ge269_0⟩ := k49_openF hMe269; have hv269_0 := hcc269 0 _ rfl; rw [Nat.add_zero] at hv269_0; replace hv269_0 := Option.some.inj (hv269_0.symm.trans hx269_0); injection hv269_0 with hva_ hvn_ hvc_; rw [hva_] at ge269_0; rw [hvc_] at ul269_0; have HL269_0 := Aside0.mk (show Kd.V (Kd.int .i64) 3 _ w.heap.size _ _ ((rd_T49 x9_1 (rd l2 x10_1)).f0) from Kd.V_mk ul269_0 ge269_0); clear hva_ hvn_ hvc_ ge269_0 ul269_0; clear hcc269 hce269; have HR269_0 := Aside0.mk hi269_0; have HC269_0 := Aside0.mk hl269_0; clear hi269_0 hl269_0; replace p269 := eq_true p269; replace q269 := eq_true q269) | ((with_reducible refine gate_callee (f := 57) rfl ?_); refine goesL_ (some 65) rfl rfl Try.func57 (by kernel_rfl) rfl #[.slice Ao46 x8_1.length co46, .agg #[.slice A269_0 ((rd_T49 x9_1 (rd l2 x10_1)).f0).length c269_0, .int .i64 ((rd_T49 x9_1 (rd l2 x10_1)).f1), .int .i64 ((rd_T49 x9_1 (rd l2 x10_1)).f2)]] rfl zT6 ?_; (with_reducible refine (spec_FlatStep.calls kj13 _ _ x8_1 _ _ ((rd_T49 x9_1 (rd l2 x10_1)).f0) ((rd_T49 x9_1 (rd l2 x10_1)).f1) ((rd_T49 x9_1 (rd l2 x10_1)).f2) t270 t273 t276 t277 _ ?side1 ?side2 ?side3 ?side4 A43.out).mono ?_); (case side1 => exact zC6 (Kd.R_reads' HO_8.out).2.2); (case side2 => exact (Kd.R_reads' HO_8.out).2.1); (case side3 => exact zC6 HR269_0.out); (case side4 => exact HC269_0.out); rintro e w51 ⟨v271, v274, rfl, ho0, ho1, hb⟩; refine ⟨_, rfl, ?_⟩; have n0_ := Aside0.mk (Kd.R_below (zR6 HO_7.out) hb); have n1_ := Aside0.mk (Kd.R_mono (Kd.R_told (Kd.R_told (Kd.R_old (zR6 HO_8.out) hb) (Kd.R_base ho0)) (Kd.R_base ho1)) (fun _ h_ => h_.1)); have n2_ := Aside0.mk (Kd.N_mono (Kd.N_told (Kd.N_told (Kd.N_old (by (with_reducible repeat (first | apply Kd.N_alloc | apply Kd.N_drewN | apply Kd.N_drew)); exact HO_9.out) hb) (Kd.R_base ho0)) (Kd.R_base ho1)) (fun _ h_ => h_.1)); have n3_ := Aside0.mk (Kd.V_mono (Kd.V_told (Kd.V_told (Kd.V_old (by (with_reducible repeat (first | apply Kd.V_alloc | apply Kd.V_drewN | apply Kd.V_drew)); exact HL247_0.out) hb) (Kd.R_base ho0)) (Kd.R_base ho1)) (fun _ h_ => h_.1)); have n4_ := Aside0.mk (Kd.V_mono (Kd.V_told (Kd.V_told (Kd.V_old (by (with_reducible repeat (first | apply Kd.V_alloc | apply Kd.V_drewN | apply Kd.V_drew)); exact HL269_0.out) hb) (Kd.R_base ho0)) (Kd.R_base ho1)) (fun _ h_ => h_.1)); have n5_ := Aside0.mk (Kd.R_lower (Kd.R_new' (Kd.R_newM (M := fun k_ => (w.heap.size ≤ k_)) ho0 (below_size (zB6_1)) (fun k_ h_ => h_)) (Kd.R_lt (zR6 HO_8.out))) (below_size (zB6_1))); have n6_ := Aside0.mk (Kd.R_lower (Kd.R_new' (Kd.R_newM (M := fun k_ => (w.heap.size ≤ k_)) ho1 (below_size (zB6_1)) (fun k_ h_ => h_)) (Kd.R_lt (zR6 HO_8.out))) (below_size (zB6_1))); have n8_ := Aside0.mk (zb6 BK254.out hb); have n9_ := Aside0.mk (Kd.C_below (by repeat (first | (with_reducible exact HR269_0.out) | (with_reducible refine Kd.C_alloc ?_ _) | (with_reducible refine Kd.C_drewN ?_ _) | (with_reducible refine Kd.C_drew ?_) | exact HR269_0.out)) hb); have n10_ := Aside0.mk (below_step (zB6_1) hb); clear HO_7; clear HO_8; clear HO_9; clear HL247_0; clear HL269_0; clear BK254; clear HR269_0; clear HB; have HO_7 := n0_; have HO_8 := n1_; have HO_9 := n2_; have HL247_0 := n3_; have HL269_0 := n4_; have HO272 := n5_; have HO275 := n6_; have BK254 := n8_; have HR269_0 := n9_; have HB := n10_; clear n0_ n1_ n2_ n3_ n4_ n5_ n6_ n8_ n9_ n10_; (try clear hb); (try clear hb2); (try clear hk); (try clear hi); (try clear ho0); (try clear ho1)) | ((with_reducible refine gate_dst (N := 15) rfl ?_); (try (refine gate_guard (by rfl) ?_; dsimp only)); refine box_event ?hg (N := 15) ?hd (cs := #[.slice none 0 0, .int .i64 0, .int .i64 0]) (t := 49) ?hr ?_; (case hd => rfl); (case hg => rfl); (case hr => first | (go_simp; done) | (go_simp; rfl)); intro gb278 hg w52 hbox hb; have n0_ := Aside0.mk (Kd.R_below (zR6 HO_7.out) hb); have n1_ := Aside0.mk (Kd.R_below (zR6 HO_8.out) hb); have n2_ := Aside0.mk (Kd.N_below (Kd.N_elderB (by (with_reducible repeat (first | apply Kd.N_alloc | apply Kd.N_drewN | apply Kd.N_drew)); exact HO_9.out) gb278 (Nat.le_of_eq hg.symm)) hb); have n3_ := Aside0.mk (Kd.V_below (Kd.V_elderB (by (with_reducible repeat (first | apply Kd.V_alloc | apply Kd.V_drewN | apply Kd.V_drew)); exact HL247_0.out) gb278 (Nat.le_of_eq hg.symm)) hb); have n4_ := Aside0.mk (Kd.V_below (Kd.V_elderB (by (with_reducible repeat (first | apply Kd.V_alloc | apply Kd.V_drewN | apply Kd.V_drew)); exact HL269_0.out) gb278 (Nat.le_of_eq hg.symm)) hb); have n5_ := Aside0.mk (Kd.R_below (zR6 HO272.out) hb); have n6_ := Aside0.mk (Kd.R_below (zR6 HO275.out) hb); have n8_ := Aside0.mk (zb6 BK254.out hb); have n9_ := Aside0.mk (Kd.C_below (by repeat (first | (with_reducible exact HR269_0.out) | (with_reducible refine Kd.C_alloc ?_ _) | (with_reducible refine Kd.C_drewN ?_ _) | (with_reducible refine Kd.C_drew ?_) | exact HR269_0.out)) hb); have n10_ := Aside0.mk (below_step (zB6_1) hb); have n11_ := Aside0.mk (hbox); have n12_ := Aside0.mk ((by rw [hg]; exact (below_size (zB6_1)) : w.heap.size ≤ gb278)); have n13_ := Aside0.mk ((by rw [hg]; exact (below_size (zB6_1)) : w.heap.size ≤ gb278)); have n14_ := Aside0.mk ((zn6 BK254.out hg : gb254 ≠ gb278)); have n15_ := Aside0.mk ((zm6 BK254.out hg : gb278 ≠ gb254)); clear HO_7; clear HO_8; clear HO_9; clear HL247_0; clear HL269_0; clear HO272; clear HO275; clear BK254; clear HR269_0; clear HB; have HO_7 := n0_; have HO_8 := n1_; have HO_9 := n2_; have HL247_0 := n3_; have HL269_0 := n4_; have HO272 := n5_; have HO275 := n6_; have BK254 := n8_; have HR269_0 := n9_; have HB := n10_; have BK278 := n11_; have GW278 := n12_; have GE278 := n13_; have NB254_278 := n14_; have NB278_254 := n15_; clear n0_ n1_ n2_ n3_ n4_ n5_ n6_ n8_ n9_ n10_ n11_ n12_ n13_ n14_ n15_; clear hb hbox hg; obtain ⟨Ao53, co53, eo53⟩ := Kd.R_slice HO275.out; subst eo53; have hnb54 := NB278_254.out; have hnc54 := NB254_278.out; obtain ⟨hcz55_0, hcz55_1, hcz55_2, hfz55_0, hfz55_1, hfz55_2⟩ := zc6_3 (w := w52) BK278.out) | ((with_reducible refine gate_store (t := 49) (p := 15) rfl ?_); refine store_event (t := 49) (p := 15) (v := ?vo_w56) (w1 := (((w52.setCell ⟨gb278, 0, none⟩ (.slice Ao53 t273.length co53)).setCell ⟨gb278, 1, none⟩ (.int .i64 t276)).setCell ⟨gb278, 2, none⟩ (.int .i64 t277))) ?hg ?ho ?hn ?hr ?_; (case ho => rfl); (case hg => rfl); (case hn => rfl); (case hr => first | (go_simp; done) | (go_simp; rfl)); intro w56 hw; have n0_ : Aside0 (Kd.R k31 31 w56 w.heap.size (fun k_ => (w.heap.size ≤ k_) ∧ k_ ≠ gb254) u7 x7_1) := ⟨(by rw [hw]; exact (by (with_reducible repeat (first | apply Kd.R_alloc | apply Kd.R_drewN | apply Kd.R_drew)); exact Kd.R_mono (Kd.R_far (p := ⟨gb278, 2, none⟩) (Kd.R_far (p := ⟨gb278, 1, none⟩) (Kd.R_far (p := ⟨gb278, 0, none⟩) (Kd.R_types HO_7.out BK278.out (by decide)) (fun _ hk => hk.2) (.slice Ao53 t273.length co53)) (fun _ hk => hk.2) (.int .i64 t276)) (fun _ hk => hk.2) (.int .i64 t277)) (fun _ hk => ⟨hk.1.1, hk.1.2⟩)))⟩; have n1_ : Aside0 (Kd.R (Kd.int .i64) 3 w56 w.heap.size (fun k_ => (w.heap.size ≤ k_) ∧ some k_ ≠ (v271 : Value).ownBlock ∧ some k_ ≠ (.slice Ao53 t273.length co53 : Value).ownBlock) (.slice Ao46 x8_1.length co46) x8_1) := ⟨(by rw [hw]; exact (by (with_reducible repeat (first | apply Kd.R_alloc | apply Kd.R_drewN | apply Kd.R_drew)); exact Kd.R_mono (Kd.R_far (p := ⟨gb278, 2, none⟩) (Kd.R_far (p := ⟨gb278, 1, none⟩) (Kd.R_far (p := ⟨gb278, 0, none⟩) (Kd.R_types HO_8.out BK278.out (by decide)) (fun _ hk => hk.2) (.slice Ao53 t273.length co53)) (fun _ hk => hk.2) (.int .i64 t276)) (fun _ hk => hk.2) (.int .i64 t277)) (fun _ hk => ⟨hk.1.1.1, ⟨hk.1.1.2, hk.1.2⟩⟩)))⟩; have n2_ : Aside0 (Kd.N k49 49 w56 w.heap.size (fun k_ => (P1_ k_ ∨ w.heap.size ≤ k_) ∧ some k_ ≠ (u7 : Value).ownBlock ∧ some k_ ≠ (.slice Ao46 x8_1.length co46 : Value).ownBlock ∧ some k_ ≠ (v271 : Value).ownBlock ∧ some k_ ≠ (.slice Ao53 t273.length co53 : Value).ownBlock ∧ k_ ≠ gb254 ∧ k_ ≠ gb278) (.slice (some ad247) x9_1.length co45) x9_1) := ⟨(by rw [hw]; exact (by (with_reducible repeat (first | apply Kd.N_alloc | apply Kd.N_drewN | apply Kd.N_drew)); exact Kd.N_mono (Kd.N_far (p := ⟨gb278, 2, none⟩) (Kd.N_far (p := ⟨gb278, 1, none⟩) (Kd.N_far (p := ⟨gb278, 0, none⟩) (Kd.N_mono HO_9.out (fun k_ hk => (⟨hk, hk.2⟩ : _ ∧ k_ ≠ gb278))) (fun _ hk => hk.2) (.slice Ao53 t273.length co53)) (fun _ hk => hk.2) (.int .i64 t276)) (fun _ hk => hk.2) (.int .i64 t277)) (fun _ hk => ⟨hk.1.1.1.1.1, ⟨hk.1.1.1.1.2.1, ⟨hk.1.1.1.1.2.2.1, ⟨hk.1.1.1.2, ⟨hk.1.1.2, ⟨hk.1.1.1.1.2.2.2, hk.1.2⟩⟩⟩⟩⟩⟩)))⟩; have n3_ : Aside0 (Kd.V (Kd.int .i64) 3 w56 w.heap.size (fun k_ => (P1_ k_ ∨ w.heap.size ≤ k_) ∧ some k_ ≠ (u7 : Value).ownBlock ∧ some k_ ≠ (.slice Ao46 x8_1.length co46 : Value).ownBlock ∧ some k_ ≠ (.slice (some ad247) x9_1.length co45 : Value).ownBlock ∧ some k_ ≠ (v271 : Value).ownBlock ∧ some k_ ≠ (.slice Ao53 t273.length co53 : Value).ownBlock ∧ k_ ≠ gb254 ∧ k_ ≠ gb278) (.slice A247_0 ((rd_T49 x9_1 (rd l2 x10_1)).f0).length c247_0) ((rd_T49 x9_1 (rd l2 x10_1)).f0)) := ⟨(by rw [hw]; exact (by (with_reducible repeat (first | apply Kd.V_alloc | apply Kd.V_drewN | apply Kd.V_drew)); exact Kd.V_mono (Kd.V_far (p := ⟨gb278, 2, none⟩) (Kd.V_far (p := ⟨gb278, 1, none⟩) (Kd.V_far (p := ⟨gb278, 0, none⟩) (Kd.V_mono HL247_0.out (fun k_ hk => (⟨hk, hk.2⟩ : _ ∧ k_ ≠ gb278))) (fun _ hk => hk.2) (.slice Ao53 t273.length co53)) (fun _ hk => hk.2) (.int .i64 t276)) (fun _ hk => hk.2) (.int .i64 t277)) (fun _ hk => ⟨hk.1.1.1.1.1, ⟨hk.1.1.1.1.2.1, ⟨hk.1.1.1.1.2.2.1, ⟨hk.1.1.1.1.2.2.2.1, ⟨hk.1.1.1.2, ⟨hk.1.1.2, ⟨hk.1.1.1.1.2.2.2.2, hk.1.2⟩⟩⟩⟩⟩⟩⟩)))⟩; have n4_ : Aside0 (Kd.V (Kd.int .i64) 3 w56 w.heap.size (fun k_ => (P1_ k_ ∨ w.heap.size ≤ k_) ∧ some k_ ≠ (u7 : Value).ownBlock ∧ some k_ ≠ (.slice Ao46 x8_1.length co46 : Value).ownBlock ∧ some k_ ≠ (.slice (some ad247) x9_1.length co45 : Value).ownBlock ∧ some k_ ≠ (v271 : Value).ownBlock ∧ some k_ ≠ (.slice Ao53 t273.length co53 : Value).ownBlock ∧ k_ ≠ gb254 ∧ k_ ≠ gb278) (.slice A269_0 ((rd_T49 x9_1 (rd l2 x10_1)).f0).length c269_0) ((rd_T49 x9_1 (rd l2 x10_1)).f0)) := ⟨(by rw [hw]; exact (by (with_reducible repeat (first | apply Kd.V_alloc | apply Kd.V_drewN | apply Kd.V_drew)); exact Kd.V_mono (Kd.V_far (p := ⟨gb278, 2, none⟩) (Kd.V_far (p := ⟨gb278, 1, none⟩) (Kd.V_far (p := ⟨gb278, 0, none⟩) (Kd.V_mono HL269_0.out (fun k_ hk => (⟨hk, hk.2⟩ : _ ∧ k_ ≠ gb278))) (fun _ hk => hk.2) (.slice Ao53 t273.length co53)) (fun _ hk => hk.2) (.int .i64 t276)) (fun _ hk => hk.2) (.int .i64 t277)) (fun _ hk => ⟨hk.1.1.1.1.1.1, ⟨hk.1.1.1.1.1.2.1, ⟨hk.1.1.1.1.1.2.2.1, ⟨hk.1.1.1.1.2, ⟨hk.1.1.1.2, ⟨hk.1.1.2, ⟨hk.1.1.1.1.1.2.2.2, hk.1.2⟩⟩⟩⟩⟩⟩⟩)))⟩; have n5_ : Aside0 (Kd.R (Kd.int .i64) 3 w56 w.heap.size (fun k_ => (w.heap.size ≤ k_) ∧ some k_ ≠ (.slice Ao46 x8_1.length co46 : Value).ownBlock ∧ some k_ ≠ (.slice Ao53 t273.length co53 : Value).ownBlock) v271 t270) := ⟨(by rw [hw]; exact (by (with_reducible repeat (first | apply Kd.R_alloc | apply Kd.R_drewN | apply Kd.R_drew)); exact Kd.R_mono (Kd.R_far (p := ⟨gb278, 2, none⟩) (Kd.R_far (p := ⟨gb278, 1, none⟩) (Kd.R_far (p := ⟨gb278, 0, none⟩) (Kd.R_types HO272.out BK278.out (by decide)) (fun _ hk => hk.2) (.slice Ao53 t273.length co53)) (fun _ hk => hk.2) (.int .i64 t276)) (fun _ hk => hk.2) (.int .i64 t277)) (fun _ hk => ⟨hk.1.1.1, ⟨hk.1.2, hk.1.1.2⟩⟩)))⟩; have n6_ : Aside0 (Kd.R (Kd.int .i64) 3 w56 w.heap.size (fun k_ => (w.heap.size ≤ k_) ∧ some k_ ≠ (.slice Ao46 x8_1.length co46 : Value).ownBlock ∧ some k_ ≠ (v271 : Value).ownBlock) (.slice Ao53 t273.length co53) t273) := ⟨(by rw [hw]; exact (by (with_reducible repeat (first | apply Kd.R_alloc | apply Kd.R_drewN | apply Kd.R_drew)); exact Kd.R_mono (Kd.R_far (p := ⟨gb278, 2, none⟩) (Kd.R_far (p := ⟨gb278, 1, none⟩) (Kd.R_far (p := ⟨gb278, 0, none⟩) (Kd.R_types HO275.out BK278.out (by decide)) (fun _ hk => hk.2) (.slice Ao53 t273.length co53)) (fun _ hk => hk.2) (.int .i64 t276)) (fun _ hk => hk.2) (.int .i64 t277)) (fun _ hk => ⟨hk.1.1.1, ⟨hk.1.2, hk.1.1.2⟩⟩)))⟩; have n7_ : Aside0 (w56.heap[gb254]? = some (.cells #[.int .i64 t248, .int .i64 t249, .int .i64 t250, .int .i64 t251, .int .i64 t252] 31 (0, 0))) := ⟨(by rw [hw]; exact (by refine zP6 ?_; refine blk_far ?_ NB254_278.out _; refine zP6 ?_; refine blk_far ?_ NB254_278.out _; refine zP6 ?_; refine blk_far ?_ NB254_278.out _; refine zP6 ?_; exact BK254.out))⟩; have n8_ : Aside0 (w56.heap[gb278]? = some (.cells #[.slice Ao53 t273.length co53, .int .i64 t276, .int .i64 t277] 49 (0, 0))) := ⟨(by rw [hw]; exact (by refine zP6 ?_; refine blk_put (cs := #[.slice Ao53 t273.length co53, .int .i64 t276, .int .i64 0]) ?_ 2 _ rfl; refine zP6 ?_; refine blk_put (cs := #[.slice Ao53 t273.length co53, .int .i64 0, .int .i64 0]) ?_ 1 _ rfl; refine zP6 ?_; refine blk_put (cs := #[.slice none 0 0, .int .i64 0, .int .i64 0]) ?_ 0 _ rfl; refine zP6 ?_; exact BK278.out))⟩; have n9_ : Aside0 (Below w.heap.size w w56) := ⟨(by rw [hw]; exact (zB6_3))⟩; clear hw; clear HO_7; clear HO_8; clear HO_9; clear HL247_0; clear HL269_0; clear HO272; clear HO275; clear BK254; clear BK278; clear HB; have HO_7 := n0_; have HO_8 := n1_; have HO_9 := n2_; have HL247_0 := n3_; have HL269_0 := n4_; have HO272 := n5_; have HO275 := n6_; have BK254 := n7_; have BK278 := n8_; have HB := n9_; clear n0_ n1_ n2_ n3_ n4_ n5_ n6_ n7_ n8_ n9_; obtain ⟨hcz57_0, hcz57_1, hcz57_2, hfz57_0, hfz57_1, hfz57_2⟩ := zc6_3 (w := w56) BK278.out; have p44 : 0 ≤ ((rd l2 x10_1) : Int) := zA6; have q44 : ((rd l2 x10_1) : Int) < ((x9_1.length : Int) : Int) := zA6; obtain ⟨go44, co44, eo44, gb44, gl44, cl44, HG44⟩ := Kd.N_form HO_9.out (by omega); (first | cases eo44 | (injection eo44 with ea_ en_ ec_; (first | subst ea_ | (injection ea_ with ea_; subst ea_)); subst ec_; clear en_)); have GB44 := Aside0.mk gb44; have GG44 := Aside0.mk HG44; clear gb44 gl44 HG44; (first | simp only [add_plain] at hx247_0 | skip); (first | simp only [add_plain] at hx247_1 | skip); (first | simp only [add_plain] at hx247_2 | skip); (first | simp only [add_plain] at hx269_0 | skip); (first | simp only [add_plain] at hx269_1 | skip); (first | simp only [add_plain] at hx269_2 | skip); obtain ⟨ce44, hcl44, hM44, hcc44, hfr44⟩ := Kd.N_elem HO_9.out z49 ((rd l2 x10_1) : Int) p44 q44; obtain ⟨ua44_0, uc44_0, rfl, ul44_0, ge44_0⟩ := k49_openF hM44; have hx44_0 : w56.cell? ⟨go44, ((rd l2 x10_1) : Int).toNat * 3, none⟩ = some (.slice ua44_0 ((rd_T49 x9_1 (rd l2 x10_1)).f0).length uc44_0) := hcc44 0 _ rfl; have hx44_1 : w56.cell? ⟨go44, ((rd l2 x10_1) : Int).toNat * 3 + 1, none⟩ = some (.int .i64 ((rd_T49 x9_1 (rd l2 x10_1)).f1)) := hcc44 1 _ rfl; have hx44_2 : w56.cell? ⟨go44, ((rd l2 x10_1) : Int).toNat * 3 + 2, none⟩ = some (.int .i64 ((rd_T49 x9_1 (rd l2 x10_1)).f2)) := hcc44 2 _ rfl; have hf44_0 : w56.frozen? ⟨go44, ((rd l2 x10_1) : Int).toNat * 3, none⟩ = false := hfr44 0; have hf44_1 : w56.frozen? ⟨go44, ((rd l2 x10_1) : Int).toNat * 3 + 1, none⟩ = false := hfr44 1; have hf44_2 : w56.frozen? ⟨go44, ((rd l2 x10_1) : Int).toNat * 3 + 2, none⟩ = false := hfr44 2; clear hcl44 hcc44 hfr44 hM44; replace p44 := eq_true p44; replace q44 := eq_true q44; have HX58 := Aside0.mk (show Kd.N k49 49 w56 w.heap.size (fun k_ => (P1_ k_ ∨ w.heap.size ≤ k_) ∧ some k_ ≠ (u7 : Value).ownBlock ∧ some k_ ≠ (.slice Ao46 x8_1.length co46 : Value).ownBlock ∧ some k_ ≠ (v271 : Value).ownBlock ∧ k_ ≠ gb254 ∧ k_ ≠ gb278) (.slice (some ⟨go44, 0, none⟩) x9_1.length co45) x9_1 from (by (with_reducible repeat (first | apply Kd.N_alloc | apply Kd.N_drewN | apply Kd.N_drew)); exact Kd.N_mono HO_9.out (fun _ hk => ⟨hk.1, ⟨hk.2.1, ⟨hk.2.2.1, ⟨hk.2.2.2.1, ⟨hk.2.2.2.2.2.1, hk.2.2.2.2.2.2⟩⟩⟩⟩⟩))); obtain ⟨ce58, hcl58, hM58, hcc58, hfr58⟩ := Kd.N_elem HX58.out z49 ((rd l2 x10_1) : Int) (zA6) (by have h_ : ((rd l2 x10_1) : Int) < ((x9_1.length : Int) : Int) := zA6; first | exact h_ | (have e_ := (Kd.N_reads' HO_9.out).1; omega) | simpa using h_); obtain ⟨ua58_0, uc58_0, rfl, ul58_0, ge58_0⟩ := k49_openF hM58; have HP58 := Kd.N_seg HX58.out ((rd l2 x10_1) : Int) (zA6) (by have h_ : ((rd l2 x10_1) : Int) < ((x9_1.length : Int) : Int) := zA6; first | exact h_ | (have e_ := (Kd.N_reads' HO_9.out).1; omega) | simpa using h_) (seg := [.slice Ao53 t273.length co53, .int .i64 t276, .int .i64 t277]) (j := 0) hcl58 hcc58 (show 3 ≤ 3 from by decide) (x' := (⟨t273, t276, t277⟩ : S49)) (k49_mkF _ _ (⟨t273, t276, t277⟩ : S49) (Kd.R_reads' (Kd.R_mono (ok' := (fun k_ => ((fun k_ => (P1_ k_ ∨ w.heap.size ≤ k_) ∧ some k_ ≠ (u7 : Value).ownBlock ∧ some k_ ≠ (.slice Ao46 x8_1.length co46 : Value).ownBlock ∧ some k_ ≠ (v271 : Value).ownBlock ∧ k_ ≠ gb254 ∧ k_ ≠ gb278)) k_ ∧ k_ ≠ go44)) (Kd.R_types (Kd.R_types (Kd.R_apart' (Kd.R_apart' (HO275.out) (Kd.R_typed HO_7.out) (by decide)) (Kd.N_typed HO_9.out) (by decide)) BK254.out (by decide)) BK278.out (by decide)) (fun k_ hk => ⟨⟨(.inr (hk.1.1.1.1.1)), ⟨hk.1.1.1.2, ⟨hk.1.1.1.1.2.1, ⟨hk.1.1.1.1.2.2, ⟨hk.1.2, hk.2⟩⟩⟩⟩⟩, fun e_ => (hk.1.1.2) (by rw [e_]; rfl)⟩))).2.1 (Kd.R_F (Kd.R_mono (ok' := (fun k_ => ((fun k_ => (P1_ k_ ∨ w.heap.size ≤ k_) ∧ some k_ ≠ (u7 : Value).ownBlock ∧ some k_ ≠ (.slice Ao46 x8_1.length co46 : Value).ownBlock ∧ some k_ ≠ (v271 : Value).ownBlock ∧ k_ ≠ gb254 ∧ k_ ≠ gb278)) k_ ∧ k_ ≠ go44)) (Kd.R_types (Kd.R_types (Kd.R_apart' (Kd.R_apart' (HO275.out) (Kd.R_typed HO_7.out) (by decide)) (Kd.N_typed HO_9.out) (by decide)) BK254.out (by decide)) BK278.out (by decide)) (fun k_ hk => ⟨⟨(.inr (hk.1.1.1.1.1)), ⟨hk.1.1.1.2, ⟨hk.1.1.1.1.2.1, ⟨hk.1.1.1.1.2.2, ⟨hk.1.2, hk.2⟩⟩⟩⟩⟩, fun e_ => (hk.1.1.2) (by rw [e_]; rfl)⟩)))) (fun _ hk => hk); have hx58_0 := hcc58 0 _ rfl; (try simp only [show (k49).sz = 3 from rfl, Nat.mul_one, Nat.add_zero] at hx58_0); have hf58_0 := hfr58 0; (try simp only [show (k49).sz = 3 from rfl, Nat.mul_one, Nat.add_zero] at hf58_0); have hx58_1 := hcc58 1 _ rfl; (try simp only [show (k49).sz = 3 from rfl, Nat.mul_one, Nat.add_zero] at hx58_1); have hf58_1 := hfr58 1; (try simp only [show (k49).sz = 3 from rfl, Nat.mul_one, Nat.add_zero] at hf58_1); have hx58_2 := hcc58 2 _ rfl; (try simp only [show (k49).sz = 3 from rfl, Nat.mul_one, Nat.add_zero] at hx58_2); have hf58_2 := hfr58 2; (try simp only [show (k49).sz = 3 from rfl, Nat.mul_one, Nat.add_zero] at hf58_2); clear hcl58 hcc58 hfr58 hM58) | ((with_reducible refine gate_store (t := 49) (p := 72) rfl ?_); refine store_event (t := 49) (p := 72) (v := ?vo_w59) (w1 := (((w56.setCell ⟨go44, ((rd l2 x10_1) : Int).toNat * 3, none⟩ (.slice Ao53 t273.length co53)).setCell ⟨go44, ((rd l2 x10_1) : Int).toNat * 3 + 1, none⟩ (.int .i64 t276)).setCell ⟨go44, ((rd l2 x10_1) : Int).toNat * 3 + 2, none⟩ (.int .i64 t277))) ?hg ?ho ?hn ?hr ?_; (case ho => rfl); (case hg => rfl); (case hn => rfl); (case hr => first | (go_simp; done) | (go_simp; rfl)); intro w59 hw; have hg : w56.grownBy w59 (some go44) := (by rw [hw]; exact HP58.2); have hp_ : Kd.N k49 49 w59 w.heap.size (fun k_ => (P1_ k_ ∨ w.heap.size ≤ k_) ∧ some k_ ≠ (u7 : Value).ownBlock ∧ some k_ ≠ (.slice Ao46 x8_1.length co46 : Value).ownBlock ∧ some k_ ≠ (v271 : Value).ownBlock ∧ k_ ≠ gb254 ∧ k_ ≠ gb278) (.slice (some ⟨go44, 0, none⟩) x9_1.length co45) y279 := (by rw [hw, Ny279.out]; exact HP58.1); clear HP58; have n0_ := Aside0.mk (Kd.R_over' (v := (.slice (some ⟨go44, 0, none⟩) x9_1.length co45)) (zR6 HO_7.out) (Kd.N_typed HO_9.out) (by decide) hg); have n1_ := Aside0.mk (Kd.R_over' (v := (.slice (some ⟨go44, 0, none⟩) x9_1.length co45)) (zR6 HO_8.out) (Kd.N_typed HO_9.out) (by decide) hg); have n2_ := Aside0.mk (hp_); have n3_ := Aside0.mk (Kd.V_afterv (v := (.slice (some ⟨go44, 0, none⟩) x9_1.length co45)) (v1 := (.slice (some ⟨go44, 0, none⟩) x9_1.length co45)) (ok := (fun k_ => (P1_ k_ ∨ w.heap.size ≤ k_) ∧ some k_ ≠ (u7 : Value).ownBlock ∧ some k_ ≠ (.slice Ao46 x8_1.length co46 : Value).ownBlock ∧ some k_ ≠ (v271 : Value).ownBlock ∧ some k_ ≠ (.slice Ao53 t273.length co53 : Value).ownBlock ∧ k_ ≠ gb254 ∧ k_ ≠ gb278)) (by (with_reducible repeat (first | apply Kd.V_alloc | apply Kd.V_drewN | apply Kd.V_drew)); exact Kd.V_mono HL247_0.out (fun _ hk => ⟨⟨hk.1, ⟨hk.2.1, ⟨hk.2.2.1, ⟨hk.2.2.2.2.1, ⟨hk.2.2.2.2.2.1, ⟨hk.2.2.2.2.2.2.1, hk.2.2.2.2.2.2.2⟩⟩⟩⟩⟩⟩, hk.2.2.2.1⟩)) hg (.inl rfl)); have n4_ := Aside0.mk (zg6 BK254.out hg (Kd.N_ne HO_9.out BK254.out (by decide))); have n5_ := Aside0.mk (Kd.V_afterv (v := (.slice (some ⟨go44, 0, none⟩) x9_1.length co45)) (v1 := (.slice (some ⟨go44, 0, none⟩) x9_1.length co45)) (ok := (fun k_ => (P1_ k_ ∨ w.heap.size ≤ k_) ∧ some k_ ≠ (u7 : Value).ownBlock ∧ some k_ ≠ (.slice Ao46 x8_1.length co46 : Value).ownBlock ∧ some k_ ≠ (v271 : Value).ownBlock ∧ some k_ ≠ (.slice Ao53 t273.length co53 : Value).ownBlock ∧ k_ ≠ gb254 ∧ k_ ≠ gb278)) (by (with_reducible repeat (first | apply Kd.V_alloc | apply Kd.V_drewN | apply Kd.V_drew)); exact Kd.V_mono HL269_0.out (fun _ hk => ⟨⟨hk.1, ⟨hk.2.1, ⟨hk.2.2.1, ⟨hk.2.2.2.2.1, ⟨hk.2.2.2.2.2.1, ⟨hk.2.2.2.2.2.2.1, hk.2.2.2.2.2.2.2⟩⟩⟩⟩⟩⟩, hk.2.2.2.1⟩)) hg (.inl rfl)); have n6_ := Aside0.mk (Kd.R_over' (v := (.slice (some ⟨go44, 0, none⟩) x9_1.length co45)) (zR6 HO272.out) (Kd.N_typed HO_9.out) (by decide) hg); have n7_ := Aside0.mk (zg6 BK278.out hg (Kd.N_away HO_9.out (fun _ hk => hk.2.2.2.2.2.2))); have n8_ := Aside0.mk ((by rw [hw]; exact below_set (below_set (below_set (HB.out) GB44.out) GB44.out) GB44.out : Below w.heap.size w w59)); clear HO_7; clear HO_8; clear HO_9; clear HL247_0; clear BK254; clear HL269_0; clear HO272; clear BK278; clear HB; clear HO275; have HO_7 := n0_; have HO_8 := n1_; have HO_9 := n2_; have HL247_0 := n3_; have BK254 := n4_; have HL269_0 := n5_; have HO272 := n6_; have BK278 := n7_; have HB := n8_; clear n0_ n1_ n2_ n3_ n4_ n5_ n6_ n7_ n8_; clear hg hw hp_))
      go_roundg kj13
      case measure => have := HK1.out; have := HJ13.out; omega
      case rel => exact ⟨(x7_1), (t270), (y279), (wrap64 (x10_1 + 1)), (by first | rfl | (simp; done) | (simp [*]; done)), H', ⟨by have := HK1.out; have := HJ13.out; omega⟩, ⟨by (with_reducible repeat (first | apply Kd.R_alloc | apply Kd.R_drewN | apply Kd.R_drew)); exact Kd.R_mono HO_7.out (fun _ hk => hk.1)⟩, ⟨by (with_reducible repeat (first | apply Kd.R_alloc | apply Kd.R_drewN | apply Kd.R_drew)); exact Kd.R_mono HO272.out (fun _ hk => hk.1)⟩, ⟨by (with_reducible repeat (first | apply Kd.N_alloc | apply Kd.N_drewN | apply Kd.N_drew)); exact Kd.N_mono HO_9.out (fun _ hk => ⟨hk.1, ⟨hk.2.1, hk.2.2.2.1⟩⟩)⟩, ⟨zB6_3⟩⟩
     subst c24
     have H1 : (if x7_1.length < 3518437208883 then ((spec_FlatStep.f kj13 x8_1 ((rd_T49 x9_1 (rd l2 x10_1)).f0) ((rd_T49 x9_1 (rd l2 x10_1)).f1) ((rd_T49 x9_1 (rd l2 x10_1)).f2)).bind fun bt259 => (spec_Trace.l0 kj13 l2 (x7_1 ++ [(⟨t248, t249, t250, t251, t252⟩ : S31)]) bt259.1 (x9_1.set ((rd l2 x10_1) : Int).toNat (⟨bt259.2.1, bt259.2.2.1, bt259.2.2.2⟩ : S49)) (wrap64 (x10_1 + 1)))) else (none)) = some r := by rw [if_pos rfl] at H; exact H
     clear H
     have H := H1
     clear H1
     by_cases c25 : x7_1.length < 3518437208883
     rotate_left
     ·rw [if_neg c25] at H
      exact absurd H (by simp)
     rw [if_pos c25] at H
     have LMc25 := Aside0.mk c25
     clear c25
     obtain ⟨y255, hy255⟩ : ∃ y_ : List (S31), y_ = (x7_1 ++ [(⟨t248, t249, t250, t251, t252⟩ : S31)]) := ⟨_, rfl⟩
     replace H : ((spec_FlatStep.f kj13 x8_1 ((rd_T49 x9_1 (rd l2 x10_1)).f0) ((rd_T49 x9_1 (rd l2 x10_1)).f1) ((rd_T49 x9_1 (rd l2 x10_1)).f2)).bind fun bt259 => (spec_Trace.l0 kj13 l2 y255 bt259.1 (x9_1.set ((rd l2 x10_1) : Int).toNat (⟨bt259.2.1, bt259.2.2.1, bt259.2.2.2⟩ : S49)) (wrap64 (x10_1 + 1)))) = some r := by first | (rw [hy255]; with_reducible exact H) | (have H2_ := (Option.bind_some _ _).symm.trans H; rw [hy255]; with_reducible exact H2_) | (have H2_ := (Option.bind_some _ _).symm.trans H; with_reducible exact H2_) | with_reducible exact H | (rw [hy255]; exact H) | exact H
     have Ny255 := Aside0.mk hy255
     clear hy255
     replace H := Option.bind_eq_some_iff.mp H
     obtain ⟨⟨t259, t262, t265, t266⟩, A260, H⟩ := H
     replace H : (spec_Trace.l0 kj13 l2 y255 t259 (x9_1.set ((rd l2 x10_1) : Int).toNat (⟨t262, t265, t266⟩ : S49)) (wrap64 (x10_1 + 1))) = some r := H
     have A26 := Aside0.mk A260
     clear A260
     obtain ⟨y268, hy268⟩ : ∃ y_ : List (S49), y_ = (x9_1.set ((rd l2 x10_1) : Int).toNat (⟨t262, t265, t266⟩ : S49)) := ⟨_, rfl⟩
     replace H : (spec_Trace.l0 kj13 l2 y255 t259 y268 (wrap64 (x10_1 + 1))) = some r := by first | (rw [hy268]; with_reducible exact H) | (have H2_ := (Option.bind_some _ _).symm.trans H; rw [hy268]; with_reducible exact H2_) | (have H2_ := (Option.bind_some _ _).symm.trans H; with_reducible exact H2_) | with_reducible exact H | (rw [hy268]; exact H) | exact H
     have Ny268 := Aside0.mk hy268
     clear hy268
     have H' := Aside0.mk H
     clear H
     have p245 : 0 ≤ (x10_1 : Int) := zA6
     have q245 : x10_1 < (l2.length : Int) := zA6
     obtain ⟨ad245, e245, hx245_0⟩ := Kd.at_int HR2.out x10_1 p245 q245
     cases e245
     replace hx245_0 := (HB.out.cell (World.block_lt_of_cell? w _ hx245_0)).trans hx245_0
     replace p245 := eq_true p245
     replace q245 := eq_true q245
     obtain ⟨Ao28, co28, eo28⟩ := Kd.N_slice HO_9.out
     subst eo28
     go_wp2_with (first | ((with_reducible refine gate_callee (f := 44) rfl ?_); refine goesL_ (some 42) rfl rfl Try.func44 (by kernel_rfl) rfl #[.int .i64 (rd l2 x10_1), .int .i64 0, .int .i64 (wrap64 ((x9_1.length : Int) - 1))] rfl zT6 ?_; (with_reducible refine (spec_l1In.calls (rd l2 x10_1) 0 (wrap64 ((x9_1.length : Int) - 1)) true _ A19.out).mono ?_); rintro e w' ⟨rfl, ⟨nd, rfl⟩⟩; refine ⟨_, rfl, ?_⟩; (try (rw [drewN_self wc]; generalize hq_ : World.drewN wc _ = wc; have n0_ : Aside0 (Kd.R k31 31 wc w.heap.size (fun k_ => (w.heap.size ≤ k_)) u7 x7_1) := ⟨by rw [← hq_]; exact (zR6 HO_7.out)⟩; have n1_ : Aside0 (Kd.R (Kd.int .i64) 3 wc w.heap.size (fun k_ => (w.heap.size ≤ k_)) u8 x8_1) := ⟨by rw [← hq_]; exact (zR6 HO_8.out)⟩; have n2_ : Aside0 (Kd.N k49 49 wc w.heap.size (fun k_ => (P1_ k_ ∨ w.heap.size ≤ k_) ∧ some k_ ≠ (u7 : Value).ownBlock ∧ some k_ ≠ (u8 : Value).ownBlock) (.slice Ao28 x9_1.length co28) x9_1) := ⟨by rw [← hq_]; exact (by (with_reducible repeat (first | apply Kd.N_alloc | apply Kd.N_drewN | apply Kd.N_drew)); exact HO_9.out)⟩; have n3_ : Aside0 (Below w.heap.size w wc) := ⟨by rw [← hq_]; exact (zB6_0)⟩; clear HO_7 HO_8 HO_9 HB hq_; have HO_7 := n0_; have HO_8 := n1_; have HO_9 := n2_; have HB := n3_; clear n0_ n1_ n2_ n3_)); have p247 : 0 ≤ ((rd l2 x10_1) : Int) := zA6; have q247 : (rd l2 x10_1) < (x9_1.length : Int) := zA6; obtain ⟨ad247, A247_0, c247_0, e247, hx247_0, hx247_1, hx247_2, hl247_0, hi247_0⟩ := at_T49 (Kd.N_reads' HO_9.out).2.2 (rd l2 x10_1) p247 q247; cases e247; obtain ⟨ce247, hce247, hMe247, hcc247⟩ := Kd.N_get HO_9.out z49 (rd l2 x10_1) p247 (by first | exact q247 | exact zA6 | (have e_ := (Kd.N_reads' HO_9.out).1; omega)); obtain ⟨ua247_0, uc247_0, rfl, ul247_0, ge247_0⟩ := k49_openF hMe247; have hv247_0 := hcc247 0 _ rfl; rw [Nat.add_zero] at hv247_0; replace hv247_0 := Option.some.inj (hv247_0.symm.trans hx247_0); injection hv247_0 with hva_ hvn_ hvc_; rw [hva_] at ge247_0; rw [hvc_] at ul247_0; have HL247_0 := Aside0.mk (show Kd.V (Kd.int .i64) 3 _ w.heap.size _ _ ((rd_T49 x9_1 (rd l2 x10_1)).f0) from Kd.V_mk ul247_0 ge247_0); clear hva_ hvn_ hvc_ ge247_0 ul247_0; clear hcc247 hce247; have HR247_0 := Aside0.mk hi247_0; have HC247_0 := Aside0.mk hl247_0; clear hi247_0 hl247_0; replace p247 := eq_true p247; replace q247 := eq_true q247; obtain ⟨Ao29, co29, eo29⟩ := Kd.R_slice HO_8.out; subst eo29) | ((with_reducible refine gate_callee (f := 56) rfl ?_); refine goesL_ (some 51) rfl rfl Try.func56 (by kernel_rfl) rfl #[.slice Ao29 x8_1.length co29, .agg #[.slice A247_0 ((rd_T49 x9_1 (rd l2 x10_1)).f0).length c247_0, .int .i64 ((rd_T49 x9_1 (rd l2 x10_1)).f1), .int .i64 ((rd_T49 x9_1 (rd l2 x10_1)).f2)], .int .i64 (rd l2 x10_1)] rfl zT6 ?_; (with_reducible refine (spec_EventOf.calls kj13 _ _ x8_1 _ _ ((rd_T49 x9_1 (rd l2 x10_1)).f0) ((rd_T49 x9_1 (rd l2 x10_1)).f1) ((rd_T49 x9_1 (rd l2 x10_1)).f2) (rd l2 x10_1) t248 t249 t250 t251 t252 true _ ?side1 ?side2 ?side3 ?side4 A23.out).mono ?_); (case side1 => exact zC6 (Kd.R_reads' HO_8.out).2.2); (case side2 => exact (Kd.R_reads' HO_8.out).2.1); (case side3 => exact zC6 HR247_0.out); (case side4 => exact HC247_0.out); rintro e w30 ⟨rfl, hb⟩; refine ⟨_, rfl, ?_⟩; have n0_ := Aside0.mk (Kd.R_below (zR6 HO_7.out) hb); have n1_ := Aside0.mk (Kd.R_below (zR6 HO_8.out) hb); have n2_ := Aside0.mk (Kd.N_below (by (with_reducible repeat (first | apply Kd.N_alloc | apply Kd.N_drewN | apply Kd.N_drew)); exact HO_9.out) hb); have n3_ := Aside0.mk (Kd.V_below (by (with_reducible repeat (first | apply Kd.V_alloc | apply Kd.V_drewN | apply Kd.V_drew)); exact HL247_0.out) hb); have n5_ := Aside0.mk (below_step (zB6_0) hb); clear HO_7; clear HO_8; clear HO_9; clear HL247_0; clear HB; have HO_7 := n0_; have HO_8 := n1_; have HO_9 := n2_; have HL247_0 := n3_; have HB := n5_; clear n0_ n1_ n2_ n3_ n5_; (try clear hb); (try clear hb2); (try clear hk); (try clear hi)) | ((with_reducible refine gate_dst (N := 12) rfl ?_); (try (refine gate_guard (by rfl) ?_; dsimp only)); refine box_event ?hg (N := 12) ?hd (cs := #[.int .i64 0, .int .i64 0, .int .i64 0, .int .i64 0, .int .i64 0]) (t := 31) ?hr ?_; (case hd => rfl); (case hg => rfl); (case hr => first | (go_simp; done) | (go_simp; rfl)); intro gb254 hg w31 hbox hb; have n0_ := Aside0.mk (Kd.R_below (Kd.R_elderB (zR6 HO_7.out) gb254 (Nat.le_of_eq hg.symm)) hb); have n1_ := Aside0.mk (Kd.R_below (zR6 HO_8.out) hb); have n2_ := Aside0.mk (Kd.N_below (Kd.N_elderB (by (with_reducible repeat (first | apply Kd.N_alloc | apply Kd.N_drewN | apply Kd.N_drew)); exact HO_9.out) gb254 (Nat.le_of_eq hg.symm)) hb); have n3_ := Aside0.mk (Kd.V_below (Kd.V_elderB (by (with_reducible repeat (first | apply Kd.V_alloc | apply Kd.V_drewN | apply Kd.V_drew)); exact HL247_0.out) gb254 (Nat.le_of_eq hg.symm)) hb); have n5_ := Aside0.mk (below_step (zB6_0) hb); have n6_ := Aside0.mk (hbox); have n7_ := Aside0.mk ((by rw [hg]; exact (below_size (zB6_0)) : w.heap.size ≤ gb254)); have n8_ := Aside0.mk ((by rw [hg]; exact (below_size (zB6_0)) : w.heap.size ≤ gb254)); clear HO_7; clear HO_8; clear HO_9; clear HL247_0; clear HB; have HO_7 := n0_; have HO_8 := n1_; have HO_9 := n2_; have HL247_0 := n3_; have HB := n5_; have BK254 := n6_; have GW254 := n7_; have GE254 := n8_; clear n0_ n1_ n2_ n3_ n5_ n6_ n7_ n8_; clear hb hbox hg; obtain ⟨hcz32_0, hcz32_1, hcz32_2, hcz32_3, hcz32_4, hfz32_0, hfz32_1, hfz32_2, hfz32_3, hfz32_4⟩ := zc6_5 (w := w31) BK254.out) | ((with_reducible refine gate_builtin (b := .append) (xs := #[.tmp 55, .tmp 57]) rfl ?_); (try (refine gate_guard (by rfl) ?_; dsimp only)); at_builtin; refine Kd.R_append k31 (w0 := w) w.heap.size rfl (.tmp 55) (.tmp 57) 24 31 (.agg #[(.int .i64 0), (.int .i64 0), (.int .i64 0), (.int .i64 0), (.int .i64 0)]) 40 rfl Try.underlying24 info31 rfl (by decide) (by omega) u7 x7_1 (⟨t248, t249, t250, t251, t252⟩ : S31) [.int .i64 t248, .int .i64 t249, .int .i64 t250, .int .i64 t251, .int .i64 t252] (fun k_ => (w.heap.size ≤ k_) ∧ k_ ≠ gb254) (fun _ => False) rfl (by first | (go_simp; done) | (go_simp; rfl)) ?aP (fun _ hk => hk.elim) ?aF ?aO ?aB ?aS ?aL ?_; (case aP => exact k31_mkM _ _ _ (⟨t248, t249, t250, t251, t252⟩ : S31)); (case aB => exact (zB6_1)); (case aF => exact (fun k_ hk => ⟨(Nat.le_trans (below_size (zB6_1)) hk), Kd.freshB (g := gb254) (o := .cells #[.int .i64 t248, .int .i64 t249, .int .i64 t250, .int .i64 t251, .int .i64 t252] 31 (0, 0)) (by refine zP6 ?_; refine blk_put (cs := #[.int .i64 t248, .int .i64 t249, .int .i64 t250, .int .i64 t251, .int .i64 0]) ?_ 4 _ rfl; refine zP6 ?_; refine blk_put (cs := #[.int .i64 t248, .int .i64 t249, .int .i64 t250, .int .i64 0, .int .i64 0]) ?_ 3 _ rfl; refine zP6 ?_; refine blk_put (cs := #[.int .i64 t248, .int .i64 t249, .int .i64 0, .int .i64 0, .int .i64 0]) ?_ 2 _ rfl; refine zP6 ?_; refine blk_put (cs := #[.int .i64 t248, .int .i64 0, .int .i64 0, .int .i64 0, .int .i64 0]) ?_ 1 _ rfl; refine zP6 ?_; refine blk_put (cs := #[.int .i64 0, .int .i64 0, .int .i64 0, .int .i64 0, .int .i64 0]) ?_ 0 _ rfl; refine zP6 ?_; exact BK254.out) k_ hk⟩)); (case aO => exact (by (with_reducible repeat (first | apply Kd.R_alloc | apply Kd.R_drewN | apply Kd.R_drew)); exact Kd.R_mono (Kd.R_far (p := ⟨gb254, 4, none⟩) (Kd.R_far (p := ⟨gb254, 3, none⟩) (Kd.R_far (p := ⟨gb254, 2, none⟩) (Kd.R_far (p := ⟨gb254, 1, none⟩) (Kd.R_far (p := ⟨gb254, 0, none⟩) (Kd.R_mono HO_7.out (fun k_ hk => (⟨hk, hk.2⟩ : _ ∧ k_ ≠ gb254))) (fun _ hk => hk.2) (.int .i64 t248)) (fun _ hk => hk.2) (.int .i64 t249)) (fun _ hk => hk.2) (.int .i64 t250)) (fun _ hk => hk.2) (.int .i64 t251)) (fun _ hk => hk.2) (.int .i64 t252)) (fun _ hk => ⟨hk.1.1, hk.1.2⟩))); (case aS => exact (below_size (zB6_1))); (case aL => have := LMc25.out; omega); intro v256 w33 ho hb hg hat; rw [← Ny255.out] at ho; have n0_ := Aside0.mk (Kd.R_over' (by (with_reducible repeat (first | apply Kd.R_alloc | apply Kd.R_drewN | apply Kd.R_drew)); exact (Kd.R_mono (Kd.R_far (p := ⟨gb254, 4, none⟩) (Kd.R_far (p := ⟨gb254, 3, none⟩) (Kd.R_far (p := ⟨gb254, 2, none⟩) (Kd.R_far (p := ⟨gb254, 1, none⟩) (Kd.R_far (p := ⟨gb254, 0, none⟩) (Kd.R_types HO_8.out BK254.out (by decide)) (fun _ hk => hk.2) (.int .i64 t248)) (fun _ hk => hk.2) (.int .i64 t249)) (fun _ hk => hk.2) (.int .i64 t250)) (fun _ hk => hk.2) (.int .i64 t251)) (fun _ hk => hk.2) (.int .i64 t252)) (fun _ h_ => h_.1))) (Kd.R_typed (by (with_reducible repeat (first | apply Kd.R_alloc | apply Kd.R_drewN | apply Kd.R_drew)); exact (Kd.R_mono (Kd.R_far (p := ⟨gb254, 4, none⟩) (Kd.R_far (p := ⟨gb254, 3, none⟩) (Kd.R_far (p := ⟨gb254, 2, none⟩) (Kd.R_far (p := ⟨gb254, 1, none⟩) (Kd.R_far (p := ⟨gb254, 0, none⟩) (Kd.R_mono HO_7.out (fun k_ hk => (⟨hk, hk.2⟩ : _ ∧ k_ ≠ gb254))) (fun _ hk => hk.2) (.int .i64 t248)) (fun _ hk => hk.2) (.int .i64 t249)) (fun _ hk => hk.2) (.int .i64 t250)) (fun _ hk => hk.2) (.int .i64 t251)) (fun _ hk => hk.2) (.int .i64 t252)) (fun _ h_ => h_.1)))) (by decide) hg); have n1_ := Aside0.mk (Kd.N_afterv (ok := (fun k_ => (P1_ k_ ∨ w.heap.size ≤ k_) ∧ some k_ ≠ (.slice Ao29 x8_1.length co29 : Value).ownBlock ∧ k_ ≠ gb254)) (by (with_reducible repeat (first | apply Kd.N_alloc | apply Kd.N_drewN | apply Kd.N_drew)); exact Kd.N_mono (Kd.N_far (p := ⟨gb254, 4, none⟩) (Kd.N_far (p := ⟨gb254, 3, none⟩) (Kd.N_far (p := ⟨gb254, 2, none⟩) (Kd.N_far (p := ⟨gb254, 1, none⟩) (Kd.N_far (p := ⟨gb254, 0, none⟩) (Kd.N_mono HO_9.out (fun k_ hk => (⟨hk, hk.2⟩ : _ ∧ k_ ≠ gb254))) (fun _ hk => hk.2) (.int .i64 t248)) (fun _ hk => hk.2) (.int .i64 t249)) (fun _ hk => hk.2) (.int .i64 t250)) (fun _ hk => hk.2) (.int .i64 t251)) (fun _ hk => hk.2) (.int .i64 t252)) (fun _ hk => ⟨⟨hk.1.1.1, ⟨hk.1.1.2.2, hk.1.2⟩⟩, hk.1.1.2.1⟩)) hg hat); have n2_ := Aside0.mk (Kd.V_afterv (ok := (fun k_ => (P1_ k_ ∨ w.heap.size ≤ k_) ∧ some k_ ≠ (.slice Ao29 x8_1.length co29 : Value).ownBlock ∧ some k_ ≠ (.slice (some ad247) x9_1.length co28 : Value).ownBlock ∧ k_ ≠ gb254)) (by (with_reducible repeat (first | apply Kd.V_alloc | apply Kd.V_drewN | apply Kd.V_drew)); exact Kd.V_mono (Kd.V_far (p := ⟨gb254, 4, none⟩) (Kd.V_far (p := ⟨gb254, 3, none⟩) (Kd.V_far (p := ⟨gb254, 2, none⟩) (Kd.V_far (p := ⟨gb254, 1, none⟩) (Kd.V_far (p := ⟨gb254, 0, none⟩) (Kd.V_mono HL247_0.out (fun k_ hk => (⟨hk, hk.2⟩ : _ ∧ k_ ≠ gb254))) (fun _ hk => hk.2) (.int .i64 t248)) (fun _ hk => hk.2) (.int .i64 t249)) (fun _ hk => hk.2) (.int .i64 t250)) (fun _ hk => hk.2) (.int .i64 t251)) (fun _ hk => hk.2) (.int .i64 t252)) (fun _ hk => ⟨⟨hk.1.1.1.1, ⟨hk.1.1.1.2.2, ⟨hk.1.1.2, hk.1.2⟩⟩⟩, hk.1.1.1.2.1⟩)) hg hat); have n3_ := Aside0.mk (blk_grown (g := gb254) (o := .cells #[.int .i64 t248, .int .i64 t249, .int .i64 t250, .int .i64 t251, .int .i64 t252] 31 (0, 0)) (by refine zP6 ?_; refine blk_put (cs := #[.int .i64 t248, .int .i64 t249, .int .i64 t250, .int .i64 t251, .int .i64 0]) ?_ 4 _ rfl; refine zP6 ?_; refine blk_put (cs := #[.int .i64 t248, .int .i64 t249, .int .i64 t250, .int .i64 0, .int .i64 0]) ?_ 3 _ rfl; refine zP6 ?_; refine blk_put (cs := #[.int .i64 t248, .int .i64 t249, .int .i64 0, .int .i64 0, .int .i64 0]) ?_ 2 _ rfl; refine zP6 ?_; refine blk_put (cs := #[.int .i64 t248, .int .i64 0, .int .i64 0, .int .i64 0, .int .i64 0]) ?_ 1 _ rfl; refine zP6 ?_; refine blk_put (cs := #[.int .i64 0, .int .i64 0, .int .i64 0, .int .i64 0, .int .i64 0]) ?_ 0 _ rfl; refine zP6 ?_; exact BK254.out) hg (Kd.R_away HO_7.out (fun _ hk => hk.2))); have n4_ := Aside0.mk (hb); have n5_ := Aside0.mk (ho); clear HO_8; clear HO_9; clear HL247_0; clear BK254; clear HB; clear HO_7; have HO_8 := n0_; have HO_9 := n1_; have HL247_0 := n2_; have BK254 := n3_; have HB := n4_; have HO257 := n5_; clear n0_ n1_ n2_ n3_ n4_ n5_; clear ho hb hg hat; have p258 : 0 ≤ ((rd l2 x10_1) : Int) := zA6; have q258 : (rd l2 x10_1) < (x9_1.length : Int) := zA6; obtain ⟨ad258, A258_0, c258_0, e258, hx258_0, hx258_1, hx258_2, hl258_0, hi258_0⟩ := at_T49 (Kd.N_reads' HO_9.out).2.2 (rd l2 x10_1) p258 q258; obtain rfl : ad247 = ad258 := (by injection e258); obtain ⟨ce258, hce258, hMe258, hcc258⟩ := Kd.N_get HO_9.out z49 (rd l2 x10_1) p258 (by first | exact q258 | exact zA6 | (have e_ := (Kd.N_reads' HO_9.out).1; omega)); obtain ⟨ua258_0, uc258_0, rfl, ul258_0, ge258_0⟩ := k49_openF hMe258; have hv258_0 := hcc258 0 _ rfl; rw [Nat.add_zero] at hv258_0; replace hv258_0 := Option.some.inj (hv258_0.symm.trans hx258_0); injection hv258_0 with hva_ hvn_ hvc_; rw [hva_] at ge258_0; rw [hvc_] at ul258_0; have HL258_0 := Aside0.mk (show Kd.V (Kd.int .i64) 3 _ w.heap.size _ _ ((rd_T49 x9_1 (rd l2 x10_1)).f0) from Kd.V_mk ul258_0 ge258_0); clear hva_ hvn_ hvc_ ge258_0 ul258_0; clear hcc258 hce258; have HR258_0 := Aside0.mk hi258_0; have HC258_0 := Aside0.mk hl258_0; clear hi258_0 hl258_0; replace p258 := eq_true p258; replace q258 := eq_true q258) | ((with_reducible refine gate_callee (f := 57) rfl ?_); refine goesL_ (some 65) rfl rfl Try.func57 (by kernel_rfl) rfl #[.slice Ao29 x8_1.length co29, .agg #[.slice A258_0 ((rd_T49 x9_1 (rd l2 x10_1)).f0).length c258_0, .int .i64 ((rd_T49 x9_1 (rd l2 x10_1)).f1), .int .i64 ((rd_T49 x9_1 (rd l2 x10_1)).f2)]] rfl zT6 ?_; (with_reducible refine (spec_FlatStep.calls kj13 _ _ x8_1 _ _ ((rd_T49 x9_1 (rd l2 x10_1)).f0) ((rd_T49 x9_1 (rd l2 x10_1)).f1) ((rd_T49 x9_1 (rd l2 x10_1)).f2) t259 t262 t265 t266 _ ?side1 ?side2 ?side3 ?side4 A26.out).mono ?_); (case side1 => exact zC6 (Kd.R_reads' HO_8.out).2.2); (case side2 => exact (Kd.R_reads' HO_8.out).2.1); (case side3 => exact zC6 HR258_0.out); (case side4 => exact HC258_0.out); rintro e w34 ⟨v260, v263, rfl, ho0, ho1, hb⟩; refine ⟨_, rfl, ?_⟩; have n0_ := Aside0.mk (Kd.R_mono (Kd.R_told (Kd.R_told (Kd.R_old (zR6 HO_8.out) hb) (Kd.R_base ho0)) (Kd.R_base ho1)) (fun _ h_ => h_.1)); have n1_ := Aside0.mk (Kd.N_mono (Kd.N_told (Kd.N_told (Kd.N_old (by (with_reducible repeat (first | apply Kd.N_alloc | apply Kd.N_drewN | apply Kd.N_drew)); exact HO_9.out) hb) (Kd.R_base ho0)) (Kd.R_base ho1)) (fun _ h_ => h_.1)); have n2_ := Aside0.mk (Kd.V_mono (Kd.V_told (Kd.V_told (Kd.V_old (by (with_reducible repeat (first | apply Kd.V_alloc | apply Kd.V_drewN | apply Kd.V_drew)); exact HL247_0.out) hb) (Kd.R_base ho0)) (Kd.R_base ho1)) (fun _ h_ => h_.1)); have n3_ := Aside0.mk (Kd.R_below (zR6 HO257.out) hb); have n4_ := Aside0.mk (Kd.V_mono (Kd.V_told (Kd.V_told (Kd.V_old (by (with_reducible repeat (first | apply Kd.V_alloc | apply Kd.V_drewN | apply Kd.V_drew)); exact HL258_0.out) hb) (Kd.R_base ho0)) (Kd.R_base ho1)) (fun _ h_ => h_.1)); have n5_ := Aside0.mk (Kd.R_lower (Kd.R_new' (Kd.R_newM (M := fun k_ => (w.heap.size ≤ k_)) ho0 (below_size (zB6_1)) (fun k_ h_ => h_)) (Kd.R_lt (zR6 HO_8.out))) (below_size (zB6_1))); have n6_ := Aside0.mk (Kd.R_lower (Kd.R_new' (Kd.R_newM (M := fun k_ => (w.heap.size ≤ k_)) ho1 (below_size (zB6_1)) (fun k_ h_ => h_)) (Kd.R_lt (zR6 HO_8.out))) (below_size (zB6_1))); have n7_ := Aside0.mk (zb6 BK254.out hb); have n8_ := Aside0.mk (Kd.C_below (by repeat (first | (with_reducible exact HR258_0.out) | (with_reducible refine Kd.C_alloc ?_ _) | (with_reducible refine Kd.C_drewN ?_ _) | (with_reducible refine Kd.C_drew ?_) | exact HR258_0.out)) hb); have n9_ := Aside0.mk (below_step (zB6_1) hb); clear HO_8; clear HO_9; clear HL247_0; clear HO257; clear HL258_0; clear BK254; clear HR258_0; clear HB; have HO_8 := n0_; have HO_9 := n1_; have HL247_0 := n2_; have HO257 := n3_; have HL258_0 := n4_; have HO261 := n5_; have HO264 := n6_; have BK254 := n7_; have HR258_0 := n8_; have HB := n9_; clear n0_ n1_ n2_ n3_ n4_ n5_ n6_ n7_ n8_ n9_; (try clear hb); (try clear hb2); (try clear hk); (try clear hi); (try clear ho0); (try clear ho1)) | ((with_reducible refine gate_dst (N := 15) rfl ?_); (try (refine gate_guard (by rfl) ?_; dsimp only)); refine box_event ?hg (N := 15) ?hd (cs := #[.slice none 0 0, .int .i64 0, .int .i64 0]) (t := 49) ?hr ?_; (case hd => rfl); (case hg => rfl); (case hr => first | (go_simp; done) | (go_simp; rfl)); intro gb267 hg w35 hbox hb; have n0_ := Aside0.mk (Kd.R_below (zR6 HO_8.out) hb); have n1_ := Aside0.mk (Kd.N_below (Kd.N_elderB (by (with_reducible repeat (first | apply Kd.N_alloc | apply Kd.N_drewN | apply Kd.N_drew)); exact HO_9.out) gb267 (Nat.le_of_eq hg.symm)) hb); have n2_ := Aside0.mk (Kd.V_below (Kd.V_elderB (by (with_reducible repeat (first | apply Kd.V_alloc | apply Kd.V_drewN | apply Kd.V_drew)); exact HL247_0.out) gb267 (Nat.le_of_eq hg.symm)) hb); have n3_ := Aside0.mk (Kd.R_below (zR6 HO257.out) hb); have n4_ := Aside0.mk (Kd.V_below (Kd.V_elderB (by (with_reducible repeat (first | apply Kd.V_alloc | apply Kd.V_drewN | apply Kd.V_drew)); exact HL258_0.out) gb267 (Nat.le_of_eq hg.symm)) hb); have n5_ := Aside0.mk (Kd.R_below (zR6 HO261.out) hb); have n6_ := Aside0.mk (Kd.R_below (zR6 HO264.out) hb); have n7_ := Aside0.mk (zb6 BK254.out hb); have n8_ := Aside0.mk (Kd.C_below (by repeat (first | (with_reducible exact HR258_0.out) | (with_reducible refine Kd.C_alloc ?_ _) | (with_reducible refine Kd.C_drewN ?_ _) | (with_reducible refine Kd.C_drew ?_) | exact HR258_0.out)) hb); have n9_ := Aside0.mk (below_step (zB6_1) hb); have n10_ := Aside0.mk (hbox); have n11_ := Aside0.mk ((by rw [hg]; exact (below_size (zB6_1)) : w.heap.size ≤ gb267)); have n12_ := Aside0.mk ((by rw [hg]; exact (below_size (zB6_1)) : w.heap.size ≤ gb267)); have n13_ := Aside0.mk ((zn6 BK254.out hg : gb254 ≠ gb267)); have n14_ := Aside0.mk ((zm6 BK254.out hg : gb267 ≠ gb254)); clear HO_8; clear HO_9; clear HL247_0; clear HO257; clear HL258_0; clear HO261; clear HO264; clear BK254; clear HR258_0; clear HB; have HO_8 := n0_; have HO_9 := n1_; have HL247_0 := n2_; have HO257 := n3_; have HL258_0 := n4_; have HO261 := n5_; have HO264 := n6_; have BK254 := n7_; have HR258_0 := n8_; have HB := n9_; have BK267 := n10_; have GW267 := n11_; have GE267 := n12_; have NB254_267 := n13_; have NB267_254 := n14_; clear n0_ n1_ n2_ n3_ n4_ n5_ n6_ n7_ n8_ n9_ n10_ n11_ n12_ n13_ n14_; clear hb hbox hg; obtain ⟨Ao36, co36, eo36⟩ := Kd.R_slice HO264.out; subst eo36; have hnb37 := NB267_254.out; have hnc37 := NB254_267.out; obtain ⟨hcz38_0, hcz38_1, hcz38_2, hfz38_0, hfz38_1, hfz38_2⟩ := zc6_3 (w := w35) BK267.out) | ((with_reducible refine gate_store (t := 49) (p := 15) rfl ?_); refine store_event (t := 49) (p := 15) (v := ?vo_w39) (w1 := (((w35.setCell ⟨gb267, 0, none⟩ (.slice Ao36 t262.length co36)).setCell ⟨gb267, 1, none⟩ (.int .i64 t265)).setCell ⟨gb267, 2, none⟩ (.int .i64 t266))) ?hg ?ho ?hn ?hr ?_; (case ho => rfl); (case hg => rfl); (case hn => rfl); (case hr => first | (go_simp; done) | (go_simp; rfl)); intro w39 hw; have n0_ : Aside0 (Kd.R (Kd.int .i64) 3 w39 w.heap.size (fun k_ => (w.heap.size ≤ k_) ∧ some k_ ≠ (v260 : Value).ownBlock ∧ some k_ ≠ (.slice Ao36 t262.length co36 : Value).ownBlock) (.slice Ao29 x8_1.length co29) x8_1) := ⟨(by rw [hw]; exact (by (with_reducible repeat (first | apply Kd.R_alloc | apply Kd.R_drewN | apply Kd.R_drew)); exact Kd.R_mono (Kd.R_far (p := ⟨gb267, 2, none⟩) (Kd.R_far (p := ⟨gb267, 1, none⟩) (Kd.R_far (p := ⟨gb267, 0, none⟩) (Kd.R_types HO_8.out BK267.out (by decide)) (fun _ hk => hk.2) (.slice Ao36 t262.length co36)) (fun _ hk => hk.2) (.int .i64 t265)) (fun _ hk => hk.2) (.int .i64 t266)) (fun _ hk => ⟨hk.1.1.1, ⟨hk.1.1.2, hk.1.2⟩⟩)))⟩; have n1_ : Aside0 (Kd.N k49 49 w39 w.heap.size (fun k_ => (P1_ k_ ∨ w.heap.size ≤ k_) ∧ some k_ ≠ (.slice Ao29 x8_1.length co29 : Value).ownBlock ∧ some k_ ≠ (v256 : Value).ownBlock ∧ some k_ ≠ (v260 : Value).ownBlock ∧ some k_ ≠ (.slice Ao36 t262.length co36 : Value).ownBlock ∧ k_ ≠ gb254 ∧ k_ ≠ gb267) (.slice (some ad247) x9_1.length co28) x9_1) := ⟨(by rw [hw]; exact (by (with_reducible repeat (first | apply Kd.N_alloc | apply Kd.N_drewN | apply Kd.N_drew)); exact Kd.N_mono (Kd.N_far (p := ⟨gb267, 2, none⟩) (Kd.N_far (p := ⟨gb267, 1, none⟩) (Kd.N_far (p := ⟨gb267, 0, none⟩) (Kd.N_mono HO_9.out (fun k_ hk => (⟨hk, hk.2⟩ : _ ∧ k_ ≠ gb267))) (fun _ hk => hk.2) (.slice Ao36 t262.length co36)) (fun _ hk => hk.2) (.int .i64 t265)) (fun _ hk => hk.2) (.int .i64 t266)) (fun _ hk => ⟨hk.1.1.1.1.1.1, ⟨hk.1.1.1.1.1.2.1, ⟨hk.1.1.1.1.2, ⟨hk.1.1.1.2, ⟨hk.1.1.2, ⟨hk.1.1.1.1.1.2.2, hk.1.2⟩⟩⟩⟩⟩⟩)))⟩; have n2_ : Aside0 (Kd.V (Kd.int .i64) 3 w39 w.heap.size (fun k_ => (P1_ k_ ∨ w.heap.size ≤ k_) ∧ some k_ ≠ (.slice Ao29 x8_1.length co29 : Value).ownBlock ∧ some k_ ≠ (.slice (some ad247) x9_1.length co28 : Value).ownBlock ∧ some k_ ≠ (v256 : Value).ownBlock ∧ some k_ ≠ (v260 : Value).ownBlock ∧ some k_ ≠ (.slice Ao36 t262.length co36 : Value).ownBlock ∧ k_ ≠ gb254 ∧ k_ ≠ gb267) (.slice A247_0 ((rd_T49 x9_1 (rd l2 x10_1)).f0).length c247_0) ((rd_T49 x9_1 (rd l2 x10_1)).f0)) := ⟨(by rw [hw]; exact (by (with_reducible repeat (first | apply Kd.V_alloc | apply Kd.V_drewN | apply Kd.V_drew)); exact Kd.V_mono (Kd.V_far (p := ⟨gb267, 2, none⟩) (Kd.V_far (p := ⟨gb267, 1, none⟩) (Kd.V_far (p := ⟨gb267, 0, none⟩) (Kd.V_mono HL247_0.out (fun k_ hk => (⟨hk, hk.2⟩ : _ ∧ k_ ≠ gb267))) (fun _ hk => hk.2) (.slice Ao36 t262.length co36)) (fun _ hk => hk.2) (.int .i64 t265)) (fun _ hk => hk.2) (.int .i64 t266)) (fun _ hk => ⟨hk.1.1.1.1.1.1, ⟨hk.1.1.1.1.1.2.1, ⟨hk.1.1.1.1.1.2.2.1, ⟨hk.1.1.1.1.2, ⟨hk.1.1.1.2, ⟨hk.1.1.2, ⟨hk.1.1.1.1.1.2.2.2, hk.1.2⟩⟩⟩⟩⟩⟩⟩)))⟩; have n3_ : Aside0 (Kd.R k31 31 w39 w.heap.size (fun k_ => (w.heap.size ≤ k_) ∧ k_ ≠ gb254) v256 y255) := ⟨(by rw [hw]; exact (by (with_reducible repeat (first | apply Kd.R_alloc | apply Kd.R_drewN | apply Kd.R_drew)); exact Kd.R_mono (Kd.R_far (p := ⟨gb267, 2, none⟩) (Kd.R_far (p := ⟨gb267, 1, none⟩) (Kd.R_far (p := ⟨gb267, 0, none⟩) (Kd.R_types HO257.out BK267.out (by decide)) (fun _ hk => hk.2) (.slice Ao36 t262.length co36)) (fun _ hk => hk.2) (.int .i64 t265)) (fun _ hk => hk.2) (.int .i64 t266)) (fun _ hk => ⟨hk.1.1, hk.1.2⟩)))⟩; have n4_ : Aside0 (Kd.V (Kd.int .i64) 3 w39 w.heap.size (fun k_ => (P1_ k_ ∨ w.heap.size ≤ k_) ∧ some k_ ≠ (.slice Ao29 x8_1.length co29 : Value).ownBlock ∧ some k_ ≠ (.slice (some ad247) x9_1.length co28 : Value).ownBlock ∧ some k_ ≠ (v256 : Value).ownBlock ∧ some k_ ≠ (v260 : Value).ownBlock ∧ some k_ ≠ (.slice Ao36 t262.length co36 : Value).ownBlock ∧ k_ ≠ gb254 ∧ k_ ≠ gb267) (.slice A258_0 ((rd_T49 x9_1 (rd l2 x10_1)).f0).length c258_0) ((rd_T49 x9_1 (rd l2 x10_1)).f0)) := ⟨(by rw [hw]; exact (by (with_reducible repeat (first | apply Kd.V_alloc | apply Kd.V_drewN | apply Kd.V_drew)); exact Kd.V_mono (Kd.V_far (p := ⟨gb267, 2, none⟩) (Kd.V_far (p := ⟨gb267, 1, none⟩) (Kd.V_far (p := ⟨gb267, 0, none⟩) (Kd.V_mono HL258_0.out (fun k_ hk => (⟨hk, hk.2⟩ : _ ∧ k_ ≠ gb267))) (fun _ hk => hk.2) (.slice Ao36 t262.length co36)) (fun _ hk => hk.2) (.int .i64 t265)) (fun _ hk => hk.2) (.int .i64 t266)) (fun _ hk => ⟨hk.1.1.1.1.1.1.1, ⟨hk.1.1.1.1.1.1.2.1, ⟨hk.1.1.1.1.2, ⟨hk.1.1.1.1.1.2, ⟨hk.1.1.1.2, ⟨hk.1.1.2, ⟨hk.1.1.1.1.1.1.2.2, hk.1.2⟩⟩⟩⟩⟩⟩⟩)))⟩; have n5_ : Aside0 (Kd.R (Kd.int .i64) 3 w39 w.heap.size (fun k_ => (w.heap.size ≤ k_) ∧ some k_ ≠ (.slice Ao29 x8_1.length co29 : Value).ownBlock ∧ some k_ ≠ (.slice Ao36 t262.length co36 : Value).ownBlock) v260 t259) := ⟨(by rw [hw]; exact (by (with_reducible repeat (first | apply Kd.R_alloc | apply Kd.R_drewN | apply Kd.R_drew)); exact Kd.R_mono (Kd.R_far (p := ⟨gb267, 2, none⟩) (Kd.R_far (p := ⟨gb267, 1, none⟩) (Kd.R_far (p := ⟨gb267, 0, none⟩) (Kd.R_types HO261.out BK267.out (by decide)) (fun _ hk => hk.2) (.slice Ao36 t262.length co36)) (fun _ hk => hk.2) (.int .i64 t265)) (fun _ hk => hk.2) (.int .i64 t266)) (fun _ hk => ⟨hk.1.1.1, ⟨hk.1.2, hk.1.1.2⟩⟩)))⟩; have n6_ : Aside0 (Kd.R (Kd.int .i64) 3 w39 w.heap.size (fun k_ => (w.heap.size ≤ k_) ∧ some k_ ≠ (.slice Ao29 x8_1.length co29 : Value).ownBlock ∧ some k_ ≠ (v260 : Value).ownBlock) (.slice Ao36 t262.length co36) t262) := ⟨(by rw [hw]; exact (by (with_reducible repeat (first | apply Kd.R_alloc | apply Kd.R_drewN | apply Kd.R_drew)); exact Kd.R_mono (Kd.R_far (p := ⟨gb267, 2, none⟩) (Kd.R_far (p := ⟨gb267, 1, none⟩) (Kd.R_far (p := ⟨gb267, 0, none⟩) (Kd.R_types HO264.out BK267.out (by decide)) (fun _ hk => hk.2) (.slice Ao36 t262.length co36)) (fun _ hk => hk.2) (.int .i64 t265)) (fun _ hk => hk.2) (.int .i64 t266)) (fun _ hk => ⟨hk.1.1.1, ⟨hk.1.2, hk.1.1.2⟩⟩)))⟩; have n7_ : Aside0 (w39.heap[gb254]? = some (.cells #[.int .i64 t248, .int .i64 t249, .int .i64 t250, .int .i64 t251, .int .i64 t252] 31 (0, 0))) := ⟨(by rw [hw]; exact (by refine zP6 ?_; refine blk_far ?_ NB254_267.out _; refine zP6 ?_; refine blk_far ?_ NB254_267.out _; refine zP6 ?_; refine blk_far ?_ NB254_267.out _; refine zP6 ?_; exact BK254.out))⟩; have n8_ : Aside0 (w39.heap[gb267]? = some (.cells #[.slice Ao36 t262.length co36, .int .i64 t265, .int .i64 t266] 49 (0, 0))) := ⟨(by rw [hw]; exact (by refine zP6 ?_; refine blk_put (cs := #[.slice Ao36 t262.length co36, .int .i64 t265, .int .i64 0]) ?_ 2 _ rfl; refine zP6 ?_; refine blk_put (cs := #[.slice Ao36 t262.length co36, .int .i64 0, .int .i64 0]) ?_ 1 _ rfl; refine zP6 ?_; refine blk_put (cs := #[.slice none 0 0, .int .i64 0, .int .i64 0]) ?_ 0 _ rfl; refine zP6 ?_; exact BK267.out))⟩; have n9_ : Aside0 (Below w.heap.size w w39) := ⟨(by rw [hw]; exact (zB6_2))⟩; clear hw; clear HO_8; clear HO_9; clear HL247_0; clear HO257; clear HL258_0; clear HO261; clear HO264; clear BK254; clear BK267; clear HB; have HO_8 := n0_; have HO_9 := n1_; have HL247_0 := n2_; have HO257 := n3_; have HL258_0 := n4_; have HO261 := n5_; have HO264 := n6_; have BK254 := n7_; have BK267 := n8_; have HB := n9_; clear n0_ n1_ n2_ n3_ n4_ n5_ n6_ n7_ n8_ n9_; obtain ⟨hcz40_0, hcz40_1, hcz40_2, hfz40_0, hfz40_1, hfz40_2⟩ := zc6_3 (w := w39) BK267.out; have p27 : 0 ≤ ((rd l2 x10_1) : Int) := zA6; have q27 : ((rd l2 x10_1) : Int) < ((x9_1.length : Int) : Int) := zA6; obtain ⟨go27, co27, eo27, gb27, gl27, cl27, HG27⟩ := Kd.N_form HO_9.out (by omega); (first | cases eo27 | (injection eo27 with ea_ en_ ec_; (first | subst ea_ | (injection ea_ with ea_; subst ea_)); subst ec_; clear en_)); have GB27 := Aside0.mk gb27; have GG27 := Aside0.mk HG27; clear gb27 gl27 HG27; (first | simp only [add_plain] at hx247_0 | skip); (first | simp only [add_plain] at hx247_1 | skip); (first | simp only [add_plain] at hx247_2 | skip); (first | simp only [add_plain] at hx258_0 | skip); (first | simp only [add_plain] at hx258_1 | skip); (first | simp only [add_plain] at hx258_2 | skip); obtain ⟨ce27, hcl27, hM27, hcc27, hfr27⟩ := Kd.N_elem HO_9.out z49 ((rd l2 x10_1) : Int) p27 q27; obtain ⟨ua27_0, uc27_0, rfl, ul27_0, ge27_0⟩ := k49_openF hM27; have hx27_0 : w39.cell? ⟨go27, ((rd l2 x10_1) : Int).toNat * 3, none⟩ = some (.slice ua27_0 ((rd_T49 x9_1 (rd l2 x10_1)).f0).length uc27_0) := hcc27 0 _ rfl; have hx27_1 : w39.cell? ⟨go27, ((rd l2 x10_1) : Int).toNat * 3 + 1, none⟩ = some (.int .i64 ((rd_T49 x9_1 (rd l2 x10_1)).f1)) := hcc27 1 _ rfl; have hx27_2 : w39.cell? ⟨go27, ((rd l2 x10_1) : Int).toNat * 3 + 2, none⟩ = some (.int .i64 ((rd_T49 x9_1 (rd l2 x10_1)).f2)) := hcc27 2 _ rfl; have hf27_0 : w39.frozen? ⟨go27, ((rd l2 x10_1) : Int).toNat * 3, none⟩ = false := hfr27 0; have hf27_1 : w39.frozen? ⟨go27, ((rd l2 x10_1) : Int).toNat * 3 + 1, none⟩ = false := hfr27 1; have hf27_2 : w39.frozen? ⟨go27, ((rd l2 x10_1) : Int).toNat * 3 + 2, none⟩ = false := hfr27 2; clear hcl27 hcc27 hfr27 hM27; replace p27 := eq_true p27; replace q27 := eq_true q27; have HX41 := Aside0.mk (show Kd.N k49 49 w39 w.heap.size (fun k_ => (P1_ k_ ∨ w.heap.size ≤ k_) ∧ some k_ ≠ (.slice Ao29 x8_1.length co29 : Value).ownBlock ∧ some k_ ≠ (v256 : Value).ownBlock ∧ some k_ ≠ (v260 : Value).ownBlock ∧ k_ ≠ gb254 ∧ k_ ≠ gb267) (.slice (some ⟨go27, 0, none⟩) x9_1.length co28) x9_1 from (by (with_reducible repeat (first | apply Kd.N_alloc | apply Kd.N_drewN | apply Kd.N_drew)); exact Kd.N_mono HO_9.out (fun _ hk => ⟨hk.1, ⟨hk.2.1, ⟨hk.2.2.1, ⟨hk.2.2.2.1, ⟨hk.2.2.2.2.2.1, hk.2.2.2.2.2.2⟩⟩⟩⟩⟩))); obtain ⟨ce41, hcl41, hM41, hcc41, hfr41⟩ := Kd.N_elem HX41.out z49 ((rd l2 x10_1) : Int) (zA6) (by have h_ : ((rd l2 x10_1) : Int) < ((x9_1.length : Int) : Int) := zA6; first | exact h_ | (have e_ := (Kd.N_reads' HO_9.out).1; omega) | simpa using h_); obtain ⟨ua41_0, uc41_0, rfl, ul41_0, ge41_0⟩ := k49_openF hM41; have HP41 := Kd.N_seg HX41.out ((rd l2 x10_1) : Int) (zA6) (by have h_ : ((rd l2 x10_1) : Int) < ((x9_1.length : Int) : Int) := zA6; first | exact h_ | (have e_ := (Kd.N_reads' HO_9.out).1; omega) | simpa using h_) (seg := [.slice Ao36 t262.length co36, .int .i64 t265, .int .i64 t266]) (j := 0) hcl41 hcc41 (show 3 ≤ 3 from by decide) (x' := (⟨t262, t265, t266⟩ : S49)) (k49_mkF _ _ (⟨t262, t265, t266⟩ : S49) (Kd.R_reads' (Kd.R_mono (ok' := (fun k_ => ((fun k_ => (P1_ k_ ∨ w.heap.size ≤ k_) ∧ some k_ ≠ (.slice Ao29 x8_1.length co29 : Value).ownBlock ∧ some k_ ≠ (v256 : Value).ownBlock ∧ some k_ ≠ (v260 : Value).ownBlock ∧ k_ ≠ gb254 ∧ k_ ≠ gb267)) k_ ∧ k_ ≠ go27)) (Kd.R_types (Kd.R_types (Kd.R_apart' (Kd.R_apart' (HO264.out) (Kd.R_typed HO257.out) (by decide)) (Kd.N_typed HO_9.out) (by decide)) BK254.out (by decide)) BK267.out (by decide)) (fun k_ hk => ⟨⟨(.inr (hk.1.1.1.1.1)), ⟨hk.1.1.1.1.2.1, ⟨hk.1.1.1.2, ⟨hk.1.1.1.1.2.2, ⟨hk.1.2, hk.2⟩⟩⟩⟩⟩, fun e_ => (hk.1.1.2) (by rw [e_]; rfl)⟩))).2.1 (Kd.R_F (Kd.R_mono (ok' := (fun k_ => ((fun k_ => (P1_ k_ ∨ w.heap.size ≤ k_) ∧ some k_ ≠ (.slice Ao29 x8_1.length co29 : Value).ownBlock ∧ some k_ ≠ (v256 : Value).ownBlock ∧ some k_ ≠ (v260 : Value).ownBlock ∧ k_ ≠ gb254 ∧ k_ ≠ gb267)) k_ ∧ k_ ≠ go27)) (Kd.R_types (Kd.R_types (Kd.R_apart' (Kd.R_apart' (HO264.out) (Kd.R_typed HO257.out) (by decide)) (Kd.N_typed HO_9.out) (by decide)) BK254.out (by decide)) BK267.out (by decide)) (fun k_ hk => ⟨⟨(.inr (hk.1.1.1.1.1)), ⟨hk.1.1.1.1.2.1, ⟨hk.1.1.1.2, ⟨hk.1.1.1.1.2.2, ⟨hk.1.2, hk.2⟩⟩⟩⟩⟩, fun e_ => (hk.1.1.2) (by rw [e_]; rfl)⟩)))) (fun _ hk => hk); have hx41_0 := hcc41 0 _ rfl; (try simp only [show (k49).sz = 3 from rfl, Nat.mul_one, Nat.add_zero] at hx41_0); have hf41_0 := hfr41 0; (try simp only [show (k49).sz = 3 from rfl, Nat.mul_one, Nat.add_zero] at hf41_0); have hx41_1 := hcc41 1 _ rfl; (try simp only [show (k49).sz = 3 from rfl, Nat.mul_one, Nat.add_zero] at hx41_1); have hf41_1 := hfr41 1; (try simp only [show (k49).sz = 3 from rfl, Nat.mul_one, Nat.add_zero] at hf41_1); have hx41_2 := hcc41 2 _ rfl; (try simp only [show (k49).sz = 3 from rfl, Nat.mul_one, Nat.add_zero] at hx41_2); have hf41_2 := hfr41 2; (try simp only [show (k49).sz = 3 from rfl, Nat.mul_one, Nat.add_zero] at hf41_2); clear hcl41 hcc41 hfr41 hM41) | ((with_reducible refine gate_store (t := 49) (p := 72) rfl ?_); refine store_event (t := 49) (p := 72) (v := ?vo_w42) (w1 := (((w39.setCell ⟨go27, ((rd l2 x10_1) : Int).toNat * 3, none⟩ (.slice Ao36 t262.length co36)).setCell ⟨go27, ((rd l2 x10_1) : Int).toNat * 3 + 1, none⟩ (.int .i64 t265)).setCell ⟨go27, ((rd l2 x10_1) : Int).toNat * 3 + 2, none⟩ (.int .i64 t266))) ?hg ?ho ?hn ?hr ?_; (case ho => rfl); (case hg => rfl); (case hn => rfl); (case hr => first | (go_simp; done) | (go_simp; rfl)); intro w42 hw; have hg : w39.grownBy w42 (some go27) := (by rw [hw]; exact HP41.2); have hp_ : Kd.N k49 49 w42 w.heap.size (fun k_ => (P1_ k_ ∨ w.heap.size ≤ k_) ∧ some k_ ≠ (.slice Ao29 x8_1.length co29 : Value).ownBlock ∧ some k_ ≠ (v256 : Value).ownBlock ∧ some k_ ≠ (v260 : Value).ownBlock ∧ k_ ≠ gb254 ∧ k_ ≠ gb267) (.slice (some ⟨go27, 0, none⟩) x9_1.length co28) y268 := (by rw [hw, Ny268.out]; exact HP41.1); clear HP41; have n0_ := Aside0.mk (Kd.R_over' (v := (.slice (some ⟨go27, 0, none⟩) x9_1.length co28)) (zR6 HO_8.out) (Kd.N_typed HO_9.out) (by decide) hg); have n1_ := Aside0.mk (hp_); have n2_ := Aside0.mk (Kd.V_afterv (v := (.slice (some ⟨go27, 0, none⟩) x9_1.length co28)) (v1 := (.slice (some ⟨go27, 0, none⟩) x9_1.length co28)) (ok := (fun k_ => (P1_ k_ ∨ w.heap.size ≤ k_) ∧ some k_ ≠ (.slice Ao29 x8_1.length co29 : Value).ownBlock ∧ some k_ ≠ (v256 : Value).ownBlock ∧ some k_ ≠ (v260 : Value).ownBlock ∧ some k_ ≠ (.slice Ao36 t262.length co36 : Value).ownBlock ∧ k_ ≠ gb254 ∧ k_ ≠ gb267)) (by (with_reducible repeat (first | apply Kd.V_alloc | apply Kd.V_drewN | apply Kd.V_drew)); exact Kd.V_mono HL247_0.out (fun _ hk => ⟨⟨hk.1, ⟨hk.2.1, ⟨hk.2.2.2.1, ⟨hk.2.2.2.2.1, ⟨hk.2.2.2.2.2.1, ⟨hk.2.2.2.2.2.2.1, hk.2.2.2.2.2.2.2⟩⟩⟩⟩⟩⟩, hk.2.2.1⟩)) hg (.inl rfl)); have n3_ := Aside0.mk (zg6 BK254.out hg (Kd.N_ne HO_9.out BK254.out (by decide))); have n4_ := Aside0.mk (Kd.R_over' (v := (.slice (some ⟨go27, 0, none⟩) x9_1.length co28)) (zR6 HO257.out) (Kd.N_typed HO_9.out) (by decide) hg); have n5_ := Aside0.mk (Kd.V_afterv (v := (.slice (some ⟨go27, 0, none⟩) x9_1.length co28)) (v1 := (.slice (some ⟨go27, 0, none⟩) x9_1.length co28)) (ok := (fun k_ => (P1_ k_ ∨ w.heap.size ≤ k_) ∧ some k_ ≠ (.slice Ao29 x8_1.length co29 : Value).ownBlock ∧ some k_ ≠ (v256 : Value).ownBlock ∧ some k_ ≠ (v260 : Value).ownBlock ∧ some k_ ≠ (.slice Ao36 t262.length co36 : Value).ownBlock ∧ k_ ≠ gb254 ∧ k_ ≠ gb267)) (by (with_reducible repeat (first | apply Kd.V_alloc | apply Kd.V_drewN | apply Kd.V_drew)); exact Kd.V_mono HL258_0.out (fun _ hk => ⟨⟨hk.1, ⟨hk.2.1, ⟨hk.2.2.2.1, ⟨hk.2.2.2.2.1, ⟨hk.2.2.2.2.2.1, ⟨hk.2.2.2.2.2.2.1, hk.2.2.2.2.2.2.2⟩⟩⟩⟩⟩⟩, hk.2.2.1⟩)) hg (.inl rfl)); have n6_ := Aside0.mk (Kd.R_over' (v := (.slice (some ⟨go27, 0, none⟩) x9_1.length co28)) (zR6 HO261.out) (Kd.N_typed HO_9.out) (by decide) hg); have n7_ := Aside0.mk (zg6 BK267.out hg (Kd.N_away HO_9.out (fun _ hk => hk.2.2.2.2.2.2))); have n8_ := Aside0.mk ((by rw [hw]; exact below_set (below_set (below_set (HB.out) GB27.out) GB27.out) GB27.out : Below w.heap.size w w42)); clear HO_8; clear HO_9; clear HL247_0; clear BK254; clear HO257; clear HL258_0; clear HO261; clear BK267; clear HB; clear HO264; have HO_8 := n0_; have HO_9 := n1_; have HL247_0 := n2_; have BK254 := n3_; have HO257 := n4_; have HL258_0 := n5_; have HO261 := n6_; have BK267 := n7_; have HB := n8_; clear n0_ n1_ n2_ n3_ n4_ n5_ n6_ n7_ n8_; clear hg hw hp_))
     go_roundg kj13
     case measure => have := HK1.out; have := HJ13.out; omega
     case rel => exact ⟨(y255), (t259), (y268), (wrap64 (x10_1 + 1)), (by first | rfl | (simp; done) | (simp [*]; done)), H', ⟨by have := HK1.out; have := HJ13.out; omega⟩, ⟨by (with_reducible repeat (first | apply Kd.R_alloc | apply Kd.R_drewN | apply Kd.R_drew)); exact Kd.R_mono HO257.out (fun _ hk => hk.1)⟩, ⟨by (with_reducible repeat (first | apply Kd.R_alloc | apply Kd.R_drewN | apply Kd.R_drew)); exact Kd.R_mono HO261.out (fun _ hk => hk.1)⟩, ⟨by (with_reducible repeat (first | apply Kd.N_alloc | apply Kd.N_drewN | apply Kd.N_drew)); exact Kd.N_mono HO_9.out (fun _ hk => ⟨hk.1, ⟨hk.2.2.1, hk.2.2.2.1⟩⟩)⟩, ⟨zB6_2⟩⟩

/-- A state of type 90 at block g of W; what its slices lead to came in by w0. -/
def IsS90 (w0 W : World) (g : Nat) (f0 : List Int) (f1 : Int) (f2 : Int) : Prop := ∃ A0 c0, W.heap[g]? = some (.cells #[.slice A0 f0.length c0, .int .i64 f1, .int .i64 f2] 90 (0, 0)) ∧ w0.heap.size ≤ g ∧ Kd.C (Kd.int .u8) w0 A0 f0.length f0
theorem IsS90.grown {w0 W : World} {g : Nat} {f0 : List Int} {f1 : Int} {f2 : Int} {W1 : World} {row : Option Nat} (h : IsS90 w0 W g f0 f1 f2) (hw : W.grownBy W1 row) (hne : some g ≠ row) : IsS90 w0 W1 g f0 f1 f2 := by
 obtain ⟨A0, c0, hb, hg, hr0⟩ := h
 exact ⟨A0, c0, blk_grown hb hw hne, hg, hr0⟩
theorem IsS90.own_neN {w0 W : World} {g : Nat} {f0 : List Int} {f1 : Int} {f2 : Int} {α : Type} {d : Kd α} {e : Nat} {base : Nat} {ok : Nat → Prop} {v : Value} {xs : List α} (h : IsS90 w0 W g f0 f1 f2) (ho : Kd.N d e W base ok v xs) (ht : e ≠ 90) : some g ≠ v.ownBlock := by
 obtain ⟨A0, c0, hb, hg, hr0⟩ := h
 exact Kd.N_ne ho hb ht
theorem IsS90.fresh {w0 W : World} {g : Nat} {f0 : List Int} {f1 : Int} {f2 : Int} (h : IsS90 w0 W g f0 f1 f2) : ∀ k, W.heap.size ≤ k → k ≠ g := by
 obtain ⟨A0, c0, hb, hg, hr0⟩ := h
 exact Kd.freshB hb
theorem IsS90.kept {w0 W : World} {g : Nat} {f0 : List Int} {f1 : Int} {f2 : Int} {W1 : World} {S : Nat → Prop} (h : IsS90 w0 W g f0 f1 f2) (hk : Kept W W1 S) (hne : ¬ S g) : IsS90 w0 W1 g f0 f1 f2 := by
 obtain ⟨A0, c0, hb, hg, hr0⟩ := h
 exact ⟨A0, c0, blk_kept hb hk hne, hg, hr0⟩
theorem IsS90.below {w0 W : World} {g : Nat} {f0 : List Int} {f1 : Int} {f2 : Int} {W1 : World} (h : IsS90 w0 W g f0 f1 f2) (hw : Below W.heap.size W W1) : IsS90 w0 W1 g f0 f1 f2 := h.grown (grown_of_below hw none) (by simp)
theorem IsS90.alloc {w0 W : World} {g : Nat} {f0 : List Int} {f1 : Int} {f2 : Int} (h : IsS90 w0 W g f0 f1 f2) (o : Obj) : IsS90 w0 (W.alloc o) g f0 f1 f2 := h.below (below_alloc (Below.refl _ _) o)
theorem IsS90.drewN {w0 W : World} {g : Nat} {f0 : List Int} {f1 : Int} {f2 : Int} (h : IsS90 w0 W g f0 f1 f2) (m : Nat) : IsS90 w0 (W.drewN m) g f0 f1 f2 := h
theorem IsS90.drew {w0 W : World} {g : Nat} {f0 : List Int} {f1 : Int} {f2 : Int} (h : IsS90 w0 W g f0 f1 f2) : IsS90 w0 W.drew g f0 f1 f2 := h
theorem IsS90.at_ {w0 W : World} {g : Nat} {f0 : List Int} {f1 : Int} {f2 : Int} {w' : World} {m : Nat} (hq : W.drewN m = w') (h : IsS90 w0 W g f0 f1 f2) : IsS90 w0 w' g f0 f1 f2 := by subst hq; exact IsS90.drewN h m
theorem IsS90.apart {w0 W : World} {g : Nat} {f0 : List Int} {f1 : Int} {f2 : Int} {α : Type} {d : Kd α} {e : Nat} {base : Nat} {ok : Nat → Prop} {v : Value} {xs : List α} (h : IsS90 w0 W g f0 f1 f2) (ho : d.R e W base ok v xs) (ht : ∀ q, q ∈ e :: d.E → q ≠ 90) : d.R e W base (fun k => ok k ∧ k ≠ g) v xs := by
 obtain ⟨A0, c0, hb, hg, hr0⟩ := h
 exact Kd.R_types ho hb ht
theorem IsS90.own_ne {w0 W : World} {g : Nat} {f0 : List Int} {f1 : Int} {f2 : Int} {α : Type} {d : Kd α} {e : Nat} {base : Nat} {ok : Nat → Prop} {v : Value} {xs : List α} (h : IsS90 w0 W g f0 f1 f2) (ho : d.R e W base ok v xs) (ht : e ≠ 90) : some g ≠ v.ownBlock := by
 obtain ⟨A0, c0, hb, hg, hr0⟩ := h
 exact Kd.R_ne ho hb ht
theorem IsS90.apartQ {w0 W : World} {g : Nat} {f0 : List Int} {f1 : Int} {f2 : Int} {α : Type} {d : Kd α} {e : Nat} {base : Nat} {ok : Nat → Prop} {v : Value} {xs : List α} (h : IsS90 w0 W g f0 f1 f2) (ho : d.Q e W base ok v xs) (ht : ∀ q, q ∈ e :: d.E → q ≠ 90) : d.Q e W base (fun k => ok k ∧ k ≠ g) v xs := by
 obtain ⟨A0, c0, hb, hg, hr0⟩ := h
 exact Kd.Q_types ho hb ht
theorem IsS90.own_neQ {w0 W : World} {g : Nat} {f0 : List Int} {f1 : Int} {f2 : Int} {α : Type} {d : Kd α} {e : Nat} {base : Nat} {ok : Nat → Prop} {v : Value} {xs : List α} (h : IsS90 w0 W g f0 f1 f2) (ho : d.Q e W base ok v xs) (ht : e ≠ 90) : some g ≠ v.ownBlock := by
 obtain ⟨A0, c0, hb, hg, hr0⟩ := h
 exact Kd.Q_ne ho hb ht
theorem IsS90.apartS {w0 W : World} {g : Nat} {f0 : List Int} {f1 : Int} {f2 : Int} {α : Type} {d : Kd α} {e : Nat} {base : Nat} {ok : Nat → Prop} {v : Value} {xs : List α} (h : IsS90 w0 W g f0 f1 f2) (ho : d.S e W base ok v xs) (ht : ∀ q, q ∈ e :: d.E → q ≠ 90) : d.S e W base (fun k => ok k ∧ k ≠ g) v xs := by
 obtain ⟨A0, c0, hb, hg, hr0⟩ := h
 exact Kd.S_types ho hb ht
theorem IsS90.own_neS {w0 W : World} {g : Nat} {f0 : List Int} {f1 : Int} {f2 : Int} {α : Type} {d : Kd α} {e : Nat} {base : Nat} {ok : Nat → Prop} {v : Value} {xs : List α} (h : IsS90 w0 W g f0 f1 f2) (ho : d.S e W base ok v xs) (ht : e ≠ 90) : some g ≠ v.ownBlock := by
 obtain ⟨A0, c0, hb, hg, hr0⟩ := h
 exact Kd.S_ne ho hb ht
theorem IsS90.lt {w0 W : World} {g : Nat} {f0 : List Int} {f1 : Int} {f2 : Int} (h : IsS90 w0 W g f0 f1 f2) : g < W.heap.size := by
 obtain ⟨A0, c0, hb, hg, hr0⟩ := h
 exact blk_lt hb
theorem IsS90.ge {w0 W : World} {g : Nat} {f0 : List Int} {f1 : Int} {f2 : Int} (h : IsS90 w0 W g f0 f1 f2) : w0.heap.size ≤ g := by
 obtain ⟨A0, c0, hb, hg, hr0⟩ := h
 exact hg
theorem IsS90.ne_blk {w0 W : World} {g : Nat} {f0 : List Int} {f1 : Int} {f2 : Int} {a : Nat} {cs : Array Value} {t : TypeId} {fr : Nat × Nat} (h : IsS90 w0 W g f0 f1 f2) (hb2 : W.heap[a]? = some (.cells cs t fr)) (ht : t ≠ 90) : g ≠ a := by
 obtain ⟨A0, c0, hb, hg, hr0⟩ := h
 rintro rfl
 rw [hb] at hb2
 injection hb2 with hb2
 injection hb2 with _ ht2
 exact ht ht2.symm
theorem IsS90.far {w0 W : World} {g : Nat} {f0 : List Int} {f1 : Int} {f2 : Int} {p : Addr} (h : IsS90 w0 W g f0 f1 f2) (hne : g ≠ p.block) (u : Value) : IsS90 w0 (W.setCell p u) g f0 f1 f2 := by
 obtain ⟨A0, c0, hb, hg, hr0⟩ := h
 exact ⟨A0, c0, blk_far hb hne u, hg, hr0⟩
theorem cellS90_0 {W : World} {g : Nat} {A0 : Option Addr} {c0 : Nat} {f0 : List Int} {f1 : Int} {f2 : Int} (h : W.heap[g]? = some (.cells #[.slice A0 f0.length c0, .int .i64 f1, .int .i64 f2] 90 (0, 0))) : W.cell? ⟨g, 0, none⟩ = some (.slice A0 f0.length c0) := (blk_cell h 0).trans rfl
theorem cellS90_1 {W : World} {g : Nat} {A0 : Option Addr} {c0 : Nat} {f0 : List Int} {f1 : Int} {f2 : Int} (h : W.heap[g]? = some (.cells #[.slice A0 f0.length c0, .int .i64 f1, .int .i64 f2] 90 (0, 0))) : W.cell? ⟨g, 1, none⟩ = some (.int .i64 f1) := (blk_cell h 1).trans rfl
theorem IsS90.set_1 {w0 W : World} {g : Nat} {f0 : List Int} {f1 : Int} {f2 : Int} (h : IsS90 w0 W g f0 f1 f2) (x : Int) : IsS90 w0 (W.setCell ⟨g, 1, none⟩ (.int .i64 x)) g f0 x f2 := by
 obtain ⟨A0, c0, hb, hg, hr0⟩ := h
 exact ⟨A0, c0, by simpa using blk_set hb 1 (.int .i64 x), hg, hr0⟩
theorem cellS90_2 {W : World} {g : Nat} {A0 : Option Addr} {c0 : Nat} {f0 : List Int} {f1 : Int} {f2 : Int} (h : W.heap[g]? = some (.cells #[.slice A0 f0.length c0, .int .i64 f1, .int .i64 f2] 90 (0, 0))) : W.cell? ⟨g, 2, none⟩ = some (.int .i64 f2) := (blk_cell h 2).trans rfl
theorem IsS90.set_2 {w0 W : World} {g : Nat} {f0 : List Int} {f1 : Int} {f2 : Int} (h : IsS90 w0 W g f0 f1 f2) (x : Int) : IsS90 w0 (W.setCell ⟨g, 2, none⟩ (.int .i64 x)) g f0 f1 x := by
 obtain ⟨A0, c0, hb, hg, hr0⟩ := h
 exact ⟨A0, c0, by simpa using blk_set hb 2 (.int .i64 x), hg, hr0⟩
theorem IsS90.new (w0 W : World) (A0 : Option Addr) (c0 : Nat) (f0 : List Int) (f1 : Int) (f2 : Int) (hB : Below w0.heap.size w0 W) (hr0 : Kd.C (Kd.int .u8) w0 A0 f0.length f0) : IsS90 w0 (W.alloc (.cells #[.slice A0 f0.length c0, .int .i64 f1, .int .i64 f2] 90)) W.heap.size f0 f1 f2 := ⟨A0, c0, by simpa using heap_alloc_new W _, hB.size, hr0⟩

/-! ### spec_l1Byte: function 64 -/
def spec_l1Byte.f (s0_0 : List Int) (s0_1 : Int) (s0_2 : Int) : Option (Int × Int × Int) := if s0_1 < (s0_0.length : Int) then (if 0 ≤ s0_1 then (some (Go.bits .and .i64 (wrap64 ((Go.bits .and .i64 (Go.bits .xor .i64 ((wrap64 ((wrap64 (s0_2 * 6364136223846793005)) + 1442695040888963407)) / 8589934592) ((wrap64 ((wrap64 (s0_2 * 6364136223846793005)) + 1442695040888963407)) / 35184372088832)) 255) + (wrap64 (rd s0_0 s0_1)))) 255, wrap64 (s0_1 + 1), wrap64 ((wrap64 (s0_2 * 6364136223846793005)) + 1442695040888963407))) else (none)) else (some (Go.bits .and .i64 (Go.bits .xor .i64 ((wrap64 ((wrap64 (s0_2 * 6364136223846793005)) + 1442695040888963407)) / 8589934592) ((wrap64 ((wrap64 (s0_2 * 6364136223846793005)) + 1442695040888963407)) / 35184372088832)) 255, s0_1, wrap64 ((wrap64 (s0_2 * 6364136223846793005)) + 1442695040888963407)))
set_option maxHeartbeats 8000000 in
set_option maxRecDepth 100000 in
theorem spec_l1Byte.calls (g : Nat) (s0_0 : List Int) (s0_1 : Int) (s0_2 : Int) (r1 : Int) (r2 : Int) (r3 : Int) (w0 w : World) (hI : IsS90 w0 w g s0_0 s0_1 s0_2) (hB : Below w0.heap.size w0 w) (h : spec_l1Byte.f s0_0 s0_1 s0_2 = some (r1, r2, r3)) :
  Calls Try.prog 64 #[.pointer (some ⟨g, 0, none⟩)] w fun e w' => e = .returned (.int .i64 r1) ∧ IsS90 w0 w' g s0_0 r2 r3 ∧ Below w0.heap.size w0 w' ∧ KeepBut w w' g none := by
 have HI0 := Aside0.mk hI
 have HK := Aside0.mk (KeepBut.refl w g none)
 have HL := Aside0.mk hB.size
 clear hI
 have HW0 := Aside0.mk hB.size
 have HB := Aside0.mk hB
 clear hB
 have H : (if s0_1 < (s0_0.length : Int) then (if 0 ≤ s0_1 then (some (Go.bits .and .i64 (wrap64 ((Go.bits .and .i64 (Go.bits .xor .i64 ((wrap64 ((wrap64 (s0_2 * 6364136223846793005)) + 1442695040888963407)) / 8589934592) ((wrap64 ((wrap64 (s0_2 * 6364136223846793005)) + 1442695040888963407)) / 35184372088832)) 255) + (wrap64 (rd s0_0 s0_1)))) 255, wrap64 (s0_1 + 1), wrap64 ((wrap64 (s0_2 * 6364136223846793005)) + 1442695040888963407))) else (none)) else (some (Go.bits .and .i64 (Go.bits .xor .i64 ((wrap64 ((wrap64 (s0_2 * 6364136223846793005)) + 1442695040888963407)) / 8589934592) ((wrap64 ((wrap64 (s0_2 * 6364136223846793005)) + 1442695040888963407)) / 35184372088832)) 255, s0_1, wrap64 ((wrap64 (s0_2 * 6364136223846793005)) + 1442695040888963407)))) = some (r1, r2, r3) := h
 clear h
 by_cases c2 : s0_1 < (s0_0.length : Int)
 rotate_left
 ·rw [if_neg c2] at H
  have c2b0 : decide (s0_1 < (s0_0.length : Int)) = false := decide_eq_false c2
  clear c2
  simp only [Option.some.injEq, Prod.mk.injEq] at H
  obtain ⟨rfl, rfl, rfl⟩ := H
  obtain ⟨ASz5_0, cSz5_0, HGz5, hgz5, HSz5_0⟩ := HI0.out
  have hcz5_0 := cellS90_0 HGz5
  have hcz5_1 := cellS90_1 HGz5
  have hcz5_2 := cellS90_2 HGz5
  have hfz5_1 := blk_frozen HGz5 1
  have hfz5_2 := blk_frozen HGz5 2
  clear HGz5 hgz5
  go_enter Try.func64, Try.ntmps64
  go_wp2
  repeat (go_quiet (fail); try go_wp2)
  go_ret
  exact ⟨zE6, zB6_4, zB6_5, zB6_6⟩
 rw [if_pos c2] at H
 have c2b0 : decide (s0_1 < (s0_0.length : Int)) = true := decide_eq_true c2
 clear c2
 by_cases c3 : 0 ≤ s0_1
 rotate_left
 ·rw [if_neg c3] at H
  exact absurd H (by simp)
 rw [if_pos c3] at H
 have c3b0 : decide (0 ≤ s0_1) = true := decide_eq_true c3
 clear c3
 simp only [Option.some.injEq, Prod.mk.injEq] at H
 obtain ⟨rfl, rfl, rfl⟩ := H
 obtain ⟨ASz4_0, cSz4_0, HGz4, hgz4, HSz4_0⟩ := HI0.out
 have hcz4_0 := cellS90_0 HGz4
 have hcz4_1 := cellS90_1 HGz4
 have hcz4_2 := cellS90_2 HGz4
 have hfz4_1 := blk_frozen HGz4 1
 have hfz4_2 := blk_frozen HGz4 2
 clear HGz4 hgz4
 have p280 : 0 ≤ (s0_1 : Int) := zA6
 have q280 : s0_1 < (s0_0.length : Int) := zA6
 obtain ⟨ad280, e280, hx280_0⟩ := Kd.at_int HSz4_0 s0_1 p280 q280
 cases e280
 have hn280_0 : ad280.block ≠ g := Nat.ne_of_lt (Nat.lt_of_lt_of_le (by have := World.block_lt_of_cell? _ _ hx280_0; first | rwa [add_block] at this | exact this) (IsS90.ge HI0.out))
 replace hx280_0 := pw_cell_below HB.out hx280_0
 replace hx280_0 := (cell_far (p := ⟨g, 2, none⟩) (by first | (rw [add_block]; exact hn280_0) | (show (Addr.add _ _).block ≠ _; rw [add_block]; exact hn280_0) | exact hn280_0) (.int .i64 (wrap64 ((wrap64 (s0_2 * 6364136223846793005)) + 1442695040888963407)))).trans hx280_0
 (try have hy280_0 := fun (n_ : Nat) => (show (((w.drewN n_).setCell ⟨g, 2, none⟩ (.int .i64 (wrap64 ((wrap64 (s0_2 * 6364136223846793005)) + 1442695040888963407))))).cell? _ = some _ from hx280_0))
 clear hn280_0
 replace p280 := eq_true p280
 replace q280 := eq_true q280
 go_enter Try.func64, Try.ntmps64
 go_wp2
 repeat (go_quiet (fail); try go_wp2)
 go_ret
 exact ⟨zE6, zB6_4, zB6_5, zB6_6⟩

/-! ### spec_l1Below: function 42 -/
def spec_l1Below.f (s0_0 : List Int) (s0_1 : Int) (s0_2 : Int) (a1 : Int) : Option (Int × Int × Int) := if a1 ≤ 0 then (some (0, s0_1, s0_2)) else (if a1 ≤ 256 then ((spec_l1Byte.f s0_0 s0_1 s0_2).bind fun bt281 => (if a1 = 0 then (none) else (some (Int.tmod bt281.1 a1, bt281.2.1, bt281.2.2)))) else ((spec_l1Byte.f s0_0 s0_1 s0_2).bind fun bt284 => ((spec_l1Byte.f s0_0 bt284.2.1 bt284.2.2).bind fun bt287 => ((spec_l1Byte.f s0_0 bt287.2.1 bt287.2.2).bind fun bt290 => ((spec_l1Byte.f s0_0 bt290.2.1 bt290.2.2).bind fun bt293 => (if a1 = 0 then (none) else (some (Int.tmod (wrap64 ((wrap64 ((wrap64 ((wrap64 (bt284.1 * 16777216)) + (wrap64 (bt287.1 * 65536)))) + (wrap64 (bt290.1 * 256)))) + bt293.1)) a1, bt293.2.1, bt293.2.2))))))))
set_option maxHeartbeats 8000000 in
set_option maxRecDepth 100000 in
theorem spec_l1Below.calls (g : Nat) (s0_0 : List Int) (s0_1 : Int) (s0_2 : Int) (a1 : Int) (r1 : Int) (r2 : Int) (r3 : Int) (w0 w : World) (hI : IsS90 w0 w g s0_0 s0_1 s0_2) (hB : Below w0.heap.size w0 w) (h : spec_l1Below.f s0_0 s0_1 s0_2 a1 = some (r1, r2, r3)) :
  Calls Try.prog 42 #[.pointer (some ⟨g, 0, none⟩), .int .i64 a1] w fun e w' => e = .returned (.int .i64 r1) ∧ IsS90 w0 w' g s0_0 r2 r3 ∧ Below w0.heap.size w0 w' ∧ KeepBut w w' g none := by
 have HI0 := Aside0.mk hI
 have HK := Aside0.mk (KeepBut.refl w g none)
 have HL := Aside0.mk hB.size
 clear hI
 have HW0 := Aside0.mk hB.size
 have HB := Aside0.mk hB
 clear hB
 have H : (if a1 ≤ 0 then (some (0, s0_1, s0_2)) else (if a1 ≤ 256 then ((spec_l1Byte.f s0_0 s0_1 s0_2).bind fun bt281 => (if a1 = 0 then (none) else (some (Int.tmod bt281.1 a1, bt281.2.1, bt281.2.2)))) else ((spec_l1Byte.f s0_0 s0_1 s0_2).bind fun bt284 => ((spec_l1Byte.f s0_0 bt284.2.1 bt284.2.2).bind fun bt287 => ((spec_l1Byte.f s0_0 bt287.2.1 bt287.2.2).bind fun bt290 => ((spec_l1Byte.f s0_0 bt290.2.1 bt290.2.2).bind fun bt293 => (if a1 = 0 then (none) else (some (Int.tmod (wrap64 ((wrap64 ((wrap64 ((wrap64 (bt284.1 * 16777216)) + (wrap64 (bt287.1 * 65536)))) + (wrap64 (bt290.1 * 256)))) + bt293.1)) a1, bt293.2.1, bt293.2.2))))))))) = some (r1, r2, r3) := h
 clear h
 by_cases c3 : a1 ≤ 0
 ·rw [if_pos c3] at H
  have c3b0 : decide (a1 ≤ 0) = true := decide_eq_true c3
  clear c3
  simp only [Option.some.injEq, Prod.mk.injEq] at H
  obtain ⟨rfl, rfl, rfl⟩ := H
  go_enter Try.func42, Try.ntmps42
  go_wp2
  go_ret
  exact ⟨zE6, zB6_4, zB6_5, zB6_6⟩
 rw [if_neg c3] at H
 have c3b0 : decide (a1 ≤ 0) = false := decide_eq_false c3
 clear c3
 by_cases c4 : a1 ≤ 256
 ·rw [if_pos c4] at H
  have c4b0 : decide (a1 ≤ 256) = true := decide_eq_true c4
  clear c4
  replace H := Option.bind_eq_some_iff.mp H
  obtain ⟨⟨t281, t282, t283⟩, A50, H⟩ := H
  replace H : (if a1 = 0 then (none) else (some (Int.tmod t281 a1, t282, t283))) = some (r1, r2, r3) := H
  have A5 := Aside0.mk A50
  clear A50
  by_cases c6 : a1 = 0
  ·rw [if_pos c6] at H
   exact absurd H (by simp)
  rw [if_neg c6] at H
  have c6b0 : (a1 == 0) = false := beq_eq_false_iff_ne.mpr c6
  have c6b1 : (a1 != 0) = true := bne_iff_ne.mpr c6
  simp only [Option.some.injEq, Prod.mk.injEq] at H
  obtain ⟨rfl, rfl, rfl⟩ := H
  go_enter Try.func42, Try.ntmps42
  go_wp2_with (first | ((with_reducible refine gate_callee (f := 64) rfl ?_); refine goesL_ (some 14) rfl rfl Try.func64 (by kernel_rfl) rfl #[.pointer (some ⟨g, 0, none⟩)] rfl zT6 ?_; (with_reducible refine (spec_l1Byte.calls g s0_0 s0_1 s0_2 t281 t282 t283 w0 _ ?side1 ?side2 A5.out).mono ?_); (case side1 => exact zB6_4); (case side2 => exact zB6_5); rintro e w7 ⟨rfl, hi, hb, hk⟩; refine ⟨_, rfl, ?_⟩; have n0_ := Aside0.mk (KeepBut.trans (zB6_6) hk (.inl rfl)); have n1_ := Aside0.mk (hb); have n2_ := Aside0.mk (hi); clear HK; clear HB; clear HI0; have HK := n0_; have HB := n1_; have HI0 := n2_; clear n0_ n1_ n2_; (try clear hb); (try clear hb2); (try clear hk); (try clear hi)))
  go_ret
  exact ⟨zE6, zB6_4, zB6_5, zB6_6⟩
 rw [if_neg c4] at H
 have c4b0 : decide (a1 ≤ 256) = false := decide_eq_false c4
 clear c4
 replace H := Option.bind_eq_some_iff.mp H
 obtain ⟨⟨t284, t285, t286⟩, A80, H⟩ := H
 replace H : ((spec_l1Byte.f s0_0 t285 t286).bind fun bt287 => ((spec_l1Byte.f s0_0 bt287.2.1 bt287.2.2).bind fun bt290 => ((spec_l1Byte.f s0_0 bt290.2.1 bt290.2.2).bind fun bt293 => (if a1 = 0 then (none) else (some (Int.tmod (wrap64 ((wrap64 ((wrap64 ((wrap64 (t284 * 16777216)) + (wrap64 (bt287.1 * 65536)))) + (wrap64 (bt290.1 * 256)))) + bt293.1)) a1, bt293.2.1, bt293.2.2)))))) = some (r1, r2, r3) := H
 have A8 := Aside0.mk A80
 clear A80
 replace H := Option.bind_eq_some_iff.mp H
 obtain ⟨⟨t287, t288, t289⟩, A90, H⟩ := H
 replace H : ((spec_l1Byte.f s0_0 t288 t289).bind fun bt290 => ((spec_l1Byte.f s0_0 bt290.2.1 bt290.2.2).bind fun bt293 => (if a1 = 0 then (none) else (some (Int.tmod (wrap64 ((wrap64 ((wrap64 ((wrap64 (t284 * 16777216)) + (wrap64 (t287 * 65536)))) + (wrap64 (bt290.1 * 256)))) + bt293.1)) a1, bt293.2.1, bt293.2.2))))) = some (r1, r2, r3) := H
 have A9 := Aside0.mk A90
 clear A90
 replace H := Option.bind_eq_some_iff.mp H
 obtain ⟨⟨t290, t291, t292⟩, A100, H⟩ := H
 replace H : ((spec_l1Byte.f s0_0 t291 t292).bind fun bt293 => (if a1 = 0 then (none) else (some (Int.tmod (wrap64 ((wrap64 ((wrap64 ((wrap64 (t284 * 16777216)) + (wrap64 (t287 * 65536)))) + (wrap64 (t290 * 256)))) + bt293.1)) a1, bt293.2.1, bt293.2.2)))) = some (r1, r2, r3) := H
 have A10 := Aside0.mk A100
 clear A100
 replace H := Option.bind_eq_some_iff.mp H
 obtain ⟨⟨t293, t294, t295⟩, A110, H⟩ := H
 replace H : (if a1 = 0 then (none) else (some (Int.tmod (wrap64 ((wrap64 ((wrap64 ((wrap64 (t284 * 16777216)) + (wrap64 (t287 * 65536)))) + (wrap64 (t290 * 256)))) + t293)) a1, t294, t295))) = some (r1, r2, r3) := H
 have A11 := Aside0.mk A110
 clear A110
 by_cases c12 : a1 = 0
 ·rw [if_pos c12] at H
  exact absurd H (by simp)
 rw [if_neg c12] at H
 have c12b0 : (a1 == 0) = false := beq_eq_false_iff_ne.mpr c12
 have c12b1 : (a1 != 0) = true := bne_iff_ne.mpr c12
 simp only [Option.some.injEq, Prod.mk.injEq] at H
 obtain ⟨rfl, rfl, rfl⟩ := H
 go_enter Try.func42, Try.ntmps42
 go_wp2_with (first | ((with_reducible refine gate_callee (f := 64) rfl ?_); refine goesL_ (some 18) rfl rfl Try.func64 (by kernel_rfl) rfl #[.pointer (some ⟨g, 0, none⟩)] rfl zT6 ?_; (with_reducible refine (spec_l1Byte.calls g s0_0 s0_1 s0_2 t284 t285 t286 w0 _ ?side1 ?side2 A8.out).mono ?_); (case side1 => exact zB6_4); (case side2 => exact zB6_5); rintro e w13 ⟨rfl, hi, hb, hk⟩; refine ⟨_, rfl, ?_⟩; have n0_ := Aside0.mk (KeepBut.trans (zB6_6) hk (.inl rfl)); have n1_ := Aside0.mk (hb); have n2_ := Aside0.mk (hi); clear HK; clear HB; clear HI0; have HK := n0_; have HB := n1_; have HI0 := n2_; clear n0_ n1_ n2_; (try clear hb); (try clear hb2); (try clear hk); (try clear hi)) | ((with_reducible refine gate_callee (f := 64) rfl ?_); refine goesL_ (some 20) rfl rfl Try.func64 (by kernel_rfl) rfl #[.pointer (some ⟨g, 0, none⟩)] rfl zT6 ?_; (with_reducible refine (spec_l1Byte.calls g s0_0 t285 t286 t287 t288 t289 w0 _ ?side1 ?side2 A9.out).mono ?_); (case side1 => exact zB6_4); (case side2 => exact zB6_5); rintro e w14 ⟨rfl, hi, hb, hk⟩; refine ⟨_, rfl, ?_⟩; have n0_ := Aside0.mk (KeepBut.trans (zB6_6) hk (.inl rfl)); have n1_ := Aside0.mk (hb); have n2_ := Aside0.mk (hi); clear HK; clear HB; clear HI0; have HK := n0_; have HB := n1_; have HI0 := n2_; clear n0_ n1_ n2_; (try clear hb); (try clear hb2); (try clear hk); (try clear hi)) | ((with_reducible refine gate_callee (f := 64) rfl ?_); refine goesL_ (some 22) rfl rfl Try.func64 (by kernel_rfl) rfl #[.pointer (some ⟨g, 0, none⟩)] rfl zT6 ?_; (with_reducible refine (spec_l1Byte.calls g s0_0 t288 t289 t290 t291 t292 w0 _ ?side1 ?side2 A10.out).mono ?_); (case side1 => exact zB6_4); (case side2 => exact zB6_5); rintro e w15 ⟨rfl, hi, hb, hk⟩; refine ⟨_, rfl, ?_⟩; have n0_ := Aside0.mk (KeepBut.trans (zB6_6) hk (.inl rfl)); have n1_ := Aside0.mk (hb); have n2_ := Aside0.mk (hi); clear HK; clear HB; clear HI0; have HK := n0_; have HB := n1_; have HI0 := n2_; clear n0_ n1_ n2_; (try clear hb); (try clear hb2); (try clear hk); (try clear hi)) | ((with_reducible refine gate_callee (f := 64) rfl ?_); refine goesL_ (some 24) rfl rfl Try.func64 (by kernel_rfl) rfl #[.pointer (some ⟨g, 0, none⟩)] rfl zT6 ?_; (with_reducible refine (spec_l1Byte.calls g s0_0 t291 t292 t293 t294 t295 w0 _ ?side1 ?side2 A11.out).mono ?_); (case side1 => exact zB6_4); (case side2 => exact zB6_5); rintro e w16 ⟨rfl, hi, hb, hk⟩; refine ⟨_, rfl, ?_⟩; have n0_ := Aside0.mk (KeepBut.trans (zB6_6) hk (.inl rfl)); have n1_ := Aside0.mk (hb); have n2_ := Aside0.mk (hi); clear HK; clear HB; clear HI0; have HK := n0_; have HB := n1_; have HI0 := n2_; clear n0_ n1_ n2_; (try clear hb); (try clear hb2); (try clear hk); (try clear hi)))
 go_ret
 exact ⟨zE6, zB6_4, zB6_5, zB6_6⟩

/-! ### spec_l1Once: function 58 -/
def spec_l1Once.f (s0_0 : List Int) (s0_1 : Int) (s0_2 : Int) (a1 : Int) : Option (Bool × Int × Int) := (spec_l1Below.f s0_0 s0_1 s0_2 a1).bind fun bt296 => (some ((bt296.1 == 0), bt296.2.1, bt296.2.2))
set_option maxHeartbeats 8000000 in
set_option maxRecDepth 100000 in
theorem spec_l1Once.calls (g : Nat) (s0_0 : List Int) (s0_1 : Int) (s0_2 : Int) (a1 : Int) (r1 : Bool) (r2 : Int) (r3 : Int) (w0 w : World) (hI : IsS90 w0 w g s0_0 s0_1 s0_2) (hB : Below w0.heap.size w0 w) (h : spec_l1Once.f s0_0 s0_1 s0_2 a1 = some (r1, r2, r3)) :
  Calls Try.prog 58 #[.pointer (some ⟨g, 0, none⟩), .int .i64 a1] w fun e w' => e = .returned (.bool r1) ∧ IsS90 w0 w' g s0_0 r2 r3 ∧ Below w0.heap.size w0 w' ∧ KeepBut w w' g none := by
 have HI0 := Aside0.mk hI
 have HK := Aside0.mk (KeepBut.refl w g none)
 have HL := Aside0.mk hB.size
 clear hI
 have HW0 := Aside0.mk hB.size
 have HB := Aside0.mk hB
 clear hB
 have H : ((spec_l1Below.f s0_0 s0_1 s0_2 a1).bind fun bt296 => (some ((bt296.1 == 0), bt296.2.1, bt296.2.2))) = some (r1, r2, r3) := h
 clear h
 replace H := Option.bind_eq_some_iff.mp H
 obtain ⟨⟨t296, t297, t298⟩, A30, H⟩ := H
 replace H : (some ((t296 == 0), t297, t298)) = some (r1, r2, r3) := H
 have A3 := Aside0.mk A30
 clear A30
 simp only [Option.some.injEq, Prod.mk.injEq] at H
 obtain ⟨rfl, rfl, rfl⟩ := H
 go_enter Try.func58, Try.ntmps58
 go_wp2_with (first | ((with_reducible refine gate_callee (f := 42) rfl ?_); refine goesL_ (some 7) rfl rfl Try.func42 (by kernel_rfl) rfl #[.pointer (some ⟨g, 0, none⟩), .int .i64 a1] rfl zT6 ?_; (with_reducible refine (spec_l1Below.calls g s0_0 s0_1 s0_2 a1 t296 t297 t298 w0 _ ?side1 ?side2 A3.out).mono ?_); (case side1 => exact zB6_4); (case side2 => exact zB6_5); rintro e w4 ⟨rfl, hi, hb, hk⟩; refine ⟨_, rfl, ?_⟩; have n0_ := Aside0.mk (KeepBut.trans (zB6_6) hk (.inl rfl)); have n1_ := Aside0.mk (hb); have n2_ := Aside0.mk (hi); clear HK; clear HB; clear HI0; have HK := n0_; have HB := n1_; have HI0 := n2_; clear n0_ n1_ n2_; (try clear hb); (try clear hb2); (try clear hk); (try clear hi)))
 go_ret
 exact ⟨zE6, zB6_4, zB6_5, zB6_6⟩

/-! ### spec_l1PickInt: function 61 -/
def spec_l1PickInt.f (s0_0 : List Int) (s0_1 : Int) (s0_2 : Int) (l1 : List Int) : Option (Int × Int × Int) := (spec_l1Below.f s0_0 s0_1 s0_2 (l1.length : Int)).bind fun bt299 => (if 0 ≤ bt299.1 then (if bt299.1 < (l1.length : Int) then (some (rd l1 bt299.1, bt299.2.1, bt299.2.2)) else (none)) else (none))
set_option maxHeartbeats 8000000 in
set_option maxRecDepth 100000 in
theorem spec_l1PickInt.calls (g : Nat) (s0_0 : List Int) (s0_1 : Int) (s0_2 : Int) (A1 : Option Addr) (c1 : Nat) (l1 : List Int) (r1 : Int) (r2 : Int) (r3 : Int) (w0 w : World) (hI : IsS90 w0 w g s0_0 s0_1 s0_2) (hB : Below w0.heap.size w0 w) (hr1 : Kd.C (Kd.int .i64) w A1 l1.length l1) (hc1 : l1.length ≤ c1) (hf1 : ∀ ad, A1 = some ad → 0 < l1.length → ad.block ≠ g) (h : spec_l1PickInt.f s0_0 s0_1 s0_2 l1 = some (r1, r2, r3)) :
  Calls Try.prog 61 #[.pointer (some ⟨g, 0, none⟩), .slice A1 l1.length c1] w fun e w' => e = .returned (.int .i64 r1) ∧ IsS90 w0 w' g s0_0 r2 r3 ∧ Below w0.heap.size w0 w' ∧ KeepBut w w' g none := by
 have HR1 := Aside0.mk hr1
 have HC1 := Aside0.mk hc1
 clear hr1 hc1
 have HI0 := Aside0.mk hI
 have HK := Aside0.mk (KeepBut.refl w g none)
 have HL := Aside0.mk hB.size
 clear hI
 have HW0 := Aside0.mk hB.size
 have HB := Aside0.mk hB
 clear hB
 have H : ((spec_l1Below.f s0_0 s0_1 s0_2 (l1.length : Int)).bind fun bt299 => (if 0 ≤ bt299.1 then (if bt299.1 < (l1.length : Int) then (some (rd l1 bt299.1, bt299.2.1, bt299.2.2)) else (none)) else (none))) = some (r1, r2, r3) := h
 clear h
 replace H := Option.bind_eq_some_iff.mp H
 obtain ⟨⟨t299, t300, t301⟩, A30, H⟩ := H
 replace H : (if 0 ≤ t299 then (if t299 < (l1.length : Int) then (some (rd l1 t299, t300, t301)) else (none)) else (none)) = some (r1, r2, r3) := H
 have A3 := Aside0.mk A30
 clear A30
 by_cases c4 : 0 ≤ t299
 rotate_left
 ·rw [if_neg c4] at H
  exact absurd H (by simp)
 rw [if_pos c4] at H
 have c4b0 : decide (0 ≤ t299) = true := decide_eq_true c4
 clear c4
 by_cases c5 : t299 < (l1.length : Int)
 rotate_left
 ·rw [if_neg c5] at H
  exact absurd H (by simp)
 rw [if_pos c5] at H
 have c5b0 : decide (t299 < (l1.length : Int)) = true := decide_eq_true c5
 clear c5
 simp only [Option.some.injEq, Prod.mk.injEq] at H
 obtain ⟨rfl, rfl, rfl⟩ := H
 go_enter Try.func61, Try.ntmps61
 go_wp2_with (first | ((with_reducible refine gate_callee (f := 42) rfl ?_); refine goesL_ (some 9) rfl rfl Try.func42 (by kernel_rfl) rfl #[.pointer (some ⟨g, 0, none⟩), .int .i64 (l1.length : Int)] rfl zT6 ?_; (with_reducible refine (spec_l1Below.calls g s0_0 s0_1 s0_2 (l1.length : Int) t299 t300 t301 w0 _ ?side1 ?side2 A3.out).mono ?_); (case side1 => exact zB6_4); (case side2 => exact zB6_5); rintro e w6 ⟨rfl, hi, hb, hk⟩; refine ⟨_, rfl, ?_⟩; have n0_ := Aside0.mk (KeepBut.trans (zB6_6) hk (.inl rfl)); have n1_ := Aside0.mk (hb); have n2_ := Aside0.mk (hi); clear HK; clear HB; clear HI0; have HK := n0_; have HB := n1_; have HI0 := n2_; clear n0_ n1_ n2_; (try clear hb); (try clear hb2); (try clear hk); (try clear hi); have p302 : 0 ≤ (t299 : Int) := zA6; have q302 : t299 < (l1.length : Int) := zA6; obtain ⟨ad302, e302, hx302_0⟩ := Kd.at_int HR1.out t299 p302 q302; cases e302; replace hx302_0 := keep_cell HK.out hx302_0 (by first | (rw [add_block]; exact hf1 _ rfl (by omega)) | exact hf1 _ rfl (by omega) | exact hf1 ad302 rfl (by omega)); replace p302 := eq_true p302; replace q302 := eq_true q302))
 go_ret
 exact ⟨zE6, zB6_4, zB6_5, zB6_6⟩

/-! ### spec_Code: function 91 -/
def spec_Code.f (a0_0 : Int) (a0_1 : Int) (a0_2 : Int) (a0_3 : Int) (a0_4 : Int) : Option (Int × Bool) := (spec_InsOk.f a0_0 a0_1 a0_2 a0_3 a0_4).bind fun t304 => (if t304 = true then (some (wrap64 ((wrap64 ((wrap64 ((wrap64 (a0_0 + (wrap64 (16 * a0_1)))) + (wrap64 (64 * a0_2)))) + (wrap64 (256 * a0_3)))) + (wrap64 (1024 * a0_4))), true)) else (some (0, false)))
set_option maxHeartbeats 8000000 in
set_option maxRecDepth 100000 in
theorem spec_Code.calls (a0_0 : Int) (a0_1 : Int) (a0_2 : Int) (a0_3 : Int) (a0_4 : Int) (r1 : Int) (r2 : Bool) (w : World) (h : spec_Code.f a0_0 a0_1 a0_2 a0_3 a0_4 = some (r1, r2)) :
  Calls Try.prog 91 #[.agg #[.int .i64 a0_0, .int .i64 a0_1, .int .i64 a0_2, .int .i64 a0_3, .int .i64 a0_4]] w fun e w' => e = .returned (.tuple #[.int .i64 r1, .bool r2]) ∧ Below w.heap.size w w' := by
 have hu71 := Try.underlying71
 have HB := Aside0.mk (Below.refl w.heap.size w)
 have H : ((spec_InsOk.f a0_0 a0_1 a0_2 a0_3 a0_4).bind fun t304 => (if t304 = true then (some (wrap64 ((wrap64 ((wrap64 ((wrap64 (a0_0 + (wrap64 (16 * a0_1)))) + (wrap64 (64 * a0_2)))) + (wrap64 (256 * a0_3)))) + (wrap64 (1024 * a0_4))), true)) else (some (0, false)))) = some (r1, r2) := h
 clear h
 replace H := Option.bind_eq_some_iff.mp H
 obtain ⟨t304, A20, H⟩ := H
 replace H : (if t304 = true then (some (wrap64 ((wrap64 ((wrap64 ((wrap64 (a0_0 + (wrap64 (16 * a0_1)))) + (wrap64 (64 * a0_2)))) + (wrap64 (256 * a0_3)))) + (wrap64 (1024 * a0_4))), true)) else (some (0, false))) = some (r1, r2) := H
 have A2 := Aside0.mk A20
 clear A20
 by_cases c3 : t304 = true
 rotate_left
 ·replace c3 := Bool.eq_false_iff.mpr c3
  subst c3
  have H1 : (some (0, false)) = some (r1, r2) := by rw [if_neg (show ¬ (false = true) by decide)] at H; exact H
  clear H
  have H := H1
  clear H1
  simp only [Option.some.injEq, Prod.mk.injEq] at H
  obtain ⟨rfl, rfl⟩ := H
  go_enter Try.func91, Try.ntmps91
  go_wp2_with (first | ((with_reducible refine gate_dst (N := 1) rfl ?_); refine box_event ?hg (N := 1) ?hd (cs := #[.int .i64 a0_0, .int .i64 a0_1, .int .i64 a0_2, .int .i64 a0_3, .int .i64 a0_4]) (t := 71) ?hr ?_; (case hd => rfl); (case hg => rfl); (case hr => first | (go_simp; done) | (go_simp; rfl)); intro gb303 hg w8 hbox hb; have n0_ := Aside0.mk (below_step (zB6_0) hb); have n1_ := Aside0.mk (hbox); have n2_ := Aside0.mk ((by rw [hg]; exact (below_size (zB6_0)) : w.heap.size ≤ gb303)); have n3_ := Aside0.mk ((by rw [hg]; exact (below_size (zB6_0)) : w.heap.size ≤ gb303)); clear HB; have HB := n0_; have BK303 := n1_; have GW303 := n2_; have GE303 := n3_; clear n0_ n1_ n2_ n3_; clear hb hbox hg; obtain ⟨hcz9_0, hcz9_1, hcz9_2, hcz9_3, hcz9_4, hfz9_0, hfz9_1, hfz9_2, hfz9_3, hfz9_4⟩ := zc6_5 (w := w8) BK303.out) | ((with_reducible refine gate_callee (f := 88) rfl ?_); refine goesL_ (some 5) rfl rfl Try.func88 (by kernel_rfl) rfl #[.agg #[.int .i64 a0_0, .int .i64 a0_1, .int .i64 a0_2, .int .i64 a0_3, .int .i64 a0_4]] rfl zT6 ?_; (with_reducible refine (spec_InsOk.calls a0_0 a0_1 a0_2 a0_3 a0_4 false _ A2.out).mono ?_); rintro e w10 ⟨rfl, hb⟩; refine ⟨_, rfl, ?_⟩; have n0_ := Aside0.mk (zb6 BK303.out hb); have n1_ := Aside0.mk (below_step (zB6_7) hb); clear BK303; clear HB; have BK303 := n0_; have HB := n1_; clear n0_ n1_; (try clear hb); (try clear hb2); (try clear hk); (try clear hi)))
  go_ret2
  exact ⟨zE6, zB6_7⟩
 subst c3
 have H1 : (some (wrap64 ((wrap64 ((wrap64 ((wrap64 (a0_0 + (wrap64 (16 * a0_1)))) + (wrap64 (64 * a0_2)))) + (wrap64 (256 * a0_3)))) + (wrap64 (1024 * a0_4))), true)) = some (r1, r2) := by rw [if_pos rfl] at H; exact H
 clear H
 have H := H1
 clear H1
 simp only [Option.some.injEq, Prod.mk.injEq] at H
 obtain ⟨rfl, rfl⟩ := H
 go_enter Try.func91, Try.ntmps91
 go_wp2_with (first | ((with_reducible refine gate_dst (N := 1) rfl ?_); refine box_event ?hg (N := 1) ?hd (cs := #[.int .i64 a0_0, .int .i64 a0_1, .int .i64 a0_2, .int .i64 a0_3, .int .i64 a0_4]) (t := 71) ?hr ?_; (case hd => rfl); (case hg => rfl); (case hr => first | (go_simp; done) | (go_simp; rfl)); intro gb303 hg w4 hbox hb; have n0_ := Aside0.mk (below_step (zB6_0) hb); have n1_ := Aside0.mk (hbox); have n2_ := Aside0.mk ((by rw [hg]; exact (below_size (zB6_0)) : w.heap.size ≤ gb303)); have n3_ := Aside0.mk ((by rw [hg]; exact (below_size (zB6_0)) : w.heap.size ≤ gb303)); clear HB; have HB := n0_; have BK303 := n1_; have GW303 := n2_; have GE303 := n3_; clear n0_ n1_ n2_ n3_; clear hb hbox hg; obtain ⟨hcz5_0, hcz5_1, hcz5_2, hcz5_3, hcz5_4, hfz5_0, hfz5_1, hfz5_2, hfz5_3, hfz5_4⟩ := zc6_5 (w := w4) BK303.out) | ((with_reducible refine gate_callee (f := 88) rfl ?_); refine goesL_ (some 5) rfl rfl Try.func88 (by kernel_rfl) rfl #[.agg #[.int .i64 a0_0, .int .i64 a0_1, .int .i64 a0_2, .int .i64 a0_3, .int .i64 a0_4]] rfl zT6 ?_; (with_reducible refine (spec_InsOk.calls a0_0 a0_1 a0_2 a0_3 a0_4 true _ A2.out).mono ?_); rintro e w6 ⟨rfl, hb⟩; refine ⟨_, rfl, ?_⟩; have n0_ := Aside0.mk (zb6 BK303.out hb); have n1_ := Aside0.mk (below_step (zB6_7) hb); clear BK303; clear HB; have BK303 := n0_; have HB := n1_; clear n0_ n1_; (try clear hb); (try clear hb2); (try clear hk); (try clear hi); obtain ⟨hcz7_0, hcz7_1, hcz7_2, hcz7_3, hcz7_4, hfz7_0, hfz7_1, hfz7_2, hfz7_3, hfz7_4⟩ := zc6_5 (w := w6) BK303.out))
 go_ret2
 exact ⟨zE6, zB6_7⟩

end Go.Proofs.Ytgbjengnkbomoaa.PFnByHart
