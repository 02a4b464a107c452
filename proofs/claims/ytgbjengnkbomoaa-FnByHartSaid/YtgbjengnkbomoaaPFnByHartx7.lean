-- made by wip/tools/myprint.py out of the seat's translation
import Derived.Test.YtgbjengnkbomoaaPFnByHartx0
import Derived.Test.YtgbjengnkbomoaaPFnByHartx2
import Derived.Test.YtgbjengnkbomoaaPFnByHartx6
namespace Go.Proofs.Ytgbjengnkbomoaa.PFnByHart
open Go.RowKit Go.Proofs.YtgbjengnkbomoaaW.PrintWords Go.Proofs.YtgbjengnkbomoaaW.PrintLast Go.Proofs.YtgbjengnkbomoaaW.PrintMore
attribute [local go_sem] max2_int min2_int max_two min_two max_three min_three max_four min_four   -- for this text's walks alone
set_option linter.unusedVariables false
set_option linter.unusedSimpArgs false
theorem zc7_5 {w : World} {g : Nat} {a0 a1 a2 a3 a4 : Value} {t : TypeId} (h : w.heap[g]? = some (.cells #[a0, a1, a2, a3, a4] t (0, 0))) : w.cell? ⟨g, 0, none⟩ = some a0 ∧ w.cell? ⟨g, 1, none⟩ = some a1 ∧ w.cell? ⟨g, 2, none⟩ = some a2 ∧ w.cell? ⟨g, 3, none⟩ = some a3 ∧ w.cell? ⟨g, 4, none⟩ = some a4 ∧ w.frozen? ⟨g, 0, none⟩ = false ∧ w.frozen? ⟨g, 1, none⟩ = false ∧ w.frozen? ⟨g, 2, none⟩ = false ∧ w.frozen? ⟨g, 3, none⟩ = false ∧ w.frozen? ⟨g, 4, none⟩ = false := ⟨(blk_cell h 0).trans rfl, (blk_cell h 1).trans rfl, (blk_cell h 2).trans rfl, (blk_cell h 3).trans rfl, (blk_cell h 4).trans rfl, blk_frozen h 0, blk_frozen h 1, blk_frozen h 2, blk_frozen h 3, blk_frozen h 4⟩
theorem zR7 {p q : Prop} (x : q) (h : q → p := by intro h; (with_reducible repeat (first | apply Kd.R_alloc | apply Kd.R_drewN | apply Kd.R_drew)); exact h) : p := h x
theorem zK7 {p q : Prop} (x : q) (h : q → p := by intro h; (with_reducible repeat (first | refine blk_drewN ?_ _ | refine blk_drew ?_ | refine blk_alloc ?_ _)); exact h) : p := h x
theorem zA7 {p : Prop} [Decidable p] (h : decide p = true := by first | (with_reducible assumption) | assumption) : p := of_decide_eq_true h
theorem zT7 {p : Prop} (h : p := by (try simp only [List.map_toArray, List.map_cons, List.map_nil]); first | done | rfl | (simp only [List.length_drop, List.length_take]; rfl)) : p := h
theorem zC7 {p q : Prop} (x : q) (h : q → p := by intro h; repeat (first | exact h | (with_reducible refine Kd.C_alloc ?_ _) | (with_reducible refine Kd.C_drewN ?_ _) | (with_reducible refine Kd.C_drew ?_))) : p := h x
theorem zb7 {W w w1 : World} {g : Nat} {o : Obj} (x : W.heap[g]? = some o) (hb : Below w.heap.size w w1) (h : W.heap[g]? = some o → w.heap[g]? = some o := by intro h; (with_reducible repeat (first | refine blk_drewN ?_ _ | refine blk_drew ?_ | refine blk_alloc ?_ _)); exact h) : w1.heap[g]? = some o := blk_below (h x) hb
theorem zh7 {W w w1 : World} {g g' : Nat} {o : Obj} (hk : KeepBut w w1 g none) (x : W.heap[g']? = some o) (hn : g' ≠ g) (h : W.heap[g']? = some o → w.heap[g']? = some o := by intro h; (with_reducible repeat (first | refine blk_drewN ?_ _ | refine blk_drew ?_ | refine blk_alloc ?_ _)); exact h) : w1.heap[g']? = some o := KeepBut.blk hk (h x) hn (by simp)
theorem zn7 {W w : World} {g g' : Nat} {o : Obj} (x : W.heap[g]? = some o) (hg : g' = w.heap.size) (h : W.heap[g]? = some o → w.heap[g]? = some o := by intro h; (with_reducible repeat (first | refine blk_drewN ?_ _ | refine blk_drew ?_ | refine blk_alloc ?_ _)); exact h) : g ≠ g' := by rw [hg]; exact Nat.ne_of_lt (blk_lt (h x))
theorem zm7 {W w : World} {g g' : Nat} {o : Obj} (x : W.heap[g]? = some o) (hg : g' = w.heap.size) (h : W.heap[g]? = some o → w.heap[g]? = some o := by intro h; (with_reducible repeat (first | refine blk_drewN ?_ _ | refine blk_drew ?_ | refine blk_alloc ?_ _)); exact h) : g' ≠ g := by rw [hg]; exact Nat.ne_of_gt (blk_lt (h x))
theorem zP7 {p q : Prop} (x : q) (h : q → p := by intro h; (with_reducible repeat (first | refine blk_drewN ?_ _ | refine blk_drew ?_ | refine blk_alloc ?_ _)); exact h) : p := h x
theorem zE7 {p : Prop} (h : p := by first | rfl | (simp [errW_none, errW_some] <;> rfl) | (simp [*, errW_none, errW_some] <;> rfl)) : p := h
theorem zB7_0 {p : Prop} (h : p := by repeat (first | (with_reducible first | exact HI0.out | apply IsS90.alloc | apply IsS90.drewN | apply IsS90.drew | apply IsS90.set_1 | apply IsS90.set_2) | exact HI0.out)) : p := h
theorem zB7_1 {p : Prop} (h : p := by repeat (first | (with_reducible first | exact HK.out | apply KeepBut.set_ | apply keep_drewN | apply keep_drew | apply keep_alloc) | exact HK.out)) : p := h
theorem zB7_2 {p : Prop} (h : p := by repeat (first | (with_reducible first | exact HB.out | apply below_alloc | apply pw_below_drewN | apply below_drew1 | refine below_set ?_ (IsS90.ge HI0.out)) | exact HB.out)) : p := h
theorem zB7_3 {p : Prop} (h : p := by repeat (first | (with_reducible first | exact HK.out | apply KeepBut.set_ | apply keep_drewN | apply keep_drew | apply keep_alloc | refine keep_far ?_ GW305.out _) | exact HK.out)) : p := h
theorem zB7_4 {p : Prop} (h : p := by repeat (first | (with_reducible first | exact HI0.out | apply IsS90.alloc | apply IsS90.drewN | apply IsS90.drew | apply IsS90.set_1 | apply IsS90.set_2 | refine IsS90.far ?_ NB0_305.out _) | exact HI0.out)) : p := h
theorem zB7_5 {p : Prop} (h : p := by repeat (first | (with_reducible first | exact HB.out | apply below_alloc | apply pw_below_drewN | apply below_drew1 | refine below_set ?_ (IsS90.ge HI0.out) | refine below_set ?_ GE305.out) | exact HB.out)) : p := h
theorem zB7_6 {p : Prop} (h : p := by repeat (first | (with_reducible first | exact HI0.out | apply IsS90.alloc | apply IsS90.drewN | apply IsS90.drew | apply IsS90.set_1 | apply IsS90.set_2 | refine IsS90.far ?_ NB0_305.out _ | refine IsS90.far ?_ NB0_312.out _) | exact HI0.out)) : p := h
theorem zB7_7 {p : Prop} (h : p := by repeat (first | (with_reducible first | exact HK.out | apply KeepBut.set_ | apply keep_drewN | apply keep_drew | apply keep_alloc | refine keep_far ?_ GW305.out _ | refine keep_far ?_ GW312.out _) | exact HK.out)) : p := h
theorem zB7_8 {p : Prop} (h : p := by repeat (first | (with_reducible first | exact HB.out | apply below_alloc | apply pw_below_drewN | apply below_drew1 | refine below_set ?_ (IsS90.ge HI0.out) | refine below_set ?_ GE305.out | refine below_set ?_ GE312.out) | exact HB.out)) : p := h

/-! ### spec_l8DrawIns: function 92 -/
mutual
def spec_l8DrawIns.j0 : Nat → Int → List Int → Int → Int → Int → Int → Int → Int → Int → Option (Int × Int × Int × Int × Int × Int × Int)
 | 0, _, _, _, _, _, _, _, _, _ => none
 | k + 1, x4, x1000, x1001, x1002, x313000, x313001, x313002, x313003, x313004 => if (Go.bits .and .i64 x4 2) = 0 then (spec_l8DrawIns.j1 k x4 x1000 x1001 x1002 x313000 x313001 x313002 x313003 x313004) else ((spec_l1Below.f x1000 x1001 x1002 4).bind fun bt317 => (spec_l8DrawIns.j1 k x4 x1000 bt317.2.1 bt317.2.2 x313000 x313001 bt317.1 x313003 x313004))
def spec_l8DrawIns.j1 : Nat → Int → List Int → Int → Int → Int → Int → Int → Int → Int → Option (Int × Int × Int × Int × Int × Int × Int)
 | 0, _, _, _, _, _, _, _, _, _ => none
 | k + 1, x4, x1000, x1001, x1002, x313000, x313001, x313002, x313003, x313004 => if (Go.bits .and .i64 x4 4) = 0 then (if (Go.bits .and .i64 x4 8) = 0 then (some (x313000, x313001, x313002, x313003, x313004, x1001, x1002)) else ((spec_l1PickInt.f x1000 x1001 x1002 (([0, 1, 2, 4, 8, 9, 12, 20, 23] : List Int))).bind fun bt323 => (some (x313000, x313001, x313002, x313003, bt323.1, bt323.2.1, bt323.2.2)))) else ((spec_l1Below.f x1000 x1001 x1002 4).bind fun bt326 => (if (Go.bits .and .i64 x4 8) = 0 then (some (x313000, x313001, x313002, bt326.1, x313004, bt326.2.1, bt326.2.2)) else ((spec_l1PickInt.f x1000 bt326.2.1 bt326.2.2 (([0, 1, 2, 4, 8, 9, 12, 20, 23] : List Int))).bind fun bt332 => (some (x313000, x313001, x313002, bt326.1, bt332.1, bt332.2.1, bt332.2.2)))))
end
def spec_l8DrawIns.f (k : Nat) (s0_0 : List Int) (s0_1 : Int) (s0_2 : Int) : Option (Int × Int × Int × Int × Int × Int × Int) := (spec_l1PickInt.f s0_0 s0_1 s0_2 (([1, 1, 2, 3, 3, 4, 4, 5, 5, 5, 6, 6, 7, 8, 9, 10] : List Int))).bind fun bt309 => ((spec_l8Has.f bt309.1).bind fun t313 => (if (Go.bits .and .i64 t313 1) = 0 then (spec_l8DrawIns.j0 k t313 s0_0 bt309.2.1 bt309.2.2 bt309.1 0 0 0 0) else ((spec_l1Below.f s0_0 bt309.2.1 bt309.2.2 4).bind fun bt314 => (spec_l8DrawIns.j0 k t313 s0_0 bt314.2.1 bt314.2.2 bt309.1 bt314.1 0 0 0))))
theorem spec_l8DrawIns.mono_l : ∀ k, (∀ y0 y1 y2 y3 y4 y5 y6 y7 y8, LeO (spec_l8DrawIns.j0 k y0 y1 y2 y3 y4 y5 y6 y7 y8) (spec_l8DrawIns.j0 (k + 1) y0 y1 y2 y3 y4 y5 y6 y7 y8)) ∧ (∀ y0 y1 y2 y3 y4 y5 y6 y7 y8, LeO (spec_l8DrawIns.j1 k y0 y1 y2 y3 y4 y5 y6 y7 y8) (spec_l8DrawIns.j1 (k + 1) y0 y1 y2 y3 y4 y5 y6 y7 y8))
 | 0 => ⟨fun _ _ _ _ _ _ _ _ _ r h => by simp [spec_l8DrawIns.j0] at h, fun _ _ _ _ _ _ _ _ _ r h => by simp [spec_l8DrawIns.j1] at h⟩
 | k + 1 => by
  obtain ⟨ih0, ih1⟩ := spec_l8DrawIns.mono_l k
  refine ⟨?_, ?_⟩
  ·intro y0 y1 y2 y3 y4 y5 y6 y7 y8
   unfold spec_l8DrawIns.j0
   repeat' first
   | (with_reducible exact ih0 _ _ _ _ _ _ _ _ _)
   | (with_reducible exact ih1 _ _ _ _ _ _ _ _ _)
   | (with_reducible exact LeO.refl _)
   | (with_reducible exact LeO.none _)
   | (with_reducible refine LeO.ite ?_ ?_)
   | (with_reducible refine LeO.bind ?_ (fun _ => ?_))
   | exact ih0 _ _ _ _ _ _ _ _ _
   | exact ih1 _ _ _ _ _ _ _ _ _
   | exact LeO.none _
   | refine LeO.ite ?_ ?_
   | refine LeO.bind ?_ (fun _ => ?_)
  ·intro y0 y1 y2 y3 y4 y5 y6 y7 y8
   unfold spec_l8DrawIns.j1
   repeat' first
   | (with_reducible exact ih0 _ _ _ _ _ _ _ _ _)
   | (with_reducible exact ih1 _ _ _ _ _ _ _ _ _)
   | (with_reducible exact LeO.refl _)
   | (with_reducible exact LeO.none _)
   | (with_reducible refine LeO.ite ?_ ?_)
   | (with_reducible refine LeO.bind ?_ (fun _ => ?_))
   | exact ih0 _ _ _ _ _ _ _ _ _
   | exact ih1 _ _ _ _ _ _ _ _ _
   | exact LeO.none _
   | refine LeO.ite ?_ ?_
   | refine LeO.bind ?_ (fun _ => ?_)
theorem spec_l8DrawIns.mono : ∀ a0 a1 a2 k, LeO (spec_l8DrawIns.f k a0 a1 a2) (spec_l8DrawIns.f (k + 1) a0 a1 a2) := by
 intro a0 a1 a2 k
 obtain ⟨ih0, ih1⟩ := spec_l8DrawIns.mono_l k
 unfold spec_l8DrawIns.f
 repeat' first
   | (with_reducible exact ih0 _ _ _ _ _ _ _ _ _)
   | (with_reducible exact ih1 _ _ _ _ _ _ _ _ _)
   | (with_reducible exact LeO.refl _)
   | (with_reducible exact LeO.none _)
   | (with_reducible refine LeO.ite ?_ ?_)
   | (with_reducible refine LeO.bind ?_ (fun _ => ?_))
   | exact ih0 _ _ _ _ _ _ _ _ _
   | exact ih1 _ _ _ _ _ _ _ _ _
   | exact LeO.none _
   | refine LeO.ite ?_ ?_
   | refine LeO.bind ?_ (fun _ => ?_)
set_option maxHeartbeats 8000000 in
set_option maxRecDepth 100000 in
theorem spec_l8DrawIns.calls (k : Nat) (g : Nat) (s0_0 : List Int) (s0_1 : Int) (s0_2 : Int) (r1 : Int) (r2 : Int) (r3 : Int) (r4 : Int) (r5 : Int) (r6 : Int) (r7 : Int) (w0 w : World) (hI : IsS90 w0 w g s0_0 s0_1 s0_2) (hB : Below w0.heap.size w0 w) (h : spec_l8DrawIns.f k s0_0 s0_1 s0_2 = some (r1, r2, r3, r4, r5, r6, r7)) :
  Calls Try.prog 92 #[.pointer (some ⟨g, 0, none⟩)] w fun e w' => e = .returned (.agg #[.int .i64 r1, .int .i64 r2, .int .i64 r3, .int .i64 r4, .int .i64 r5]) ∧ IsS90 w0 w' g s0_0 r6 r7 ∧ Below w0.heap.size w0 w' ∧ KeepBut w w' g none := by
 have hu71 := Try.underlying71
 have HI0 := Aside0.mk hI
 have HK := Aside0.mk (KeepBut.refl w g none)
 have HL := Aside0.mk hB.size
 clear hI
 have HW0 := Aside0.mk hB.size
 have HB := Aside0.mk hB
 clear hB
 have H : ((spec_l1PickInt.f s0_0 s0_1 s0_2 (([1, 1, 2, 3, 3, 4, 4, 5, 5, 5, 6, 6, 7, 8, 9, 10] : List Int))).bind fun bt309 => ((spec_l8Has.f bt309.1).bind fun t313 => (if (Go.bits .and .i64 t313 1) = 0 then (spec_l8DrawIns.j0 k t313 s0_0 bt309.2.1 bt309.2.2 bt309.1 0 0 0 0) else ((spec_l1Below.f s0_0 bt309.2.1 bt309.2.2 4).bind fun bt314 => (spec_l8DrawIns.j0 k t313 s0_0 bt314.2.1 bt314.2.2 bt309.1 bt314.1 0 0 0))))) = some (r1, r2, r3, r4, r5, r6, r7) := h
 clear h
 obtain ⟨y306, hy306⟩ : ∃ y_ : List Int, y_ = (([1, 1, 2, 3, 3, 4, 4, 5, 5, 5, 6, 6, 7, 8, 9, 10] : List Int)) := ⟨_, rfl⟩
 replace H : ((spec_l1PickInt.f s0_0 s0_1 s0_2 y306).bind fun bt309 => ((spec_l8Has.f bt309.1).bind fun t313 => (if (Go.bits .and .i64 t313 1) = 0 then (spec_l8DrawIns.j0 k t313 s0_0 bt309.2.1 bt309.2.2 bt309.1 0 0 0 0) else ((spec_l1Below.f s0_0 bt309.2.1 bt309.2.2 4).bind fun bt314 => (spec_l8DrawIns.j0 k t313 s0_0 bt314.2.1 bt314.2.2 bt309.1 bt314.1 0 0 0))))) = some (r1, r2, r3, r4, r5, r6, r7) := by first | (rw [hy306]; with_reducible exact H) | (have H2_ := (Option.bind_some _ _).symm.trans H; rw [hy306]; with_reducible exact H2_) | (have H2_ := (Option.bind_some _ _).symm.trans H; with_reducible exact H2_) | with_reducible exact H | (rw [hy306]; exact H) | exact H
 have Ny306 := Aside0.mk hy306
 clear hy306
 replace H := Option.bind_eq_some_iff.mp H
 obtain ⟨⟨t309, t310, t311⟩, A20, H⟩ := H
 replace H : ((spec_l8Has.f t309).bind fun t313 => (if (Go.bits .and .i64 t313 1) = 0 then (spec_l8DrawIns.j0 k t313 s0_0 t310 t311 t309 0 0 0 0) else ((spec_l1Below.f s0_0 t310 t311 4).bind fun bt314 => (spec_l8DrawIns.j0 k t313 s0_0 bt314.2.1 bt314.2.2 t309 bt314.1 0 0 0)))) = some (r1, r2, r3, r4, r5, r6, r7) := H
 have A2 := Aside0.mk A20
 clear A20
 replace H := Option.bind_eq_some_iff.mp H
 obtain ⟨t313, A30, H⟩ := H
 replace H : (if (Go.bits .and .i64 t313 1) = 0 then (spec_l8DrawIns.j0 k t313 s0_0 t310 t311 t309 0 0 0 0) else ((spec_l1Below.f s0_0 t310 t311 4).bind fun bt314 => (spec_l8DrawIns.j0 k t313 s0_0 bt314.2.1 bt314.2.2 t309 bt314.1 0 0 0))) = some (r1, r2, r3, r4, r5, r6, r7) := H
 have A3 := Aside0.mk A30
 clear A30
 have HC4 := Aside0.mk H
 clear H
 go_enter Try.func92, Try.ntmps92
 go_upto_if 14 with (first | ((with_reducible refine gate_dst (N := 2) rfl ?_); refine box_event ?hg (N := 2) ?hd (cs := #[.int .i64 0, .int .i64 0, .int .i64 0, .int .i64 0, .int .i64 0]) (t := 71) ?hr ?_; (case hd => rfl); (case hg => rfl); (case hr => first | (go_simp; done) | (go_simp; rfl)); intro gb305 hg w5 hbox hb; have n0_ := Aside0.mk (IsS90.below (zB7_0) hb); have n1_ := Aside0.mk (KeepBut.trans (zB7_1) (KeepBut.of_below hb g none) (.inl rfl)); have n2_ := Aside0.mk (below_step (zB7_2) hb); have n3_ := Aside0.mk (hbox); have n4_ := Aside0.mk ((by rw [hg]; exact (keep_size (w := w) (g := g) (row := none) (zB7_1)) : w.heap.size ≤ gb305)); have n5_ := Aside0.mk ((Nat.le_trans HW0.out (by rw [hg]; exact (keep_size (w := w) (g := g) (row := none) (zB7_1)) : w.heap.size ≤ gb305) : w0.heap.size ≤ gb305)); have n6_ := Aside0.mk ((by rw [hg]; exact Nat.ne_of_lt (IsS90.lt (show IsS90 w0 _ g s0_0 s0_1 s0_2 from zB7_0)) : g ≠ gb305)); have n7_ := Aside0.mk ((by rw [hg]; exact Nat.ne_of_gt (IsS90.lt (show IsS90 w0 _ g s0_0 s0_1 s0_2 from zB7_0)) : gb305 ≠ g)); clear HI0; clear HK; clear HB; have HI0 := n0_; have HK := n1_; have HB := n2_; have BK305 := n3_; have GW305 := n4_; have GE305 := n5_; have NB0_305 := n6_; have NB305_0 := n7_; clear n0_ n1_ n2_ n3_ n4_ n5_ n6_ n7_; clear hb hbox hg) | ((with_reducible refine gate_dst (N := 6) rfl ?_); refine Kd.R_lit (Kd.int .i64) _ 3 ?hg (N := 6) ?hd (xs := ([1, 1, 2, 3, 3, 4, 4, 5, 5, 5, 6, 6, 7, 8, 9, 10] : List Int)) (inner := [.int .i64 1, .int .i64 1, .int .i64 2, .int .i64 3, .int .i64 3, .int .i64 4, .int .i64 4, .int .i64 5, .int .i64 5, .int .i64 5, .int .i64 6, .int .i64 6, .int .i64 7, .int .i64 8, .int .i64 9, .int .i64 10]) (ok := fun _ => True) (okp := fun _ => True) ?hr ?hp (fun _ hk => hk) trivial (Below.refl _ _) (Nat.le_refl _) (by simp) ?_; (case hd => rfl); (case hg => rfl); (case hr => first | (go_simp; done) | (go_simp; rfl)); (case hp => exact (Reps.one (show Kd.M (Kd.int .i64) _ _ _ 1 [.int .i64 1] from rfl) (Reps.one (show Kd.M (Kd.int .i64) _ _ _ 1 [.int .i64 1] from rfl) (Reps.one (show Kd.M (Kd.int .i64) _ _ _ 2 [.int .i64 2] from rfl) (Reps.one (show Kd.M (Kd.int .i64) _ _ _ 3 [.int .i64 3] from rfl) (Reps.one (show Kd.M (Kd.int .i64) _ _ _ 3 [.int .i64 3] from rfl) (Reps.one (show Kd.M (Kd.int .i64) _ _ _ 4 [.int .i64 4] from rfl) (Reps.one (show Kd.M (Kd.int .i64) _ _ _ 4 [.int .i64 4] from rfl) (Reps.one (show Kd.M (Kd.int .i64) _ _ _ 5 [.int .i64 5] from rfl) (Reps.one (show Kd.M (Kd.int .i64) _ _ _ 5 [.int .i64 5] from rfl) (Reps.one (show Kd.M (Kd.int .i64) _ _ _ 5 [.int .i64 5] from rfl) (Reps.one (show Kd.M (Kd.int .i64) _ _ _ 6 [.int .i64 6] from rfl) (Reps.one (show Kd.M (Kd.int .i64) _ _ _ 6 [.int .i64 6] from rfl) (Reps.one (show Kd.M (Kd.int .i64) _ _ _ 7 [.int .i64 7] from rfl) (Reps.one (show Kd.M (Kd.int .i64) _ _ _ 8 [.int .i64 8] from rfl) (Reps.one (show Kd.M (Kd.int .i64) _ _ _ 9 [.int .i64 9] from rfl) (Reps.one (show Kd.M (Kd.int .i64) _ _ _ 10 [.int .i64 10] from rfl) (Reps.none _ _)))))))))))))))))); intro v307 w6 ho7 hb hg_ hnew_; clear hg_ hnew_; (first | rw [← Ny306.out] at ho7 | (simp only [Int.reduceToNat] at ho7; rw [← Ny306.out] at ho7)); have n0_ := Aside0.mk (Kd.R_lower ho7 (keep_size (w := w) (g := g) (row := none) (zB7_3))); have n1_ := Aside0.mk (IsS90.below (zB7_4) hb); have n2_ := Aside0.mk (zb7 BK305.out hb); have n3_ := Aside0.mk (KeepBut.trans (zB7_3) (KeepBut.of_below hb g none) (.inl rfl)); have n4_ := Aside0.mk (below_step (zB7_5) hb); clear HI0; clear BK305; clear HK; clear HB; have HO308 := n0_; have HI0 := n1_; have BK305 := n2_; have HK := n3_; have HB := n4_; clear n0_ n1_ n2_ n3_ n4_; clear hb ho7; obtain ⟨Ao8, co8, eo8⟩ := Kd.R_slice HO308.out; subst eo8) | ((with_reducible refine gate_callee (f := 61) rfl ?_); refine goesL_ (some 7) rfl rfl Try.func61 (by kernel_rfl) rfl #[.pointer (some ⟨g, 0, none⟩), .slice Ao8 y306.length co8] rfl zT7 ?_; (with_reducible refine (spec_l1PickInt.calls g s0_0 s0_1 s0_2 _ _ y306 t309 t310 t311 w0 _ ?side1 ?side2 ?side3 ?side4 ?side5 A2.out).mono ?_); (case side1 => exact zB7_4); (case side2 => exact zB7_5); (case side3 => exact zC7 (Kd.R_reads' HO308.out).2.2); (case side4 => exact (Kd.R_reads' HO308.out).2.1); (case side5 => exact far_slice (IsS90.own_ne HI0.out HO308.out (by decide))); rintro e w9 ⟨rfl, hi, hb, hk⟩; refine ⟨_, rfl, ?_⟩; have n0_ := Aside0.mk (zh7 hk BK305.out NB305_0.out); have n1_ := Aside0.mk (Kd.R_mono (Kd.R_keep (IsS90.apart (show IsS90 w0 _ g s0_0 s0_1 s0_2 from zB7_4) (zR7 HO308.out) (by decide)) hk (fun _ h => h.2)) (fun _ h => h.1)); have n2_ := Aside0.mk (KeepBut.trans (zB7_3) hk (.inl rfl)); have n3_ := Aside0.mk (hb); have n4_ := Aside0.mk (hi); clear BK305; clear HO308; clear HK; clear HB; clear HI0; have BK305 := n0_; have HO308 := n1_; have HK := n2_; have HB := n3_; have HI0 := n4_; clear n0_ n1_ n2_ n3_ n4_; (try clear hb); (try clear hb2); (try clear hk); (try clear hi)) | ((with_reducible refine gate_dst (N := 3) rfl ?_); refine box_event ?hg (N := 3) ?hd (cs := #[.int .i64 0, .int .i64 0, .int .i64 0, .int .i64 0, .int .i64 0]) (t := 71) ?hr ?_; (case hd => rfl); (case hg => rfl); (case hr => first | (go_simp; done) | (go_simp; rfl)); intro gb312 hg w10 hbox hb; have n0_ := Aside0.mk (Kd.R_below (zR7 HO308.out) hb); have n1_ := Aside0.mk (IsS90.below (zB7_4) hb); have n2_ := Aside0.mk (zb7 BK305.out hb); have n3_ := Aside0.mk (KeepBut.trans (zB7_3) (KeepBut.of_below hb g none) (.inl rfl)); have n4_ := Aside0.mk (below_step (zB7_5) hb); have n5_ := Aside0.mk (hbox); have n6_ := Aside0.mk ((by rw [hg]; exact (keep_size (w := w) (g := g) (row := none) (zB7_3)) : w.heap.size ≤ gb312)); have n7_ := Aside0.mk ((Nat.le_trans HW0.out (by rw [hg]; exact (keep_size (w := w) (g := g) (row := none) (zB7_3)) : w.heap.size ≤ gb312) : w0.heap.size ≤ gb312)); have n8_ := Aside0.mk ((zn7 BK305.out hg : gb305 ≠ gb312)); have n9_ := Aside0.mk ((zm7 BK305.out hg : gb312 ≠ gb305)); have n10_ := Aside0.mk ((by rw [hg]; exact Nat.ne_of_lt (IsS90.lt (show IsS90 w0 _ g s0_0 t310 t311 from zB7_4)) : g ≠ gb312)); have n11_ := Aside0.mk ((by rw [hg]; exact Nat.ne_of_gt (IsS90.lt (show IsS90 w0 _ g s0_0 t310 t311 from zB7_4)) : gb312 ≠ g)); clear HO308; clear HI0; clear BK305; clear HK; clear HB; have HO308 := n0_; have HI0 := n1_; have BK305 := n2_; have HK := n3_; have HB := n4_; have BK312 := n5_; have GW312 := n6_; have GE312 := n7_; have NB305_312 := n8_; have NB312_305 := n9_; have NB0_312 := n10_; have NB312_0 := n11_; clear n0_ n1_ n2_ n3_ n4_ n5_ n6_ n7_ n8_ n9_ n10_ n11_; clear hb hbox hg; have hnb11 := NB312_305.out; have hnc11 := NB305_312.out; have hnb12 := NB312_0.out; have hnc12 := NB0_312.out; obtain ⟨hcz13_0, hcz13_1, hcz13_2, hcz13_3, hcz13_4, hfz13_0, hfz13_1, hfz13_2, hfz13_3, hfz13_4⟩ := zc7_5 (w := w10) BK312.out) | ((with_reducible refine gate_callee (f := 95) rfl ?_); refine goesL_ (some 11) rfl rfl Try.func95 (by kernel_rfl) rfl #[.int .i64 t309] rfl zT7 ?_; (with_reducible refine (spec_l8Has.calls t309 t313 _ A3.out).mono ?_); rintro e w14 ⟨rfl, hb⟩; refine ⟨_, rfl, ?_⟩; have n0_ := Aside0.mk (Kd.R_below (by (with_reducible repeat (first | apply Kd.R_alloc | apply Kd.R_drewN | apply Kd.R_drew)); exact (Kd.R_mono (Kd.R_far (p := ⟨gb312, 4, none⟩) (Kd.R_far (p := ⟨gb312, 3, none⟩) (Kd.R_far (p := ⟨gb312, 2, none⟩) (Kd.R_far (p := ⟨gb312, 1, none⟩) (Kd.R_far (p := ⟨gb312, 0, none⟩) (Kd.R_types HO308.out BK312.out (by decide)) (fun _ hk => hk.2) (.int .i64 t309)) (fun _ hk => hk.2) (.int .i64 0)) (fun _ hk => hk.2) (.int .i64 0)) (fun _ hk => hk.2) (.int .i64 0)) (fun _ hk => hk.2) (.int .i64 0)) (fun _ h_ => h_.1))) hb); have n1_ := Aside0.mk (IsS90.below (show IsS90 w0 (((((w10.setCell ⟨gb312, 0, none⟩ (.int .i64 t309)).setCell ⟨gb312, 1, none⟩ (.int .i64 0)).setCell ⟨gb312, 2, none⟩ (.int .i64 0)).setCell ⟨gb312, 3, none⟩ (.int .i64 0)).setCell ⟨gb312, 4, none⟩ (.int .i64 0)) g s0_0 t310 t311 from zB7_6) hb); have n2_ := Aside0.mk (blk_below (g := gb305) (o := .cells #[.int .i64 0, .int .i64 0, .int .i64 0, .int .i64 0, .int .i64 0] 71 (0, 0)) (by refine zP7 ?_; refine blk_far ?_ NB305_312.out _; refine zP7 ?_; refine blk_far ?_ NB305_312.out _; refine zP7 ?_; refine blk_far ?_ NB305_312.out _; refine zP7 ?_; refine blk_far ?_ NB305_312.out _; refine zP7 ?_; refine blk_far ?_ NB305_312.out _; refine zP7 ?_; exact BK305.out) hb); have n3_ := Aside0.mk (blk_below (g := gb312) (o := .cells #[.int .i64 t309, .int .i64 0, .int .i64 0, .int .i64 0, .int .i64 0] 71 (0, 0)) (by refine zP7 ?_; refine blk_put (cs := #[.int .i64 t309, .int .i64 0, .int .i64 0, .int .i64 0, .int .i64 0]) ?_ 4 _ rfl; refine zP7 ?_; refine blk_put (cs := #[.int .i64 t309, .int .i64 0, .int .i64 0, .int .i64 0, .int .i64 0]) ?_ 3 _ rfl; refine zP7 ?_; refine blk_put (cs := #[.int .i64 t309, .int .i64 0, .int .i64 0, .int .i64 0, .int .i64 0]) ?_ 2 _ rfl; refine zP7 ?_; refine blk_put (cs := #[.int .i64 t309, .int .i64 0, .int .i64 0, .int .i64 0, .int .i64 0]) ?_ 1 _ rfl; refine zP7 ?_; refine blk_put (cs := #[.int .i64 0, .int .i64 0, .int .i64 0, .int .i64 0, .int .i64 0]) ?_ 0 _ rfl; refine zP7 ?_; exact BK312.out) hb); have n4_ := Aside0.mk (KeepBut.trans (zB7_7) (KeepBut.of_below hb g none) (.inl rfl)); have n5_ := Aside0.mk (below_step (zB7_8) hb); clear HO308; clear HI0; clear BK305; clear BK312; clear HK; clear HB; have HO308 := n0_; have HI0 := n1_; have BK305 := n2_; have BK312 := n3_; have HK := n4_; have HB := n5_; clear n0_ n1_ n2_ n3_ n4_ n5_; (try clear hb); (try clear hb2); (try clear hk); (try clear hi)))
 (try simp only [Act.put, List.setIfInBounds_toArray, List.set_cons_zero, List.set_cons_succ])
 go_cut [] (fun wc => ∃ (kq : Nat) (x1001_3 : Int) (x1002_3 : Int) (x313001_3 : Int), Aside0 (spec_l8DrawIns.j0 kq t313 s0_0 x1001_3 x1002_3 t309 x313001_3 0 0 0 = some (r1, r2, r3, r4, r5, r6, r7)) ∧ Aside0 (kq ≤ k) ∧ Aside0 (wc.heap[gb305]? = some (.cells #[.int .i64 0, .int .i64 0, .int .i64 0, .int .i64 0, .int .i64 0] 71 (0, 0))) ∧ Aside0 (wc.heap[gb312]? = some (.cells #[.int .i64 t309, .int .i64 x313001_3, .int .i64 0, .int .i64 0, .int .i64 0] 71 (0, 0))) ∧ Aside0 (IsS90 w0 wc g s0_0 x1001_3 x1002_3) ∧ Aside0 (KeepBut w wc g none) ∧ Aside0 (Below w0.heap.size w0 wc))
 case first =>
  have H := HC4.out
  clear HC4
  by_cases c15 : (Go.bits .and .i64 t313 1) = 0
  ·rw [if_pos c15] at H
   have c15b0 : ((Go.bits .and .i64 t313 1) == 0) = true := beq_iff_eq.mpr c15
   have c15b1 : ((Go.bits .and .i64 t313 1) != 0) = false := bne_eq_false_iff_eq.mpr c15
   clear c15
   (first | rw [c15b0] | (simp only [i64_w, i32_w]; rw [c15b0]) | skip)
   have H' := Aside0.mk H
   clear H
   go_wp2
   go_meet
   case rel => exact ⟨_, (t310), (t311), (0), H', ⟨by first | omega | exact Nat.le_refl _⟩, ⟨zK7 BK305.out⟩, ⟨zK7 BK312.out⟩, ⟨zB7_6⟩, ⟨zB7_7⟩, ⟨zB7_8⟩⟩
  rw [if_neg c15] at H
  have c15b0 : ((Go.bits .and .i64 t313 1) == 0) = false := beq_eq_false_iff_ne.mpr c15
  have c15b1 : ((Go.bits .and .i64 t313 1) != 0) = true := bne_iff_ne.mpr c15
  (first | rw [c15b0] | (simp only [i64_w, i32_w]; rw [c15b0]) | skip)
  replace H := Option.bind_eq_some_iff.mp H
  obtain ⟨⟨t314, t315, t316⟩, A160, H⟩ := H
  replace H : (spec_l8DrawIns.j0 k t313 s0_0 t315 t316 t309 t314 0 0 0) = some (r1, r2, r3, r4, r5, r6, r7) := H
  have A16 := Aside0.mk A160
  clear A160
  have H' := Aside0.mk H
  clear H
  go_wp2_with (first | ((with_reducible refine gate_callee (f := 42) rfl ?_); refine goesL_ (some 16) rfl rfl Try.func42 (by kernel_rfl) rfl #[.pointer (some ⟨g, 0, none⟩), .int .i64 4] rfl zT7 ?_; (with_reducible refine (spec_l1Below.calls g s0_0 t310 t311 4 t314 t315 t316 w0 _ ?side1 ?side2 A16.out).mono ?_); (case side1 => exact zB7_6); (case side2 => exact zB7_8); rintro e w17 ⟨rfl, hi, hb, hk⟩; refine ⟨_, rfl, ?_⟩; have n0_ := Aside0.mk (zh7 hk BK305.out NB305_0.out); have n1_ := Aside0.mk (Kd.R_mono (Kd.R_keep (IsS90.apart (show IsS90 w0 _ g s0_0 t310 t311 from zB7_6) (zR7 HO308.out) (by decide)) hk (fun _ h => h.2)) (fun _ h => h.1)); have n2_ := Aside0.mk (zh7 hk BK312.out NB312_0.out); have n3_ := Aside0.mk (KeepBut.trans (zB7_7) hk (.inl rfl)); have n4_ := Aside0.mk (hb); have n5_ := Aside0.mk (hi); clear BK305; clear HO308; clear BK312; clear HK; clear HB; clear HI0; have BK305 := n0_; have HO308 := n1_; have BK312 := n2_; have HK := n3_; have HB := n4_; have HI0 := n5_; clear n0_ n1_ n2_ n3_ n4_ n5_; (try clear hb); (try clear hb2); (try clear hk); (try clear hi); have hnb18 := NB312_305.out; have hnc18 := NB305_312.out; have hnb19 := NB312_0.out; have hnc19 := NB0_312.out; obtain ⟨hcz20_0, hcz20_1, hcz20_2, hcz20_3, hcz20_4, hfz20_0, hfz20_1, hfz20_2, hfz20_3, hfz20_4⟩ := zc7_5 (w := w17) BK312.out))
  go_meet
  case rel => exact ⟨_, (t315), (t316), (t314), H', ⟨by first | omega | exact Nat.le_refl _⟩, ⟨by refine zP7 ?_; refine blk_far ?_ NB305_312.out _; refine zP7 ?_; exact BK305.out⟩, ⟨by refine zP7 ?_; refine blk_put (cs := #[.int .i64 t309, .int .i64 0, .int .i64 0, .int .i64 0, .int .i64 0]) ?_ 1 _ rfl; refine zP7 ?_; exact BK312.out⟩, ⟨zB7_6⟩, ⟨zB7_7⟩, ⟨zB7_8⟩⟩
 case rest =>
  clear HC4
  try clear c1
  try clear p2
  try clear c4
  try clear c6
  try clear c9
  try clear c11
  try clear c12
  try clear c15
  try clear c15b0
  try clear c15b1
  try clear c18
  try clear c19
  try clear hcz13_0
  try clear hcz13_1
  try clear hcz13_2
  try clear hcz13_3
  try clear hcz13_4
  try clear hcz20_0
  try clear hcz20_1
  try clear hcz20_2
  try clear hcz20_3
  try clear hcz20_4
  try clear hfz13_0
  try clear hfz13_1
  try clear hfz13_2
  try clear hfz13_3
  try clear hfz13_4
  try clear hfz20_0
  try clear hfz20_1
  try clear hfz20_2
  try clear hfz20_3
  try clear hfz20_4
  obtain ⟨kq, x1001_3, x1002_3, x313001_3, HA, HJ3, BK305, BK312, HI0, HK, HB⟩ := hcut
  cases kq with
  | zero => exact absurd HA.out (by simp [spec_l8DrawIns.j0])
  | succ kj3 =>
   have H := HA.out
   clear HA
   simp only [spec_l8DrawIns.j0] at H
   have HC21 := Aside0.mk H
   clear H
   go_upto_if 20 with (fail)
   go_cut [] (fun wc => ∃ (kq : Nat) (x1001_20 : Int) (x1002_20 : Int) (x313002_20 : Int), Aside0 (spec_l8DrawIns.j1 kq t313 s0_0 x1001_20 x1002_20 t309 x313001_3 x313002_20 0 0 = some (r1, r2, r3, r4, r5, r6, r7)) ∧ Aside0 (kq ≤ kj3) ∧ Aside0 (wc.heap[gb305]? = some (.cells #[.int .i64 0, .int .i64 0, .int .i64 0, .int .i64 0, .int .i64 0] 71 (0, 0))) ∧ Aside0 (wc.heap[gb312]? = some (.cells #[.int .i64 t309, .int .i64 x313001_3, .int .i64 x313002_20, .int .i64 0, .int .i64 0] 71 (0, 0))) ∧ Aside0 (IsS90 w0 wc g s0_0 x1001_20 x1002_20) ∧ Aside0 (KeepBut w wc g none) ∧ Aside0 (Below w0.heap.size w0 wc))
   case first =>
    have H := HC21.out
    clear HC21
    by_cases c22 : (Go.bits .and .i64 t313 2) = 0
    ·rw [if_pos c22] at H
     have c22b0 : ((Go.bits .and .i64 t313 2) == 0) = true := beq_iff_eq.mpr c22
     have c22b1 : ((Go.bits .and .i64 t313 2) != 0) = false := bne_eq_false_iff_eq.mpr c22
     clear c22
     (first | rw [c22b0] | (simp only [i64_w, i32_w]; rw [c22b0]) | skip)
     have H' := Aside0.mk H
     clear H
     go_wp2
     go_meet
     case rel => exact ⟨_, (x1001_3), (x1002_3), (0), H', ⟨by have := HJ3.out; first | omega | exact Nat.le_refl _⟩, ⟨zK7 BK305.out⟩, ⟨zK7 BK312.out⟩, ⟨zB7_6⟩, ⟨zB7_7⟩, ⟨zB7_8⟩⟩
    rw [if_neg c22] at H
    have c22b0 : ((Go.bits .and .i64 t313 2) == 0) = false := beq_eq_false_iff_ne.mpr c22
    have c22b1 : ((Go.bits .and .i64 t313 2) != 0) = true := bne_iff_ne.mpr c22
    (first | rw [c22b0] | (simp only [i64_w, i32_w]; rw [c22b0]) | skip)
    replace H := Option.bind_eq_some_iff.mp H
    obtain ⟨⟨t317, t318, t319⟩, A230, H⟩ := H
    replace H : (spec_l8DrawIns.j1 kj3 t313 s0_0 t318 t319 t309 x313001_3 t317 0 0) = some (r1, r2, r3, r4, r5, r6, r7) := H
    have A23 := Aside0.mk A230
    clear A230
    have H' := Aside0.mk H
    clear H
    go_wp2_with (first | ((with_reducible refine gate_callee (f := 42) rfl ?_); refine goesL_ (some 22) rfl rfl Try.func42 (by kernel_rfl) rfl #[.pointer (some ⟨g, 0, none⟩), .int .i64 4] rfl zT7 ?_; (with_reducible refine (spec_l1Below.calls g s0_0 x1001_3 x1002_3 4 t317 t318 t319 w0 _ ?side1 ?side2 A23.out).mono ?_); (case side1 => exact zB7_6); (case side2 => exact zB7_8); rintro e w24 ⟨rfl, hi, hb, hk⟩; refine ⟨_, rfl, ?_⟩; have n0_ := Aside0.mk (zh7 hk BK305.out NB305_0.out); have n1_ := Aside0.mk (zh7 hk BK312.out NB312_0.out); have n2_ := Aside0.mk (KeepBut.trans (zB7_7) hk (.inl rfl)); have n3_ := Aside0.mk (hb); have n4_ := Aside0.mk (hi); clear BK305; clear BK312; clear HK; clear HB; clear HI0; have BK305 := n0_; have BK312 := n1_; have HK := n2_; have HB := n3_; have HI0 := n4_; clear n0_ n1_ n2_ n3_ n4_; (try clear hb); (try clear hb2); (try clear hk); (try clear hi); have hnb25 := NB312_305.out; have hnc25 := NB305_312.out; have hnb26 := NB312_0.out; have hnc26 := NB0_312.out; obtain ⟨hcz27_0, hcz27_1, hcz27_2, hcz27_3, hcz27_4, hfz27_0, hfz27_1, hfz27_2, hfz27_3, hfz27_4⟩ := zc7_5 (w := w24) BK312.out))
    go_meet
    case rel => exact ⟨_, (t318), (t319), (t317), H', ⟨by have := HJ3.out; first | omega | exact Nat.le_refl _⟩, ⟨by refine zP7 ?_; refine blk_far ?_ NB305_312.out _; refine zP7 ?_; exact BK305.out⟩, ⟨by refine zP7 ?_; refine blk_put (cs := #[.int .i64 t309, .int .i64 x313001_3, .int .i64 0, .int .i64 0, .int .i64 0]) ?_ 2 _ rfl; refine zP7 ?_; exact BK312.out⟩, ⟨zB7_6⟩, ⟨zB7_7⟩, ⟨zB7_8⟩⟩
   case rest =>
    clear HC21
    try clear c1
    try clear c2
    try clear p2
    try clear c4
    try clear c6
    try clear c9
    try clear c11
    try clear c12
    try clear c15
    try clear c15b0
    try clear c15b1
    try clear c18
    try clear c19
    try clear c22
    try clear c22b0
    try clear c22b1
    try clear c25
    try clear c26
    try clear hcz13_0
    try clear hcz13_1
    try clear hcz13_2
    try clear hcz13_3
    try clear hcz13_4
    try clear hcz20_0
    try clear hcz20_1
    try clear hcz20_2
    try clear hcz20_3
    try clear hcz20_4
    try clear hcz27_0
    try clear hcz27_1
    try clear hcz27_2
    try clear hcz27_3
    try clear hcz27_4
    try clear hfz13_0
    try clear hfz13_1
    try clear hfz13_2
    try clear hfz13_3
    try clear hfz13_4
    try clear hfz20_0
    try clear hfz20_1
    try clear hfz20_2
    try clear hfz20_3
    try clear hfz20_4
    try clear hfz27_0
    try clear hfz27_1
    try clear hfz27_2
    try clear hfz27_3
    try clear hfz27_4
    try clear p2
    obtain ⟨kq, x1001_20, x1002_20, x313002_20, HA, HJ20, BK305, BK312, HI0, HK, HB⟩ := hcut
    cases kq with
    | zero => exact absurd HA.out (by simp [spec_l8DrawIns.j1])
    | succ kj20 =>
     have H := HA.out
     clear HA
     simp only [spec_l8DrawIns.j1] at H
     by_cases c28 : (Go.bits .and .i64 t313 4) = 0
     ·rw [if_pos c28] at H
      have c28b0 : ((Go.bits .and .i64 t313 4) == 0) = true := beq_iff_eq.mpr c28
      have c28b1 : ((Go.bits .and .i64 t313 4) != 0) = false := bne_eq_false_iff_eq.mpr c28
      clear c28
      by_cases c29 : (Go.bits .and .i64 t313 8) = 0
      ·rw [if_pos c29] at H
       have c29b0 : ((Go.bits .and .i64 t313 8) == 0) = true := beq_iff_eq.mpr c29
       have c29b1 : ((Go.bits .and .i64 t313 8) != 0) = false := bne_eq_false_iff_eq.mpr c29
       clear c29
       simp only [Option.some.injEq, Prod.mk.injEq] at H
       obtain ⟨rfl, rfl, rfl, rfl, rfl, rfl, rfl⟩ := H
       have hnb30 := NB312_305.out
       have hnc30 := NB305_312.out
       have hnb31 := NB312_0.out
       have hnc31 := NB0_312.out
       obtain ⟨hcz32_0, hcz32_1, hcz32_2, hcz32_3, hcz32_4, hfz32_0, hfz32_1, hfz32_2, hfz32_3, hfz32_4⟩ := zc7_5 (w := wc) BK312.out
       have hnb33 := NB305_0.out
       have hnc33 := NB0_305.out
       obtain ⟨hcz34_0, hcz34_1, hcz34_2, hcz34_3, hcz34_4, hfz34_0, hfz34_1, hfz34_2, hfz34_3, hfz34_4⟩ := zc7_5 (w := wc) BK305.out
       go_wp2
       refine bodyPost_ret (results_cell_row rfl _ _ gb305 71 #[.int .i64 t309, .int .i64 x313001_3, .int .i64 x313002_20, .int .i64 0, .int .i64 0] (0, 0) _ rfl (by refine zP7 ?_; refine blk_put (cs := #[.int .i64 t309, .int .i64 x313001_3, .int .i64 x313002_20, .int .i64 0, .int .i64 0]) ?_ 4 _ rfl; refine zP7 ?_; refine blk_put (cs := #[.int .i64 t309, .int .i64 x313001_3, .int .i64 x313002_20, .int .i64 0, .int .i64 0]) ?_ 3 _ rfl; refine zP7 ?_; refine blk_put (cs := #[.int .i64 t309, .int .i64 x313001_3, .int .i64 0, .int .i64 0, .int .i64 0]) ?_ 2 _ rfl; refine zP7 ?_; refine blk_put (cs := #[.int .i64 t309, .int .i64 0, .int .i64 0, .int .i64 0, .int .i64 0]) ?_ 1 _ rfl; refine zP7 ?_; refine blk_put (cs := #[.int .i64 0, .int .i64 0, .int .i64 0, .int .i64 0, .int .i64 0]) ?_ 0 _ rfl; refine zP7 ?_; exact BK305.out) Try.underlying71 rfl (by kernel_rfl)) rfl ?_
       exact ⟨zE7, zB7_6, zB7_8, zB7_7⟩
      rw [if_neg c29] at H
      have c29b0 : ((Go.bits .and .i64 t313 8) == 0) = false := beq_eq_false_iff_ne.mpr c29
      have c29b1 : ((Go.bits .and .i64 t313 8) != 0) = true := bne_iff_ne.mpr c29
      obtain ⟨y320, hy320⟩ : ∃ y_ : List Int, y_ = (([0, 1, 2, 4, 8, 9, 12, 20, 23] : List Int)) := ⟨_, rfl⟩
      replace H : ((spec_l1PickInt.f s0_0 x1001_20 x1002_20 y320).bind fun bt323 => (some (t309, x313001_3, x313002_20, 0, bt323.1, bt323.2.1, bt323.2.2))) = some (r1, r2, r3, r4, r5, r6, r7) := by first | (rw [hy320]; with_reducible exact H) | (have H2_ := (Option.bind_some _ _).symm.trans H; rw [hy320]; with_reducible exact H2_) | (have H2_ := (Option.bind_some _ _).symm.trans H; with_reducible exact H2_) | with_reducible exact H | (rw [hy320]; exact H) | exact H
      have Ny320 := Aside0.mk hy320
      clear hy320
      replace H := Option.bind_eq_some_iff.mp H
      obtain ⟨⟨t323, t324, t325⟩, A350, H⟩ := H
      replace H : (some (t309, x313001_3, x313002_20, 0, t323, t324, t325)) = some (r1, r2, r3, r4, r5, r6, r7) := H
      have A35 := Aside0.mk A350
      clear A350
      simp only [Option.some.injEq, Prod.mk.injEq] at H
      obtain ⟨rfl, rfl, rfl, rfl, rfl, rfl, rfl⟩ := H
      go_wp2_with (first | ((with_reducible refine gate_dst (N := 34) rfl ?_); refine Kd.R_lit (Kd.int .i64) _ 3 ?hg (N := 34) ?hd (xs := ([0, 1, 2, 4, 8, 9, 12, 20, 23] : List Int)) (inner := [.int .i64 0, .int .i64 1, .int .i64 2, .int .i64 4, .int .i64 8, .int .i64 9, .int .i64 12, .int .i64 20, .int .i64 23]) (ok := fun _ => True) (okp := fun _ => True) ?hr ?hp (fun _ hk => hk) trivial (Below.refl _ _) (Nat.le_refl _) (by simp) ?_; (case hd => rfl); (case hg => rfl); (case hr => first | (go_simp; done) | (go_simp; rfl)); (case hp => exact (Reps.one (show Kd.M (Kd.int .i64) _ _ _ 0 [.int .i64 0] from rfl) (Reps.one (show Kd.M (Kd.int .i64) _ _ _ 1 [.int .i64 1] from rfl) (Reps.one (show Kd.M (Kd.int .i64) _ _ _ 2 [.int .i64 2] from rfl) (Reps.one (show Kd.M (Kd.int .i64) _ _ _ 4 [.int .i64 4] from rfl) (Reps.one (show Kd.M (Kd.int .i64) _ _ _ 8 [.int .i64 8] from rfl) (Reps.one (show Kd.M (Kd.int .i64) _ _ _ 9 [.int .i64 9] from rfl) (Reps.one (show Kd.M (Kd.int .i64) _ _ _ 12 [.int .i64 12] from rfl) (Reps.one (show Kd.M (Kd.int .i64) _ _ _ 20 [.int .i64 20] from rfl) (Reps.one (show Kd.M (Kd.int .i64) _ _ _ 23 [.int .i64 23] from rfl) (Reps.none _ _))))))))))); intro v321 w36 ho37 hb hg_ hnew_; clear hg_ hnew_; (first | rw [← Ny320.out] at ho37 | (simp only [Int.reduceToNat] at ho37; rw [← Ny320.out] at ho37)); have n0_ := Aside0.mk (Kd.R_lower ho37 (keep_size (w := w) (g := g) (row := none) (zB7_7))); have n1_ := Aside0.mk (zb7 BK305.out hb); have n2_ := Aside0.mk (zb7 BK312.out hb); have n3_ := Aside0.mk (IsS90.below (zB7_6) hb); have n4_ := Aside0.mk (KeepBut.trans (zB7_7) (KeepBut.of_below hb g none) (.inl rfl)); have n5_ := Aside0.mk (below_step (zB7_8) hb); clear BK305; clear BK312; clear HI0; clear HK; clear HB; have HO322 := n0_; have BK305 := n1_; have BK312 := n2_; have HI0 := n3_; have HK := n4_; have HB := n5_; clear n0_ n1_ n2_ n3_ n4_ n5_; clear hb ho37; obtain ⟨Ao38, co38, eo38⟩ := Kd.R_slice HO322.out; subst eo38) | ((with_reducible refine gate_callee (f := 61) rfl ?_); refine goesL_ (some 35) rfl rfl Try.func61 (by kernel_rfl) rfl #[.pointer (some ⟨g, 0, none⟩), .slice Ao38 y320.length co38] rfl zT7 ?_; (with_reducible refine (spec_l1PickInt.calls g s0_0 x1001_20 x1002_20 _ _ y320 t323 t324 t325 w0 _ ?side1 ?side2 ?side3 ?side4 ?side5 A35.out).mono ?_); (case side1 => exact zB7_6); (case side2 => exact zB7_8); (case side3 => exact zC7 (Kd.R_reads' HO322.out).2.2); (case side4 => exact (Kd.R_reads' HO322.out).2.1); (case side5 => exact far_slice (IsS90.own_ne HI0.out HO322.out (by decide))); rintro e w39 ⟨rfl, hi, hb, hk⟩; refine ⟨_, rfl, ?_⟩; have n0_ := Aside0.mk (zh7 hk BK305.out NB305_0.out); have n1_ := Aside0.mk (zh7 hk BK312.out NB312_0.out); have n2_ := Aside0.mk (Kd.R_mono (Kd.R_keep (IsS90.apart (show IsS90 w0 _ g s0_0 x1001_20 x1002_20 from zB7_6) (zR7 HO322.out) (by decide)) hk (fun _ h => h.2)) (fun _ h => h.1)); have n3_ := Aside0.mk (KeepBut.trans (zB7_7) hk (.inl rfl)); have n4_ := Aside0.mk (hb); have n5_ := Aside0.mk (hi); clear BK305; clear BK312; clear HO322; clear HK; clear HB; clear HI0; have BK305 := n0_; have BK312 := n1_; have HO322 := n2_; have HK := n3_; have HB := n4_; have HI0 := n5_; clear n0_ n1_ n2_ n3_ n4_ n5_; (try clear hb); (try clear hb2); (try clear hk); (try clear hi); have hnb40 := NB312_305.out; have hnc40 := NB305_312.out; have hnb41 := NB312_0.out; have hnc41 := NB0_312.out; obtain ⟨hcz42_0, hcz42_1, hcz42_2, hcz42_3, hcz42_4, hfz42_0, hfz42_1, hfz42_2, hfz42_3, hfz42_4⟩ := zc7_5 (w := w39) BK312.out; have hnb43 := NB305_0.out; have hnc43 := NB0_305.out; obtain ⟨hcz44_0, hcz44_1, hcz44_2, hcz44_3, hcz44_4, hfz44_0, hfz44_1, hfz44_2, hfz44_3, hfz44_4⟩ := zc7_5 (w := w39) BK305.out))
      refine bodyPost_ret (results_cell_row rfl _ _ gb305 71 #[.int .i64 t309, .int .i64 x313001_3, .int .i64 x313002_20, .int .i64 0, .int .i64 t323] (0, 0) _ rfl (by refine zP7 ?_; refine blk_put (cs := #[.int .i64 t309, .int .i64 x313001_3, .int .i64 x313002_20, .int .i64 0, .int .i64 0]) ?_ 4 _ rfl; refine zP7 ?_; refine blk_put (cs := #[.int .i64 t309, .int .i64 x313001_3, .int .i64 x313002_20, .int .i64 0, .int .i64 0]) ?_ 3 _ rfl; refine zP7 ?_; refine blk_put (cs := #[.int .i64 t309, .int .i64 x313001_3, .int .i64 0, .int .i64 0, .int .i64 0]) ?_ 2 _ rfl; refine zP7 ?_; refine blk_put (cs := #[.int .i64 t309, .int .i64 0, .int .i64 0, .int .i64 0, .int .i64 0]) ?_ 1 _ rfl; refine zP7 ?_; refine blk_put (cs := #[.int .i64 0, .int .i64 0, .int .i64 0, .int .i64 0, .int .i64 0]) ?_ 0 _ rfl; refine zP7 ?_; refine blk_far ?_ NB305_312.out _; refine zP7 ?_; exact BK305.out) Try.underlying71 rfl (by kernel_rfl)) rfl ?_
      exact ⟨zE7, zB7_6, zB7_8, zB7_7⟩
     rw [if_neg c28] at H
     have c28b0 : ((Go.bits .and .i64 t313 4) == 0) = false := beq_eq_false_iff_ne.mpr c28
     have c28b1 : ((Go.bits .and .i64 t313 4) != 0) = true := bne_iff_ne.mpr c28
     replace H := Option.bind_eq_some_iff.mp H
     obtain ⟨⟨t326, t327, t328⟩, A450, H⟩ := H
     replace H : (if (Go.bits .and .i64 t313 8) = 0 then (some (t309, x313001_3, x313002_20, t326, 0, t327, t328)) else ((spec_l1PickInt.f s0_0 t327 t328 (([0, 1, 2, 4, 8, 9, 12, 20, 23] : List Int))).bind fun bt332 => (some (t309, x313001_3, x313002_20, t326, bt332.1, bt332.2.1, bt332.2.2)))) = some (r1, r2, r3, r4, r5, r6, r7) := H
     have A45 := Aside0.mk A450
     clear A450
     by_cases c46 : (Go.bits .and .i64 t313 8) = 0
     ·rw [if_pos c46] at H
      have c46b0 : ((Go.bits .and .i64 t313 8) == 0) = true := beq_iff_eq.mpr c46
      have c46b1 : ((Go.bits .and .i64 t313 8) != 0) = false := bne_eq_false_iff_eq.mpr c46
      clear c46
      simp only [Option.some.injEq, Prod.mk.injEq] at H
      obtain ⟨rfl, rfl, rfl, rfl, rfl, rfl, rfl⟩ := H
      go_wp2_with (first | ((with_reducible refine gate_callee (f := 42) rfl ?_); refine goesL_ (some 28) rfl rfl Try.func42 (by kernel_rfl) rfl #[.pointer (some ⟨g, 0, none⟩), .int .i64 4] rfl zT7 ?_; (with_reducible refine (spec_l1Below.calls g s0_0 x1001_20 x1002_20 4 t326 t327 t328 w0 _ ?side1 ?side2 A45.out).mono ?_); (case side1 => exact zB7_6); (case side2 => exact zB7_8); rintro e w47 ⟨rfl, hi, hb, hk⟩; refine ⟨_, rfl, ?_⟩; have n0_ := Aside0.mk (zh7 hk BK305.out NB305_0.out); have n1_ := Aside0.mk (zh7 hk BK312.out NB312_0.out); have n2_ := Aside0.mk (KeepBut.trans (zB7_7) hk (.inl rfl)); have n3_ := Aside0.mk (hb); have n4_ := Aside0.mk (hi); clear BK305; clear BK312; clear HK; clear HB; clear HI0; have BK305 := n0_; have BK312 := n1_; have HK := n2_; have HB := n3_; have HI0 := n4_; clear n0_ n1_ n2_ n3_ n4_; (try clear hb); (try clear hb2); (try clear hk); (try clear hi); have hnb48 := NB312_305.out; have hnc48 := NB305_312.out; have hnb49 := NB312_0.out; have hnc49 := NB0_312.out; obtain ⟨hcz50_0, hcz50_1, hcz50_2, hcz50_3, hcz50_4, hfz50_0, hfz50_1, hfz50_2, hfz50_3, hfz50_4⟩ := zc7_5 (w := w47) BK312.out; have hnb51 := NB305_0.out; have hnc51 := NB0_305.out; obtain ⟨hcz52_0, hcz52_1, hcz52_2, hcz52_3, hcz52_4, hfz52_0, hfz52_1, hfz52_2, hfz52_3, hfz52_4⟩ := zc7_5 (w := w47) BK305.out))
      refine bodyPost_ret (results_cell_row rfl _ _ gb305 71 #[.int .i64 t309, .int .i64 x313001_3, .int .i64 x313002_20, .int .i64 t326, .int .i64 0] (0, 0) _ rfl (by refine zP7 ?_; refine blk_put (cs := #[.int .i64 t309, .int .i64 x313001_3, .int .i64 x313002_20, .int .i64 t326, .int .i64 0]) ?_ 4 _ rfl; refine zP7 ?_; refine blk_put (cs := #[.int .i64 t309, .int .i64 x313001_3, .int .i64 x313002_20, .int .i64 0, .int .i64 0]) ?_ 3 _ rfl; refine zP7 ?_; refine blk_put (cs := #[.int .i64 t309, .int .i64 x313001_3, .int .i64 0, .int .i64 0, .int .i64 0]) ?_ 2 _ rfl; refine zP7 ?_; refine blk_put (cs := #[.int .i64 t309, .int .i64 0, .int .i64 0, .int .i64 0, .int .i64 0]) ?_ 1 _ rfl; refine zP7 ?_; refine blk_put (cs := #[.int .i64 0, .int .i64 0, .int .i64 0, .int .i64 0, .int .i64 0]) ?_ 0 _ rfl; refine zP7 ?_; refine blk_far ?_ NB305_312.out _; refine zP7 ?_; exact BK305.out) Try.underlying71 rfl (by kernel_rfl)) rfl ?_
      exact ⟨zE7, zB7_6, zB7_8, zB7_7⟩
     rw [if_neg c46] at H
     have c46b0 : ((Go.bits .and .i64 t313 8) == 0) = false := beq_eq_false_iff_ne.mpr c46
     have c46b1 : ((Go.bits .and .i64 t313 8) != 0) = true := bne_iff_ne.mpr c46
     obtain ⟨y329, hy329⟩ : ∃ y_ : List Int, y_ = (([0, 1, 2, 4, 8, 9, 12, 20, 23] : List Int)) := ⟨_, rfl⟩
     replace H : ((spec_l1PickInt.f s0_0 t327 t328 y329).bind fun bt332 => (some (t309, x313001_3, x313002_20, t326, bt332.1, bt332.2.1, bt332.2.2))) = some (r1, r2, r3, r4, r5, r6, r7) := by first | (rw [hy329]; with_reducible exact H) | (have H2_ := (Option.bind_some _ _).symm.trans H; rw [hy329]; with_reducible exact H2_) | (have H2_ := (Option.bind_some _ _).symm.trans H; with_reducible exact H2_) | with_reducible exact H | (rw [hy329]; exact H) | exact H
     have Ny329 := Aside0.mk hy329
     clear hy329
     replace H := Option.bind_eq_some_iff.mp H
     obtain ⟨⟨t332, t333, t334⟩, A530, H⟩ := H
     replace H : (some (t309, x313001_3, x313002_20, t326, t332, t333, t334)) = some (r1, r2, r3, r4, r5, r6, r7) := H
     have A53 := Aside0.mk A530
     clear A530
     simp only [Option.some.injEq, Prod.mk.injEq] at H
     obtain ⟨rfl, rfl, rfl, rfl, rfl, rfl, rfl⟩ := H
     go_wp2_with (first | ((with_reducible refine gate_callee (f := 42) rfl ?_); refine goesL_ (some 28) rfl rfl Try.func42 (by kernel_rfl) rfl #[.pointer (some ⟨g, 0, none⟩), .int .i64 4] rfl zT7 ?_; (with_reducible refine (spec_l1Below.calls g s0_0 x1001_20 x1002_20 4 t326 t327 t328 w0 _ ?side1 ?side2 A45.out).mono ?_); (case side1 => exact zB7_6); (case side2 => exact zB7_8); rintro e w54 ⟨rfl, hi, hb, hk⟩; refine ⟨_, rfl, ?_⟩; have n0_ := Aside0.mk (zh7 hk BK305.out NB305_0.out); have n1_ := Aside0.mk (zh7 hk BK312.out NB312_0.out); have n2_ := Aside0.mk (KeepBut.trans (zB7_7) hk (.inl rfl)); have n3_ := Aside0.mk (hb); have n4_ := Aside0.mk (hi); clear BK305; clear BK312; clear HK; clear HB; clear HI0; have BK305 := n0_; have BK312 := n1_; have HK := n2_; have HB := n3_; have HI0 := n4_; clear n0_ n1_ n2_ n3_ n4_; (try clear hb); (try clear hb2); (try clear hk); (try clear hi); have hnb55 := NB312_305.out; have hnc55 := NB305_312.out; have hnb56 := NB312_0.out; have hnc56 := NB0_312.out; obtain ⟨hcz57_0, hcz57_1, hcz57_2, hcz57_3, hcz57_4, hfz57_0, hfz57_1, hfz57_2, hfz57_3, hfz57_4⟩ := zc7_5 (w := w54) BK312.out) | ((with_reducible refine gate_dst (N := 34) rfl ?_); refine Kd.R_lit (Kd.int .i64) _ 3 ?hg (N := 34) ?hd (xs := ([0, 1, 2, 4, 8, 9, 12, 20, 23] : List Int)) (inner := [.int .i64 0, .int .i64 1, .int .i64 2, .int .i64 4, .int .i64 8, .int .i64 9, .int .i64 12, .int .i64 20, .int .i64 23]) (ok := fun _ => True) (okp := fun _ => True) ?hr ?hp (fun _ hk => hk) trivial (Below.refl _ _) (Nat.le_refl _) (by simp) ?_; (case hd => rfl); (case hg => rfl); (case hr => first | (go_simp; done) | (go_simp; rfl)); (case hp => exact (Reps.one (show Kd.M (Kd.int .i64) _ _ _ 0 [.int .i64 0] from rfl) (Reps.one (show Kd.M (Kd.int .i64) _ _ _ 1 [.int .i64 1] from rfl) (Reps.one (show Kd.M (Kd.int .i64) _ _ _ 2 [.int .i64 2] from rfl) (Reps.one (show Kd.M (Kd.int .i64) _ _ _ 4 [.int .i64 4] from rfl) (Reps.one (show Kd.M (Kd.int .i64) _ _ _ 8 [.int .i64 8] from rfl) (Reps.one (show Kd.M (Kd.int .i64) _ _ _ 9 [.int .i64 9] from rfl) (Reps.one (show Kd.M (Kd.int .i64) _ _ _ 12 [.int .i64 12] from rfl) (Reps.one (show Kd.M (Kd.int .i64) _ _ _ 20 [.int .i64 20] from rfl) (Reps.one (show Kd.M (Kd.int .i64) _ _ _ 23 [.int .i64 23] from rfl) (Reps.none _ _))))))))))); intro v330 w58 ho59 hb hg_ hnew_; clear hg_ hnew_; (first | rw [← Ny329.out] at ho59 | (simp only [Int.reduceToNat] at ho59; rw [← Ny329.out] at ho59)); have n0_ := Aside0.mk (Kd.R_lower ho59 (keep_size (w := w) (g := g) (row := none) (zB7_7))); have n1_ := Aside0.mk (blk_below (g := gb305) (o := .cells #[.int .i64 0, .int .i64 0, .int .i64 0, .int .i64 0, .int .i64 0] 71 (0, 0)) (by refine zP7 ?_; refine blk_far ?_ NB305_312.out _; refine zP7 ?_; exact BK305.out) hb); have n2_ := Aside0.mk (blk_below (g := gb312) (o := .cells #[.int .i64 t309, .int .i64 x313001_3, .int .i64 x313002_20, .int .i64 t326, .int .i64 0] 71 (0, 0)) (by refine zP7 ?_; refine blk_put (cs := #[.int .i64 t309, .int .i64 x313001_3, .int .i64 x313002_20, .int .i64 0, .int .i64 0]) ?_ 3 _ rfl; refine zP7 ?_; exact BK312.out) hb); have n3_ := Aside0.mk (IsS90.below (show IsS90 w0 (w54.setCell ⟨gb312, 3, none⟩ (.int .i64 t326)) g s0_0 t327 t328 from zB7_6) hb); have n4_ := Aside0.mk (KeepBut.trans (zB7_7) (KeepBut.of_below hb g none) (.inl rfl)); have n5_ := Aside0.mk (below_step (zB7_8) hb); clear BK305; clear BK312; clear HI0; clear HK; clear HB; have HO331 := n0_; have BK305 := n1_; have BK312 := n2_; have HI0 := n3_; have HK := n4_; have HB := n5_; clear n0_ n1_ n2_ n3_ n4_ n5_; clear hb ho59; obtain ⟨Ao60, co60, eo60⟩ := Kd.R_slice HO331.out; subst eo60) | ((with_reducible refine gate_callee (f := 61) rfl ?_); refine goesL_ (some 35) rfl rfl Try.func61 (by kernel_rfl) rfl #[.pointer (some ⟨g, 0, none⟩), .slice Ao60 y329.length co60] rfl zT7 ?_; (with_reducible refine (spec_l1PickInt.calls g s0_0 t327 t328 _ _ y329 t332 t333 t334 w0 _ ?side1 ?side2 ?side3 ?side4 ?side5 A53.out).mono ?_); (case side1 => exact zB7_6); (case side2 => exact zB7_8); (case side3 => exact zC7 (Kd.R_reads' HO331.out).2.2); (case side4 => exact (Kd.R_reads' HO331.out).2.1); (case side5 => exact far_slice (IsS90.own_ne HI0.out HO331.out (by decide))); rintro e w61 ⟨rfl, hi, hb, hk⟩; refine ⟨_, rfl, ?_⟩; have n0_ := Aside0.mk (zh7 hk BK305.out NB305_0.out); have n1_ := Aside0.mk (zh7 hk BK312.out NB312_0.out); have n2_ := Aside0.mk (Kd.R_mono (Kd.R_keep (IsS90.apart (show IsS90 w0 _ g s0_0 t327 t328 from zB7_6) (zR7 HO331.out) (by decide)) hk (fun _ h => h.2)) (fun _ h => h.1)); have n3_ := Aside0.mk (KeepBut.trans (zB7_7) hk (.inl rfl)); have n4_ := Aside0.mk (hb); have n5_ := Aside0.mk (hi); clear BK305; clear BK312; clear HO331; clear HK; clear HB; clear HI0; have BK305 := n0_; have BK312 := n1_; have HO331 := n2_; have HK := n3_; have HB := n4_; have HI0 := n5_; clear n0_ n1_ n2_ n3_ n4_ n5_; (try clear hb); (try clear hb2); (try clear hk); (try clear hi); obtain ⟨hcz62_0, hcz62_1, hcz62_2, hcz62_3, hcz62_4, hfz62_0, hfz62_1, hfz62_2, hfz62_3, hfz62_4⟩ := zc7_5 (w := w61) BK312.out; have hnb63 := NB305_0.out; have hnc63 := NB0_305.out; obtain ⟨hcz64_0, hcz64_1, hcz64_2, hcz64_3, hcz64_4, hfz64_0, hfz64_1, hfz64_2, hfz64_3, hfz64_4⟩ := zc7_5 (w := w61) BK305.out))
     refine bodyPost_ret (results_cell_row rfl _ _ gb305 71 #[.int .i64 t309, .int .i64 x313001_3, .int .i64 x313002_20, .int .i64 t326, .int .i64 t332] (0, 0) _ rfl (by refine zP7 ?_; refine blk_put (cs := #[.int .i64 t309, .int .i64 x313001_3, .int .i64 x313002_20, .int .i64 t326, .int .i64 0]) ?_ 4 _ rfl; refine zP7 ?_; refine blk_put (cs := #[.int .i64 t309, .int .i64 x313001_3, .int .i64 x313002_20, .int .i64 0, .int .i64 0]) ?_ 3 _ rfl; refine zP7 ?_; refine blk_put (cs := #[.int .i64 t309, .int .i64 x313001_3, .int .i64 0, .int .i64 0, .int .i64 0]) ?_ 2 _ rfl; refine zP7 ?_; refine blk_put (cs := #[.int .i64 t309, .int .i64 0, .int .i64 0, .int .i64 0, .int .i64 0]) ?_ 1 _ rfl; refine zP7 ?_; refine blk_put (cs := #[.int .i64 0, .int .i64 0, .int .i64 0, .int .i64 0, .int .i64 0]) ?_ 0 _ rfl; refine zP7 ?_; refine blk_far ?_ NB305_312.out _; refine zP7 ?_; exact BK305.out) Try.underlying71 rfl (by kernel_rfl)) rfl ?_
     exact ⟨zE7, zB7_6, zB7_8, zB7_7⟩

/-! ### spec_l9DrawMem: function 81 -/
mutual
def spec_l9DrawMem.l0 : Nat → List Int → Int → List Int → Int → Int → Option (List Int × Int × Int)
 | 0, _, _, _, _, _ => none
 | k + 1, x3, x4, x1000, x1001, x1002 => if x4 < 24 then ((spec_l8DrawIns.f k x1000 x1001 x1002).bind fun bt338 => ((spec_Code.f bt338.1 bt338.2.1 bt338.2.2.1 bt338.2.2.2.1 bt338.2.2.2.2.1).bind fun bt345 => (if x4 > 15 then ((spec_l1PickInt.f x1000 bt338.2.2.2.2.2.1 bt338.2.2.2.2.2.2 (([0, 1, 5, 65535] : List Int))).bind fun bt350 => (if x3.length < 17592186044416 then (spec_l9DrawMem.l0 k (x3 ++ [bt350.1]) (wrap64 (x4 + 1)) x1000 bt350.2.1 bt350.2.2) else (none))) else ((spec_l1Once.f x1000 bt338.2.2.2.2.2.1 bt338.2.2.2.2.2.2 9).bind fun bt356 => (if bt356.1 = true then ((spec_l1PickInt.f x1000 bt356.2.1 bt356.2.2 (([0, 1, 5, 65535] : List Int))).bind fun bt362 => (if x3.length < 17592186044416 then (spec_l9DrawMem.l0 k (x3 ++ [bt362.1]) (wrap64 (x4 + 1)) x1000 bt362.2.1 bt362.2.2) else (none))) else (if x3.length < 17592186044416 then (spec_l9DrawMem.l0 k (x3 ++ [bt345.1]) (wrap64 (x4 + 1)) x1000 bt356.2.1 bt356.2.2) else (none))))))) else ((spec_l1Below.f x1000 x1001 x1002 4).bind fun bt371 => (if bt371.1 = 0 then (spec_l9DrawMem.l1 k x3 (([(⟨1, 1, 0, 0, 1⟩ : S71), (⟨6, 2, 0, 1, 20⟩ : S71), (⟨10, 3, 2, 1, 0⟩ : S71), (⟨8, 0, 0, 0, 1⟩ : S71)] : List (S71))) 0 x1000 bt371.2.1 bt371.2.2) else (if bt371.1 = 1 then (spec_l9DrawMem.l2 k x3 (([(⟨4, 1, 0, 0, 8⟩ : S71), (⟨3, 1, 1, 0, 1⟩ : S71), (⟨5, 0, 0, 1, 8⟩ : S71), (⟨8, 0, 0, 0, 8⟩ : S71)] : List (S71))) 0 x1000 bt371.2.1 bt371.2.2) else (some (x3, bt371.2.1, bt371.2.2)))))
def spec_l9DrawMem.l1 : Nat → List Int → List (S71) → Int → List Int → Int → Int → Option (List Int × Int × Int)
 | 0, _, _, _, _, _, _ => none
 | k + 1, x3, x7, x8, x1000, x1001, x1002 => if x8 < (x7.length : Int) then (if 0 ≤ x8 then ((spec_Code.f ((rd_T71 x7 x8).f0) ((rd_T71 x7 x8).f1) ((rd_T71 x7 x8).f2) ((rd_T71 x7 x8).f3) ((rd_T71 x7 x8).f4)).bind fun bt378 => (if x8 < (x3.length : Int) then (spec_l9DrawMem.l1 k (x3.set (x8 : Int).toNat bt378.1) x7 (wrap64 (x8 + 1)) x1000 x1001 x1002) else (none))) else (none)) else (some (x3, x1001, x1002))
def spec_l9DrawMem.l2 : Nat → List Int → List (S71) → Int → List Int → Int → Int → Option (List Int × Int × Int)
 | 0, _, _, _, _, _, _ => none
 | k + 1, x3, x9, x10, x1000, x1001, x1002 => if x10 < (x9.length : Int) then (if 0 ≤ x10 then ((spec_Code.f ((rd_T71 x9 x10).f0) ((rd_T71 x9 x10).f1) ((rd_T71 x9 x10).f2) ((rd_T71 x9 x10).f3) ((rd_T71 x9 x10).f4)).bind fun bt385 => (if x10 < (x3.length : Int) then (spec_l9DrawMem.l2 k (x3.set (x10 : Int).toNat bt385.1) x9 (wrap64 (x10 + 1)) x1000 x1001 x1002) else (none))) else (none)) else (some (x3, x1001, x1002))
end
def spec_l9DrawMem.f (k : Nat) (s0_0 : List Int) (s0_1 : Int) (s0_2 : Int) : Option (List Int × Int × Int) := spec_l9DrawMem.l0 k (([] : List Int)) 0 s0_0 s0_1 s0_2
theorem spec_l9DrawMem.mono_l : ∀ k, (∀ y0 y1 y2 y3 y4, LeO (spec_l9DrawMem.l0 k y0 y1 y2 y3 y4) (spec_l9DrawMem.l0 (k + 1) y0 y1 y2 y3 y4)) ∧ (∀ y0 y1 y2 y3 y4 y5, LeO (spec_l9DrawMem.l1 k y0 y1 y2 y3 y4 y5) (spec_l9DrawMem.l1 (k + 1) y0 y1 y2 y3 y4 y5)) ∧ (∀ y0 y1 y2 y3 y4 y5, LeO (spec_l9DrawMem.l2 k y0 y1 y2 y3 y4 y5) (spec_l9DrawMem.l2 (k + 1) y0 y1 y2 y3 y4 y5))
 | 0 => ⟨fun _ _ _ _ _ r h => by simp [spec_l9DrawMem.l0] at h, fun _ _ _ _ _ _ r h => by simp [spec_l9DrawMem.l1] at h, fun _ _ _ _ _ _ r h => by simp [spec_l9DrawMem.l2] at h⟩
 | k + 1 => by
  obtain ⟨ih0, ih1, ih2⟩ := spec_l9DrawMem.mono_l k
  refine ⟨?_, ?_, ?_⟩
  ·intro y0 y1 y2 y3 y4
   unfold spec_l9DrawMem.l0
   repeat' first
   | (with_reducible exact ih0 _ _ _ _ _)
   | (with_reducible exact ih1 _ _ _ _ _ _)
   | (with_reducible exact ih2 _ _ _ _ _ _)
   | (with_reducible exact spec_l8DrawIns.mono _ _ _ _)
   | (with_reducible exact LeO.refl _)
   | (with_reducible exact LeO.none _)
   | (with_reducible refine LeO.ite ?_ ?_)
   | (with_reducible refine LeO.bind ?_ (fun _ => ?_))
   | exact ih0 _ _ _ _ _
   | exact ih1 _ _ _ _ _ _
   | exact ih2 _ _ _ _ _ _
   | exact spec_l8DrawIns.mono _ _ _ _
   | exact LeO.none _
   | refine LeO.ite ?_ ?_
   | refine LeO.bind ?_ (fun _ => ?_)
  ·intro y0 y1 y2 y3 y4 y5
   unfold spec_l9DrawMem.l1
   repeat' first
   | (with_reducible exact ih0 _ _ _ _ _)
   | (with_reducible exact ih1 _ _ _ _ _ _)
   | (with_reducible exact ih2 _ _ _ _ _ _)
   | (with_reducible exact spec_l8DrawIns.mono _ _ _ _)
   | (with_reducible exact LeO.refl _)
   | (with_reducible exact LeO.none _)
   | (with_reducible refine LeO.ite ?_ ?_)
   | (with_reducible refine LeO.bind ?_ (fun _ => ?_))
   | exact ih0 _ _ _ _ _
   | exact ih1 _ _ _ _ _ _
   | exact ih2 _ _ _ _ _ _
   | exact spec_l8DrawIns.mono _ _ _ _
   | exact LeO.none _
   | refine LeO.ite ?_ ?_
   | refine LeO.bind ?_ (fun _ => ?_)
  ·intro y0 y1 y2 y3 y4 y5
   unfold spec_l9DrawMem.l2
   repeat' first
   | (with_reducible exact ih0 _ _ _ _ _)
   | (with_reducible exact ih1 _ _ _ _ _ _)
   | (with_reducible exact ih2 _ _ _ _ _ _)
   | (with_reducible exact spec_l8DrawIns.mono _ _ _ _)
   | (with_reducible exact LeO.refl _)
   | (with_reducible exact LeO.none _)
   | (with_reducible refine LeO.ite ?_ ?_)
   | (with_reducible refine LeO.bind ?_ (fun _ => ?_))
   | exact ih0 _ _ _ _ _
   | exact ih1 _ _ _ _ _ _
   | exact ih2 _ _ _ _ _ _
   | exact spec_l8DrawIns.mono _ _ _ _
   | exact LeO.none _
   | refine LeO.ite ?_ ?_
   | refine LeO.bind ?_ (fun _ => ?_)
theorem spec_l9DrawMem.mono : ∀ a0 a1 a2 k, LeO (spec_l9DrawMem.f k a0 a1 a2) (spec_l9DrawMem.f (k + 1) a0 a1 a2) := by
 intro a0 a1 a2 k
 obtain ⟨ih0, ih1, ih2⟩ := spec_l9DrawMem.mono_l k
 unfold spec_l9DrawMem.f
 repeat' first
   | (with_reducible exact ih0 _ _ _ _ _)
   | (with_reducible exact ih1 _ _ _ _ _ _)
   | (with_reducible exact ih2 _ _ _ _ _ _)
   | (with_reducible exact spec_l8DrawIns.mono _ _ _ _)
   | (with_reducible exact LeO.refl _)
   | (with_reducible exact LeO.none _)
   | (with_reducible refine LeO.ite ?_ ?_)
   | (with_reducible refine LeO.bind ?_ (fun _ => ?_))
   | exact ih0 _ _ _ _ _
   | exact ih1 _ _ _ _ _ _
   | exact ih2 _ _ _ _ _ _
   | exact spec_l8DrawIns.mono _ _ _ _
   | exact LeO.none _
   | refine LeO.ite ?_ ?_
   | refine LeO.bind ?_ (fun _ => ?_)
set_option maxHeartbeats 8000000 in
set_option maxRecDepth 100000 in
theorem spec_l9DrawMem.calls (k : Nat) (g : Nat) (s0_0 : List Int) (s0_1 : Int) (s0_2 : Int) (r1 : List Int) (r2 : Int) (r3 : Int) (w0 w : World) (hI : IsS90 w0 w g s0_0 s0_1 s0_2) (hB : Below w0.heap.size w0 w) (h : spec_l9DrawMem.f k s0_0 s0_1 s0_2 = some (r1, r2, r3)) :
  Calls Try.prog 81 #[.pointer (some ⟨g, 0, none⟩)] w fun e w' => ∃ v0_ : Value, e = .returned (v0_) ∧ Kd.R (Kd.int .i64) 3 w' w.heap.size (fun _ => True) v0_ r1 ∧ IsS90 w0 w' g s0_0 r2 r3 ∧ Below w0.heap.size w0 w' ∧ KeepBut w w' g none := by
 have hu71 := Try.underlying71
 have HI0 := Aside0.mk hI
 have HK := Aside0.mk (KeepBut.refl w g none)
 have HL := Aside0.mk hB.size
 clear hI
 have HW0 := Aside0.mk hB.size
 have HB := Aside0.mk hB
 clear hB
 have H : (spec_l9DrawMem.l0 k (([] : List Int)) 0 s0_0 s0_1 s0_2) = some (r1, r2, r3) := h
 clear h
 obtain ⟨y335, hy335⟩ : ∃ y_ : List Int, y_ = (([] : List Int)) := ⟨_, rfl⟩
 replace H : (spec_l9DrawMem.l0 k y335 0 s0_0 s0_1 s0_2) = some (r1, r2, r3) := by first | (rw [hy335]; with_reducible exact H) | (have H2_ := (Option.bind_some _ _).symm.trans H; rw [hy335]; with_reducible exact H2_) | (have H2_ := (Option.bind_some _ _).symm.trans H; with_reducible exact H2_) | with_reducible exact H | (rw [hy335]; exact H) | exact H
 have Ny335 := Aside0.mk hy335
 clear hy335
 have H' := Aside0.mk H
 clear H
 go_enter Try.func81, Try.ntmps81
 go_wp2_with (first | ((with_reducible refine gate_dst (N := 11) rfl ?_); refine Kd.R_lit (Kd.int .i64) _ 3 ?hg (N := 11) ?hd (xs := ([] : List Int)) (inner := []) (ok := fun _ => True) (okp := fun _ => True) ?hr ?hp (fun _ hk => hk) trivial (Below.refl _ _) (Nat.le_refl _) (by simp) ?_; (case hd => rfl); (case hg => rfl); (case hr => first | (go_simp; done) | (go_simp; rfl)); (case hp => exact (Reps.none _ _)); intro v336 w2 ho3 hb hg_ hnew_; clear hg_ hnew_; (first | rw [← Ny335.out] at ho3 | (simp only [Int.reduceToNat] at ho3; rw [← Ny335.out] at ho3)); have n0_ := Aside0.mk (Kd.R_lower ho3 (keep_size (w := w) (g := g) (row := none) (zB7_1))); have n1_ := Aside0.mk (IsS90.below (zB7_0) hb); have n2_ := Aside0.mk (KeepBut.trans (zB7_1) (KeepBut.of_below hb g none) (.inl rfl)); have n3_ := Aside0.mk (below_step (zB7_2) hb); clear HI0; clear HK; clear HB; have HO337 := n0_; have HI0 := n1_; have HK := n2_; have HB := n3_; clear n0_ n1_ n2_ n3_; clear hb ho3))
 go_loopg [3, 4] k (fun kq v3 v4 w' => ∃ (x3_1 : List Int) (x4_1 : Int) (x1001_1 : Int) (x1002_1 : Int), v4 = .int .i64 x4_1 ∧ Aside0 (spec_l9DrawMem.l0 kq x3_1 x4_1 s0_0 x1001_1 x1002_1 = some (r1, r2, r3)) ∧ Aside0 (kq ≤ k) ∧ Aside0 (Kd.R (Kd.int .i64) 3 w' w.heap.size (fun _ => True) v3 x3_1) ∧ Aside0 (IsS90 w0 w' g s0_0 x1001_1 x1002_1) ∧ Aside0 (KeepBut w w' g none) ∧ Aside0 (Below w0.heap.size w0 w'))
 case atStart => exact ⟨(y335), (0), (s0_1), (s0_2), (by first | rfl | (simp; done) | (simp [*]; done)), H', ⟨Nat.le_refl _⟩, ⟨zR7 HO337.out⟩, ⟨zB7_0⟩, ⟨zB7_1⟩, ⟨zB7_2⟩⟩
 case round =>
  clear H'
  try clear p2
  obtain ⟨x3_1, x4_1, x1001_1, x1002_1, rfl, HA, HK1, HO_3, HI0, HK, HB⟩ := hrel
  cases gk with
  | zero => exact absurd HA.out (by simp [spec_l9DrawMem.l0])
  | succ k1 =>
   have H := HA.out
   clear HA
   simp only [spec_l9DrawMem.l0] at H
   by_cases c4 : x4_1 < 24
   ·rw [if_pos c4] at H
    have c4b0 : decide (x4_1 < 24) = true := decide_eq_true c4
    clear c4
    replace H := Option.bind_eq_some_iff.mp H
    obtain ⟨⟨t338, t339, t340, t341, t342, t343, t344⟩, A50, H⟩ := H
    replace H : ((spec_Code.f t338 t339 t340 t341 t342).bind fun bt345 => (if x4_1 > 15 then ((spec_l1PickInt.f s0_0 t343 t344 (([0, 1, 5, 65535] : List Int))).bind fun bt350 => (if x3_1.length < 17592186044416 then (spec_l9DrawMem.l0 k1 (x3_1 ++ [bt350.1]) (wrap64 (x4_1 + 1)) s0_0 bt350.2.1 bt350.2.2) else (none))) else ((spec_l1Once.f s0_0 t343 t344 9).bind fun bt356 => (if bt356.1 = true then ((spec_l1PickInt.f s0_0 bt356.2.1 bt356.2.2 (([0, 1, 5, 65535] : List Int))).bind fun bt362 => (if x3_1.length < 17592186044416 then (spec_l9DrawMem.l0 k1 (x3_1 ++ [bt362.1]) (wrap64 (x4_1 + 1)) s0_0 bt362.2.1 bt362.2.2) else (none))) else (if x3_1.length < 17592186044416 then (spec_l9DrawMem.l0 k1 (x3_1 ++ [bt345.1]) (wrap64 (x4_1 + 1)) s0_0 bt356.2.1 bt356.2.2) else (none)))))) = some (r1, r2, r3) := H
    have A5 := Aside0.mk A50
    clear A50
    replace H := Option.bind_eq_some_iff.mp H
    obtain ⟨⟨t345, t346⟩, A60, H⟩ := H
    replace H : (if x4_1 > 15 then ((spec_l1PickInt.f s0_0 t343 t344 (([0, 1, 5, 65535] : List Int))).bind fun bt350 => (if x3_1.length < 17592186044416 then (spec_l9DrawMem.l0 k1 (x3_1 ++ [bt350.1]) (wrap64 (x4_1 + 1)) s0_0 bt350.2.1 bt350.2.2) else (none))) else ((spec_l1Once.f s0_0 t343 t344 9).bind fun bt356 => (if bt356.1 = true then ((spec_l1PickInt.f s0_0 bt356.2.1 bt356.2.2 (([0, 1, 5, 65535] : List Int))).bind fun bt362 => (if x3_1.length < 17592186044416 then (spec_l9DrawMem.l0 k1 (x3_1 ++ [bt362.1]) (wrap64 (x4_1 + 1)) s0_0 bt362.2.1 bt362.2.2) else (none))) else (if x3_1.length < 17592186044416 then (spec_l9DrawMem.l0 k1 (x3_1 ++ [t345]) (wrap64 (x4_1 + 1)) s0_0 bt356.2.1 bt356.2.2) else (none))))) = some (r1, r2, r3) := H
    have A6 := Aside0.mk A60
    clear A60
    by_cases c7 : x4_1 > 15
    ·rw [if_pos c7] at H
     have c7b0 : decide (15 < x4_1) = true := decide_eq_true c7
     clear c7
     obtain ⟨y347, hy347⟩ : ∃ y_ : List Int, y_ = (([0, 1, 5, 65535] : List Int)) := ⟨_, rfl⟩
     replace H : ((spec_l1PickInt.f s0_0 t343 t344 y347).bind fun bt350 => (if x3_1.length < 17592186044416 then (spec_l9DrawMem.l0 k1 (x3_1 ++ [bt350.1]) (wrap64 (x4_1 + 1)) s0_0 bt350.2.1 bt350.2.2) else (none))) = some (r1, r2, r3) := by first | (rw [hy347]; with_reducible exact H) | (have H2_ := (Option.bind_some _ _).symm.trans H; rw [hy347]; with_reducible exact H2_) | (have H2_ := (Option.bind_some _ _).symm.trans H; with_reducible exact H2_) | with_reducible exact H | (rw [hy347]; exact H) | exact H
     have Ny347 := Aside0.mk hy347
     clear hy347
     replace H := Option.bind_eq_some_iff.mp H
     obtain ⟨⟨t350, t351, t352⟩, A80, H⟩ := H
     replace H : (if x3_1.length < 17592186044416 then (spec_l9DrawMem.l0 k1 (x3_1 ++ [t350]) (wrap64 (x4_1 + 1)) s0_0 t351 t352) else (none)) = some (r1, r2, r3) := H
     have A8 := Aside0.mk A80
     clear A80
     by_cases c9 : x3_1.length < 17592186044416
     rotate_left
     ·rw [if_neg c9] at H
      exact absurd H (by simp)
     rw [if_pos c9] at H
     have LMc9 := Aside0.mk c9
     clear c9
     obtain ⟨y353, hy353⟩ : ∃ y_ : List Int, y_ = (x3_1 ++ [t350]) := ⟨_, rfl⟩
     replace H : (spec_l9DrawMem.l0 k1 y353 (wrap64 (x4_1 + 1)) s0_0 t351 t352) = some (r1, r2, r3) := by first | (rw [hy353]; with_reducible exact H) | (have H2_ := (Option.bind_some _ _).symm.trans H; rw [hy353]; with_reducible exact H2_) | (have H2_ := (Option.bind_some _ _).symm.trans H; with_reducible exact H2_) | with_reducible exact H | (rw [hy353]; exact H) | exact H
     have Ny353 := Aside0.mk hy353
     clear hy353
     have H' := Aside0.mk H
     clear H
     go_wp2_with (first | ((with_reducible refine gate_callee (f := 92) rfl ?_); refine goesL_ (some 18) rfl rfl Try.func92 (by kernel_rfl) rfl #[.pointer (some ⟨g, 0, none⟩)] rfl zT7 ?_; (with_reducible refine (spec_l8DrawIns.calls k1 g s0_0 x1001_1 x1002_1 t338 t339 t340 t341 t342 t343 t344 w0 _ ?side1 ?side2 A5.out).mono ?_); (case side1 => exact zB7_0); (case side2 => exact zB7_2); rintro e w10 ⟨rfl, hi, hb, hk⟩; refine ⟨_, rfl, ?_⟩; have n0_ := Aside0.mk (Kd.R_mono (Kd.R_keep (IsS90.apart (show IsS90 w0 _ g s0_0 x1001_1 x1002_1 from zB7_0) (zR7 HO_3.out) (by decide)) hk (fun _ h => h.2)) (fun _ h => h.1)); have n1_ := Aside0.mk (KeepBut.trans (zB7_1) hk (.inl rfl)); have n2_ := Aside0.mk (hb); have n3_ := Aside0.mk (hi); clear HO_3; clear HK; clear HB; clear HI0; have HO_3 := n0_; have HK := n1_; have HB := n2_; have HI0 := n3_; clear n0_ n1_ n2_ n3_; (try clear hb); (try clear hb2); (try clear hk); (try clear hi)) | ((with_reducible refine gate_callee (f := 91) rfl ?_); refine goesL_ (some 19) rfl rfl Try.func91 (by kernel_rfl) rfl #[.agg #[.int .i64 t338, .int .i64 t339, .int .i64 t340, .int .i64 t341, .int .i64 t342]] rfl zT7 ?_; (with_reducible refine (spec_Code.calls t338 t339 t340 t341 t342 t345 t346 _ A6.out).mono ?_); rintro e w11 ⟨rfl, hb⟩; refine ⟨_, rfl, ?_⟩; have n0_ := Aside0.mk (Kd.R_below (zR7 HO_3.out) hb); have n1_ := Aside0.mk (IsS90.below (zB7_0) hb); have n2_ := Aside0.mk (KeepBut.trans (zB7_1) (KeepBut.of_below hb g none) (.inl rfl)); have n3_ := Aside0.mk (below_step (zB7_2) hb); clear HO_3; clear HI0; clear HK; clear HB; have HO_3 := n0_; have HI0 := n1_; have HK := n2_; have HB := n3_; clear n0_ n1_ n2_ n3_; (try clear hb); (try clear hb2); (try clear hk); (try clear hi)) | ((with_reducible refine gate_dst (N := 29) rfl ?_); refine Kd.R_lit (Kd.int .i64) _ 3 ?hg (N := 29) ?hd (xs := ([0, 1, 5, 65535] : List Int)) (inner := [.int .i64 0, .int .i64 1, .int .i64 5, .int .i64 65535]) (ok := fun _ => True) (okp := fun _ => True) ?hr ?hp (fun _ hk => hk) trivial (Below.refl _ _) (Nat.le_refl _) (by simp) ?_; (case hd => rfl); (case hg => rfl); (case hr => first | (go_simp; done) | (go_simp; rfl)); (case hp => exact (Reps.one (show Kd.M (Kd.int .i64) _ _ _ 0 [.int .i64 0] from rfl) (Reps.one (show Kd.M (Kd.int .i64) _ _ _ 1 [.int .i64 1] from rfl) (Reps.one (show Kd.M (Kd.int .i64) _ _ _ 5 [.int .i64 5] from rfl) (Reps.one (show Kd.M (Kd.int .i64) _ _ _ 65535 [.int .i64 65535] from rfl) (Reps.none _ _)))))); intro v348 w12 ho13 hb hg_ hnew_; clear hg_ hnew_; (first | rw [← Ny347.out] at ho13 | (simp only [Int.reduceToNat] at ho13; rw [← Ny347.out] at ho13)); have n0_ := Aside0.mk (Kd.R_elder' (zR7 HO_3.out) (Kd.R_base ho13) hb); have n1_ := Aside0.mk (Kd.R_lower (Kd.R_new' ho13 (Kd.R_lt (zR7 HO_3.out))) (keep_size (w := w) (g := g) (row := none) (zB7_1))); have n2_ := Aside0.mk (IsS90.below (zB7_0) hb); have n3_ := Aside0.mk (KeepBut.trans (zB7_1) (KeepBut.of_below hb g none) (.inl rfl)); have n4_ := Aside0.mk (below_step (zB7_2) hb); clear HO_3; clear HI0; clear HK; clear HB; have HO_3 := n0_; have HO349 := n1_; have HI0 := n2_; have HK := n3_; have HB := n4_; clear n0_ n1_ n2_ n3_ n4_; clear hb ho13; obtain ⟨Ao14, co14, eo14⟩ := Kd.R_slice HO349.out; subst eo14) | ((with_reducible refine gate_callee (f := 61) rfl ?_); refine goesL_ (some 30) rfl rfl Try.func61 (by kernel_rfl) rfl #[.pointer (some ⟨g, 0, none⟩), .slice Ao14 y347.length co14] rfl zT7 ?_; (with_reducible refine (spec_l1PickInt.calls g s0_0 t343 t344 _ _ y347 t350 t351 t352 w0 _ ?side1 ?side2 ?side3 ?side4 ?side5 A8.out).mono ?_); (case side1 => exact zB7_0); (case side2 => exact zB7_2); (case side3 => exact zC7 (Kd.R_reads' HO349.out).2.2); (case side4 => exact (Kd.R_reads' HO349.out).2.1); (case side5 => exact far_slice (IsS90.own_ne HI0.out HO349.out (by decide))); rintro e w15 ⟨rfl, hi, hb, hk⟩; refine ⟨_, rfl, ?_⟩; have n0_ := Aside0.mk (Kd.R_mono (Kd.R_keep (IsS90.apart (show IsS90 w0 _ g s0_0 t343 t344 from zB7_0) (zR7 HO_3.out) (by decide)) hk (fun _ h => h.2)) (fun _ h => h.1)); have n1_ := Aside0.mk (Kd.R_mono (Kd.R_keep (IsS90.apart (show IsS90 w0 _ g s0_0 t343 t344 from zB7_0) (zR7 HO349.out) (by decide)) hk (fun _ h => h.2)) (fun _ h => h.1)); have n2_ := Aside0.mk (KeepBut.trans (zB7_1) hk (.inl rfl)); have n3_ := Aside0.mk (hb); have n4_ := Aside0.mk (hi); clear HO_3; clear HO349; clear HK; clear HB; clear HI0; have HO_3 := n0_; have HO349 := n1_; have HK := n2_; have HB := n3_; have HI0 := n4_; clear n0_ n1_ n2_ n3_ n4_; (try clear hb); (try clear hb2); (try clear hk); (try clear hi)) | ((with_reducible refine gate_builtin (b := .append) (xs := #[.tmp 31, .tmp 33]) rfl ?_); at_builtin; refine Kd.R_append (Kd.int .i64) w.heap.size rfl (.tmp 31) (.tmp 33) 29 3 (.int .i64 0) 8 rfl Try.underlying29 info3 rfl (by decide) (by omega) u3 x3_1 t350 [.int .i64 t350] (fun k_ => some k_ ≠ (.slice Ao14 y347.length co14 : Value).ownBlock) (fun _ => False) rfl rfl ?aP (fun _ hk => hk.elim) ?aF ?aO (Below.refl _ _) ?aS ?aL ?_; (case aP => exact rfl); (case aF => exact (fun k_ hk => Kd.fresh' (Kd.R_lt (zR7 HO349.out)) k_ hk)); (case aO => exact (by (with_reducible repeat (first | apply Kd.R_alloc | apply Kd.R_drewN | apply Kd.R_drew)); exact Kd.R_mono HO_3.out (fun _ hk => hk.2))); (case aS => exact (keep_size (w := w) (g := g) (row := none) (zB7_1))); (case aL => have := LMc9.out; omega); intro v354 w16 ho hb hg hat; rw [← Ny353.out] at ho; have n0_ := Aside0.mk (IsS90.grown (show IsS90 w0 _ g s0_0 t351 t352 from zB7_0) hg (IsS90.own_ne HI0.out HO_3.out (by decide))); have n1_ := Aside0.mk (Kd.R_after (ok := (fun _ => True)) (zR7 HO349.out) hg hat); have n2_ := Aside0.mk (below_weaken (zB7_2) HL.out hb); have n3_ := Aside0.mk (KeepBut.trans (zB7_1) (KeepBut.of_grown hg g) (Kd.R_base2 HO_3.out)); have n4_ := Aside0.mk (ho); clear HI0; clear HO349; clear HB; clear HK; clear HO_3; have HI0 := n0_; have HO349 := n1_; have HB := n2_; have HK := n3_; have HO355 := n4_; clear n0_ n1_ n2_ n3_ n4_; clear ho hb hg hat))
     go_roundg k1
     case measure => have := HK1.out; omega
     case rel => exact ⟨(y353), (wrap64 (x4_1 + 1)), (t351), (t352), (by first | rfl | (simp; done) | (simp [*]; done)), H', ⟨by have := HK1.out; omega⟩, ⟨by (with_reducible repeat (first | apply Kd.R_alloc | apply Kd.R_drewN | apply Kd.R_drew)); exact Kd.R_mono HO355.out (fun _ hk => trivial)⟩, ⟨zB7_0⟩, ⟨zB7_1⟩, ⟨zB7_2⟩⟩
    rw [if_neg c7] at H
    have c7b0 : decide (15 < x4_1) = false := decide_eq_false c7
    clear c7
    replace H := Option.bind_eq_some_iff.mp H
    obtain ⟨⟨t356, t357, t358⟩, A170, H⟩ := H
    replace H : (if t356 = true then ((spec_l1PickInt.f s0_0 t357 t358 (([0, 1, 5, 65535] : List Int))).bind fun bt362 => (if x3_1.length < 17592186044416 then (spec_l9DrawMem.l0 k1 (x3_1 ++ [bt362.1]) (wrap64 (x4_1 + 1)) s0_0 bt362.2.1 bt362.2.2) else (none))) else (if x3_1.length < 17592186044416 then (spec_l9DrawMem.l0 k1 (x3_1 ++ [t345]) (wrap64 (x4_1 + 1)) s0_0 t357 t358) else (none))) = some (r1, r2, r3) := H
    have A17 := Aside0.mk A170
    clear A170
    by_cases c18 : t356 = true
    rotate_left
    ·replace c18 := Bool.eq_false_iff.mpr c18
     subst c18
     have H1 : (if x3_1.length < 17592186044416 then (spec_l9DrawMem.l0 k1 (x3_1 ++ [t345]) (wrap64 (x4_1 + 1)) s0_0 t357 t358) else (none)) = some (r1, r2, r3) := by rw [if_neg (show ¬ (false = true) by decide)] at H; exact H
     clear H
     have H := H1
     clear H1
     by_cases c29 : x3_1.length < 17592186044416
     rotate_left
     ·rw [if_neg c29] at H
      exact absurd H (by simp)
     rw [if_pos c29] at H
     have LMc29 := Aside0.mk c29
     clear c29
     obtain ⟨y368, hy368⟩ : ∃ y_ : List Int, y_ = (x3_1 ++ [t345]) := ⟨_, rfl⟩
     replace H : (spec_l9DrawMem.l0 k1 y368 (wrap64 (x4_1 + 1)) s0_0 t357 t358) = some (r1, r2, r3) := by first | (rw [hy368]; with_reducible exact H) | (have H2_ := (Option.bind_some _ _).symm.trans H; rw [hy368]; with_reducible exact H2_) | (have H2_ := (Option.bind_some _ _).symm.trans H; with_reducible exact H2_) | with_reducible exact H | (rw [hy368]; exact H) | exact H
     have Ny368 := Aside0.mk hy368
     clear hy368
     have H' := Aside0.mk H
     clear H
     go_wp2_with (first | ((with_reducible refine gate_callee (f := 92) rfl ?_); refine goesL_ (some 18) rfl rfl Try.func92 (by kernel_rfl) rfl #[.pointer (some ⟨g, 0, none⟩)] rfl zT7 ?_; (with_reducible refine (spec_l8DrawIns.calls k1 g s0_0 x1001_1 x1002_1 t338 t339 t340 t341 t342 t343 t344 w0 _ ?side1 ?side2 A5.out).mono ?_); (case side1 => exact zB7_0); (case side2 => exact zB7_2); rintro e w30 ⟨rfl, hi, hb, hk⟩; refine ⟨_, rfl, ?_⟩; have n0_ := Aside0.mk (Kd.R_mono (Kd.R_keep (IsS90.apart (show IsS90 w0 _ g s0_0 x1001_1 x1002_1 from zB7_0) (zR7 HO_3.out) (by decide)) hk (fun _ h => h.2)) (fun _ h => h.1)); have n1_ := Aside0.mk (KeepBut.trans (zB7_1) hk (.inl rfl)); have n2_ := Aside0.mk (hb); have n3_ := Aside0.mk (hi); clear HO_3; clear HK; clear HB; clear HI0; have HO_3 := n0_; have HK := n1_; have HB := n2_; have HI0 := n3_; clear n0_ n1_ n2_ n3_; (try clear hb); (try clear hb2); (try clear hk); (try clear hi)) | ((with_reducible refine gate_callee (f := 91) rfl ?_); refine goesL_ (some 19) rfl rfl Try.func91 (by kernel_rfl) rfl #[.agg #[.int .i64 t338, .int .i64 t339, .int .i64 t340, .int .i64 t341, .int .i64 t342]] rfl zT7 ?_; (with_reducible refine (spec_Code.calls t338 t339 t340 t341 t342 t345 t346 _ A6.out).mono ?_); rintro e w31 ⟨rfl, hb⟩; refine ⟨_, rfl, ?_⟩; have n0_ := Aside0.mk (Kd.R_below (zR7 HO_3.out) hb); have n1_ := Aside0.mk (IsS90.below (zB7_0) hb); have n2_ := Aside0.mk (KeepBut.trans (zB7_1) (KeepBut.of_below hb g none) (.inl rfl)); have n3_ := Aside0.mk (below_step (zB7_2) hb); clear HO_3; clear HI0; clear HK; clear HB; have HO_3 := n0_; have HI0 := n1_; have HK := n2_; have HB := n3_; clear n0_ n1_ n2_ n3_; (try clear hb); (try clear hb2); (try clear hk); (try clear hi)) | (go_at_call 58; (with_reducible refine (spec_l1Once.calls g s0_0 t343 t344 9 false t357 t358 w0 _ ?side1 ?side2 A17.out).mono ?_); (case side1 => exact zB7_0); (case side2 => exact zB7_2); rintro e w32 ⟨rfl, hi, hb, hk⟩; have n0_ := Aside0.mk (Kd.R_mono (Kd.R_keep (IsS90.apart (show IsS90 w0 _ g s0_0 t343 t344 from zB7_0) (zR7 HO_3.out) (by decide)) hk (fun _ h => h.2)) (fun _ h => h.1)); have n1_ := Aside0.mk (KeepBut.trans (zB7_1) hk (.inl rfl)); have n2_ := Aside0.mk (hb); have n3_ := Aside0.mk (hi); clear HO_3; clear HK; clear HB; clear HI0; have HO_3 := n0_; have HK := n1_; have HB := n2_; have HI0 := n3_; clear n0_ n1_ n2_ n3_; (try clear hb); (try clear hb2); (try clear hk); (try clear hi)) | ((with_reducible refine gate_builtin (b := .append) (xs := #[.tmp 31, .tmp 33]) rfl ?_); at_builtin; refine Kd.R_append (Kd.int .i64) w.heap.size rfl (.tmp 31) (.tmp 33) 29 3 (.int .i64 0) 8 rfl Try.underlying29 info3 rfl (by decide) (by omega) u3 x3_1 t345 [.int .i64 t345] (fun _ => True) (fun _ => False) rfl rfl ?aP (fun _ hk => hk.elim) ?aF ?aO (Below.refl _ _) ?aS ?aL ?_; (case aP => exact rfl); (case aF => exact (fun _ _ => trivial)); (case aO => exact (zR7 HO_3.out)); (case aS => exact (keep_size (w := w) (g := g) (row := none) (zB7_1))); (case aL => have := LMc29.out; omega); intro v369 w33 ho hb hg hat; rw [← Ny368.out] at ho; have n0_ := Aside0.mk (IsS90.grown (show IsS90 w0 _ g s0_0 t357 t358 from zB7_0) hg (IsS90.own_ne HI0.out HO_3.out (by decide))); have n1_ := Aside0.mk (below_weaken (zB7_2) HL.out hb); have n2_ := Aside0.mk (KeepBut.trans (zB7_1) (KeepBut.of_grown hg g) (Kd.R_base2 HO_3.out)); have n3_ := Aside0.mk (ho); clear HI0; clear HB; clear HK; clear HO_3; have HI0 := n0_; have HB := n1_; have HK := n2_; have HO370 := n3_; clear n0_ n1_ n2_ n3_; clear ho hb hg hat))
     go_roundg k1
     case measure => have := HK1.out; omega
     case rel => exact ⟨(y368), (wrap64 (x4_1 + 1)), (t357), (t358), (by first | rfl | (simp; done) | (simp [*]; done)), H', ⟨by have := HK1.out; omega⟩, ⟨zR7 HO370.out⟩, ⟨zB7_0⟩, ⟨zB7_1⟩, ⟨zB7_2⟩⟩
    subst c18
    have H1 : ((spec_l1PickInt.f s0_0 t357 t358 (([0, 1, 5, 65535] : List Int))).bind fun bt362 => (if x3_1.length < 17592186044416 then (spec_l9DrawMem.l0 k1 (x3_1 ++ [bt362.1]) (wrap64 (x4_1 + 1)) s0_0 bt362.2.1 bt362.2.2) else (none))) = some (r1, r2, r3) := by rw [if_pos rfl] at H; exact H
    clear H
    have H := H1
    clear H1
    obtain ⟨y359, hy359⟩ : ∃ y_ : List Int, y_ = (([0, 1, 5, 65535] : List Int)) := ⟨_, rfl⟩
    replace H : ((spec_l1PickInt.f s0_0 t357 t358 y359).bind fun bt362 => (if x3_1.length < 17592186044416 then (spec_l9DrawMem.l0 k1 (x3_1 ++ [bt362.1]) (wrap64 (x4_1 + 1)) s0_0 bt362.2.1 bt362.2.2) else (none))) = some (r1, r2, r3) := by first | (rw [hy359]; with_reducible exact H) | (have H2_ := (Option.bind_some _ _).symm.trans H; rw [hy359]; with_reducible exact H2_) | (have H2_ := (Option.bind_some _ _).symm.trans H; with_reducible exact H2_) | with_reducible exact H | (rw [hy359]; exact H) | exact H
    have Ny359 := Aside0.mk hy359
    clear hy359
    replace H := Option.bind_eq_some_iff.mp H
    obtain ⟨⟨t362, t363, t364⟩, A190, H⟩ := H
    replace H : (if x3_1.length < 17592186044416 then (spec_l9DrawMem.l0 k1 (x3_1 ++ [t362]) (wrap64 (x4_1 + 1)) s0_0 t363 t364) else (none)) = some (r1, r2, r3) := H
    have A19 := Aside0.mk A190
    clear A190
    by_cases c20 : x3_1.length < 17592186044416
    rotate_left
    ·rw [if_neg c20] at H
     exact absurd H (by simp)
    rw [if_pos c20] at H
    have LMc20 := Aside0.mk c20
    clear c20
    obtain ⟨y365, hy365⟩ : ∃ y_ : List Int, y_ = (x3_1 ++ [t362]) := ⟨_, rfl⟩
    replace H : (spec_l9DrawMem.l0 k1 y365 (wrap64 (x4_1 + 1)) s0_0 t363 t364) = some (r1, r2, r3) := by first | (rw [hy365]; with_reducible exact H) | (have H2_ := (Option.bind_some _ _).symm.trans H; rw [hy365]; with_reducible exact H2_) | (have H2_ := (Option.bind_some _ _).symm.trans H; with_reducible exact H2_) | with_reducible exact H | (rw [hy365]; exact H) | exact H
    have Ny365 := Aside0.mk hy365
    clear hy365
    have H' := Aside0.mk H
    clear H
    go_wp2_with (first | ((with_reducible refine gate_callee (f := 92) rfl ?_); refine goesL_ (some 18) rfl rfl Try.func92 (by kernel_rfl) rfl #[.pointer (some ⟨g, 0, none⟩)] rfl zT7 ?_; (with_reducible refine (spec_l8DrawIns.calls k1 g s0_0 x1001_1 x1002_1 t338 t339 t340 t341 t342 t343 t344 w0 _ ?side1 ?side2 A5.out).mono ?_); (case side1 => exact zB7_0); (case side2 => exact zB7_2); rintro e w21 ⟨rfl, hi, hb, hk⟩; refine ⟨_, rfl, ?_⟩; have n0_ := Aside0.mk (Kd.R_mono (Kd.R_keep (IsS90.apart (show IsS90 w0 _ g s0_0 x1001_1 x1002_1 from zB7_0) (zR7 HO_3.out) (by decide)) hk (fun _ h => h.2)) (fun _ h => h.1)); have n1_ := Aside0.mk (KeepBut.trans (zB7_1) hk (.inl rfl)); have n2_ := Aside0.mk (hb); have n3_ := Aside0.mk (hi); clear HO_3; clear HK; clear HB; clear HI0; have HO_3 := n0_; have HK := n1_; have HB := n2_; have HI0 := n3_; clear n0_ n1_ n2_ n3_; (try clear hb); (try clear hb2); (try clear hk); (try clear hi)) | ((with_reducible refine gate_callee (f := 91) rfl ?_); refine goesL_ (some 19) rfl rfl Try.func91 (by kernel_rfl) rfl #[.agg #[.int .i64 t338, .int .i64 t339, .int .i64 t340, .int .i64 t341, .int .i64 t342]] rfl zT7 ?_; (with_reducible refine (spec_Code.calls t338 t339 t340 t341 t342 t345 t346 _ A6.out).mono ?_); rintro e w22 ⟨rfl, hb⟩; refine ⟨_, rfl, ?_⟩; have n0_ := Aside0.mk (Kd.R_below (zR7 HO_3.out) hb); have n1_ := Aside0.mk (IsS90.below (zB7_0) hb); have n2_ := Aside0.mk (KeepBut.trans (zB7_1) (KeepBut.of_below hb g none) (.inl rfl)); have n3_ := Aside0.mk (below_step (zB7_2) hb); clear HO_3; clear HI0; clear HK; clear HB; have HO_3 := n0_; have HI0 := n1_; have HK := n2_; have HB := n3_; clear n0_ n1_ n2_ n3_; (try clear hb); (try clear hb2); (try clear hk); (try clear hi)) | (go_at_call 58; (with_reducible refine (spec_l1Once.calls g s0_0 t343 t344 9 true t357 t358 w0 _ ?side1 ?side2 A17.out).mono ?_); (case side1 => exact zB7_0); (case side2 => exact zB7_2); rintro e w23 ⟨rfl, hi, hb, hk⟩; have n0_ := Aside0.mk (Kd.R_mono (Kd.R_keep (IsS90.apart (show IsS90 w0 _ g s0_0 t343 t344 from zB7_0) (zR7 HO_3.out) (by decide)) hk (fun _ h => h.2)) (fun _ h => h.1)); have n1_ := Aside0.mk (KeepBut.trans (zB7_1) hk (.inl rfl)); have n2_ := Aside0.mk (hb); have n3_ := Aside0.mk (hi); clear HO_3; clear HK; clear HB; clear HI0; have HO_3 := n0_; have HK := n1_; have HB := n2_; have HI0 := n3_; clear n0_ n1_ n2_ n3_; (try clear hb); (try clear hb2); (try clear hk); (try clear hi)) | ((with_reducible refine gate_dst (N := 29) rfl ?_); refine Kd.R_lit (Kd.int .i64) _ 3 ?hg (N := 29) ?hd (xs := ([0, 1, 5, 65535] : List Int)) (inner := [.int .i64 0, .int .i64 1, .int .i64 5, .int .i64 65535]) (ok := fun _ => True) (okp := fun _ => True) ?hr ?hp (fun _ hk => hk) trivial (Below.refl _ _) (Nat.le_refl _) (by simp) ?_; (case hd => rfl); (case hg => rfl); (case hr => first | (go_simp; done) | (go_simp; rfl)); (case hp => exact (Reps.one (show Kd.M (Kd.int .i64) _ _ _ 0 [.int .i64 0] from rfl) (Reps.one (show Kd.M (Kd.int .i64) _ _ _ 1 [.int .i64 1] from rfl) (Reps.one (show Kd.M (Kd.int .i64) _ _ _ 5 [.int .i64 5] from rfl) (Reps.one (show Kd.M (Kd.int .i64) _ _ _ 65535 [.int .i64 65535] from rfl) (Reps.none _ _)))))); intro v360 w24 ho25 hb hg_ hnew_; clear hg_ hnew_; (first | rw [← Ny359.out] at ho25 | (simp only [Int.reduceToNat] at ho25; rw [← Ny359.out] at ho25)); have n0_ := Aside0.mk (Kd.R_elder' (zR7 HO_3.out) (Kd.R_base ho25) hb); have n1_ := Aside0.mk (Kd.R_lower (Kd.R_new' ho25 (Kd.R_lt (zR7 HO_3.out))) (keep_size (w := w) (g := g) (row := none) (zB7_1))); have n2_ := Aside0.mk (IsS90.below (zB7_0) hb); have n3_ := Aside0.mk (KeepBut.trans (zB7_1) (KeepBut.of_below hb g none) (.inl rfl)); have n4_ := Aside0.mk (below_step (zB7_2) hb); clear HO_3; clear HI0; clear HK; clear HB; have HO_3 := n0_; have HO361 := n1_; have HI0 := n2_; have HK := n3_; have HB := n4_; clear n0_ n1_ n2_ n3_ n4_; clear hb ho25; obtain ⟨Ao26, co26, eo26⟩ := Kd.R_slice HO361.out; subst eo26) | ((with_reducible refine gate_callee (f := 61) rfl ?_); refine goesL_ (some 30) rfl rfl Try.func61 (by kernel_rfl) rfl #[.pointer (some ⟨g, 0, none⟩), .slice Ao26 y359.length co26] rfl zT7 ?_; (with_reducible refine (spec_l1PickInt.calls g s0_0 t357 t358 _ _ y359 t362 t363 t364 w0 _ ?side1 ?side2 ?side3 ?side4 ?side5 A19.out).mono ?_); (case side1 => exact zB7_0); (case side2 => exact zB7_2); (case side3 => exact zC7 (Kd.R_reads' HO361.out).2.2); (case side4 => exact (Kd.R_reads' HO361.out).2.1); (case side5 => exact far_slice (IsS90.own_ne HI0.out HO361.out (by decide))); rintro e w27 ⟨rfl, hi, hb, hk⟩; refine ⟨_, rfl, ?_⟩; have n0_ := Aside0.mk (Kd.R_mono (Kd.R_keep (IsS90.apart (show IsS90 w0 _ g s0_0 t357 t358 from zB7_0) (zR7 HO_3.out) (by decide)) hk (fun _ h => h.2)) (fun _ h => h.1)); have n1_ := Aside0.mk (Kd.R_mono (Kd.R_keep (IsS90.apart (show IsS90 w0 _ g s0_0 t357 t358 from zB7_0) (zR7 HO361.out) (by decide)) hk (fun _ h => h.2)) (fun _ h => h.1)); have n2_ := Aside0.mk (KeepBut.trans (zB7_1) hk (.inl rfl)); have n3_ := Aside0.mk (hb); have n4_ := Aside0.mk (hi); clear HO_3; clear HO361; clear HK; clear HB; clear HI0; have HO_3 := n0_; have HO361 := n1_; have HK := n2_; have HB := n3_; have HI0 := n4_; clear n0_ n1_ n2_ n3_ n4_; (try clear hb); (try clear hb2); (try clear hk); (try clear hi)) | ((with_reducible refine gate_builtin (b := .append) (xs := #[.tmp 31, .tmp 33]) rfl ?_); at_builtin; refine Kd.R_append (Kd.int .i64) w.heap.size rfl (.tmp 31) (.tmp 33) 29 3 (.int .i64 0) 8 rfl Try.underlying29 info3 rfl (by decide) (by omega) u3 x3_1 t362 [.int .i64 t362] (fun k_ => some k_ ≠ (.slice Ao26 y359.length co26 : Value).ownBlock) (fun _ => False) rfl rfl ?aP (fun _ hk => hk.elim) ?aF ?aO (Below.refl _ _) ?aS ?aL ?_; (case aP => exact rfl); (case aF => exact (fun k_ hk => Kd.fresh' (Kd.R_lt (zR7 HO361.out)) k_ hk)); (case aO => exact (by (with_reducible repeat (first | apply Kd.R_alloc | apply Kd.R_drewN | apply Kd.R_drew)); exact Kd.R_mono HO_3.out (fun _ hk => hk.2))); (case aS => exact (keep_size (w := w) (g := g) (row := none) (zB7_1))); (case aL => have := LMc20.out; omega); intro v366 w28 ho hb hg hat; rw [← Ny365.out] at ho; have n0_ := Aside0.mk (IsS90.grown (show IsS90 w0 _ g s0_0 t363 t364 from zB7_0) hg (IsS90.own_ne HI0.out HO_3.out (by decide))); have n1_ := Aside0.mk (Kd.R_after (ok := (fun _ => True)) (zR7 HO361.out) hg hat); have n2_ := Aside0.mk (below_weaken (zB7_2) HL.out hb); have n3_ := Aside0.mk (KeepBut.trans (zB7_1) (KeepBut.of_grown hg g) (Kd.R_base2 HO_3.out)); have n4_ := Aside0.mk (ho); clear HI0; clear HO361; clear HB; clear HK; clear HO_3; have HI0 := n0_; have HO361 := n1_; have HB := n2_; have HK := n3_; have HO367 := n4_; clear n0_ n1_ n2_ n3_ n4_; clear ho hb hg hat))
    go_roundg k1
    case measure => have := HK1.out; omega
    case rel => exact ⟨(y365), (wrap64 (x4_1 + 1)), (t363), (t364), (by first | rfl | (simp; done) | (simp [*]; done)), H', ⟨by have := HK1.out; omega⟩, ⟨by (with_reducible repeat (first | apply Kd.R_alloc | apply Kd.R_drewN | apply Kd.R_drew)); exact Kd.R_mono HO367.out (fun _ hk => trivial)⟩, ⟨zB7_0⟩, ⟨zB7_1⟩, ⟨zB7_2⟩⟩
   rw [if_neg c4] at H
   have c4b0 : decide (x4_1 < 24) = false := decide_eq_false c4
   clear c4
   replace H := Option.bind_eq_some_iff.mp H
   obtain ⟨⟨t371, t372, t373⟩, A340, H⟩ := H
   replace H : (if t371 = 0 then (spec_l9DrawMem.l1 k1 x3_1 (([(⟨1, 1, 0, 0, 1⟩ : S71), (⟨6, 2, 0, 1, 20⟩ : S71), (⟨10, 3, 2, 1, 0⟩ : S71), (⟨8, 0, 0, 0, 1⟩ : S71)] : List (S71))) 0 s0_0 t372 t373) else (if t371 = 1 then (spec_l9DrawMem.l2 k1 x3_1 (([(⟨4, 1, 0, 0, 8⟩ : S71), (⟨3, 1, 1, 0, 1⟩ : S71), (⟨5, 0, 0, 1, 8⟩ : S71), (⟨8, 0, 0, 0, 8⟩ : S71)] : List (S71))) 0 s0_0 t372 t373) else (some (x3_1, t372, t373)))) = some (r1, r2, r3) := H
   have A34 := Aside0.mk A340
   clear A340
   by_cases c35 : t371 = 0
   ·rw [if_pos c35] at H
    have c35b0 : (t371 == 0) = true := beq_iff_eq.mpr c35
    have c35b1 : (t371 != 0) = false := bne_eq_false_iff_eq.mpr c35
    clear c35
    obtain ⟨y374, hy374⟩ : ∃ y_ : List (S71), y_ = (([(⟨1, 1, 0, 0, 1⟩ : S71), (⟨6, 2, 0, 1, 20⟩ : S71), (⟨10, 3, 2, 1, 0⟩ : S71), (⟨8, 0, 0, 0, 1⟩ : S71)] : List (S71))) := ⟨_, rfl⟩
    replace H : (spec_l9DrawMem.l1 k1 x3_1 y374 0 s0_0 t372 t373) = some (r1, r2, r3) := by first | (rw [hy374]; with_reducible exact H) | (have H2_ := (Option.bind_some _ _).symm.trans H; rw [hy374]; with_reducible exact H2_) | (have H2_ := (Option.bind_some _ _).symm.trans H; with_reducible exact H2_) | with_reducible exact H | (rw [hy374]; exact H) | exact H
    have Ny374 := Aside0.mk hy374
    clear hy374
    have H' := Aside0.mk H
    clear H
    go_wp2_with (first | ((with_reducible refine gate_callee (f := 42) rfl ?_); refine goesL_ (some 36) rfl rfl Try.func42 (by kernel_rfl) rfl #[.pointer (some ⟨g, 0, none⟩), .int .i64 4] rfl zT7 ?_; (with_reducible refine (spec_l1Below.calls g s0_0 x1001_1 x1002_1 4 t371 t372 t373 w0 _ ?side1 ?side2 A34.out).mono ?_); (case side1 => exact zB7_0); (case side2 => exact zB7_2); rintro e w36 ⟨rfl, hi, hb, hk⟩; refine ⟨_, rfl, ?_⟩; have n0_ := Aside0.mk (Kd.R_mono (Kd.R_keep (IsS90.apart (show IsS90 w0 _ g s0_0 x1001_1 x1002_1 from zB7_0) (zR7 HO_3.out) (by decide)) hk (fun _ h => h.2)) (fun _ h => h.1)); have n1_ := Aside0.mk (KeepBut.trans (zB7_1) hk (.inl rfl)); have n2_ := Aside0.mk (hb); have n3_ := Aside0.mk (hi); clear HO_3; clear HK; clear HB; clear HI0; have HO_3 := n0_; have HK := n1_; have HB := n2_; have HI0 := n3_; clear n0_ n1_ n2_ n3_; (try clear hb); (try clear hb2); (try clear hk); (try clear hi)) | ((with_reducible refine gate_dst (N := 43) rfl ?_); refine Kd.R_lit k71 _ 71 ?hg (N := 43) ?hd (xs := ([(⟨1, 1, 0, 0, 1⟩ : S71), (⟨6, 2, 0, 1, 20⟩ : S71), (⟨10, 3, 2, 1, 0⟩ : S71), (⟨8, 0, 0, 0, 1⟩ : S71)] : List (S71))) (inner := [.int .i64 1, .int .i64 1, .int .i64 0, .int .i64 0, .int .i64 1, .int .i64 6, .int .i64 2, .int .i64 0, .int .i64 1, .int .i64 20, .int .i64 10, .int .i64 3, .int .i64 2, .int .i64 1, .int .i64 0, .int .i64 8, .int .i64 0, .int .i64 0, .int .i64 0, .int .i64 1]) (ok := fun _ => True) (okp := fun _ => True) ?hr ?hp (fun _ hk => hk) trivial (Below.refl _ _) (Nat.le_refl _) (by simp) ?_; (case hd => rfl); (case hg => rfl); (case hr => first | (go_simp; done) | (go_simp; rfl)); (case hp => exact (Reps.c5 (show Kd.M k71 _ _ _ (⟨1, 1, 0, 0, 1⟩ : S71) [.int .i64 1, .int .i64 1, .int .i64 0, .int .i64 0, .int .i64 1] from (k71_mkM _ _ _ (⟨1, 1, 0, 0, 1⟩ : S71) )) (Reps.c5 (show Kd.M k71 _ _ _ (⟨6, 2, 0, 1, 20⟩ : S71) [.int .i64 6, .int .i64 2, .int .i64 0, .int .i64 1, .int .i64 20] from (k71_mkM _ _ _ (⟨6, 2, 0, 1, 20⟩ : S71) )) (Reps.c5 (show Kd.M k71 _ _ _ (⟨10, 3, 2, 1, 0⟩ : S71) [.int .i64 10, .int .i64 3, .int .i64 2, .int .i64 1, .int .i64 0] from (k71_mkM _ _ _ (⟨10, 3, 2, 1, 0⟩ : S71) )) (Reps.c5 (show Kd.M k71 _ _ _ (⟨8, 0, 0, 0, 1⟩ : S71) [.int .i64 8, .int .i64 0, .int .i64 0, .int .i64 0, .int .i64 1] from (k71_mkM _ _ _ (⟨8, 0, 0, 0, 1⟩ : S71) )) (Reps.none _ _)))))); intro v375 w37 ho38 hb hg_ hnew_; clear hg_ hnew_; (first | rw [← Ny374.out] at ho38 | (simp only [Int.reduceToNat] at ho38; rw [← Ny374.out] at ho38)); have n0_ := Aside0.mk (Kd.R_below (zR7 HO_3.out) hb); have n1_ := Aside0.mk (Kd.R_lower ho38 (keep_size (w := w) (g := g) (row := none) (zB7_1))); have n2_ := Aside0.mk (IsS90.below (zB7_0) hb); have n3_ := Aside0.mk (KeepBut.trans (zB7_1) (KeepBut.of_below hb g none) (.inl rfl)); have n4_ := Aside0.mk (below_step (zB7_2) hb); clear HO_3; clear HI0; clear HK; clear HB; have HO_3 := n0_; have HO376 := n1_; have HI0 := n2_; have HK := n3_; have HB := n4_; clear n0_ n1_ n2_ n3_ n4_; clear hb ho38))
    go_loopg [8] k1 (fun kq v8 w' => ∃ (x3_2 : List Int) (x8_2 : Int), v8 = .int .i64 x8_2 ∧ Aside0 (spec_l9DrawMem.l1 kq x3_2 y374 x8_2 s0_0 t372 t373 = some (r1, r2, r3)) ∧ Aside0 (kq ≤ k1) ∧ Aside0 (Kd.R (Kd.int .i64) 3 w' w.heap.size (fun _ => True) u3 x3_2) ∧ Aside0 (Kd.R k71 71 w' w.heap.size (fun _ => True) v375 y374) ∧ Aside0 (IsS90 w0 w' g s0_0 t372 t373) ∧ Aside0 (KeepBut w w' g none) ∧ Aside0 (Below w0.heap.size w0 w'))
    case atStart => exact ⟨(x3_1), (0), (by first | rfl | (simp; done) | (simp [*]; done)), H', ⟨Nat.le_refl _⟩, ⟨zR7 HO_3.out⟩, ⟨zR7 HO376.out⟩, ⟨zB7_0⟩, ⟨zB7_1⟩, ⟨zB7_2⟩⟩
    case round =>
     clear H'
     try clear c1
     try clear c2
     try clear p2
     try clear c3
     try clear c4
     try clear c4b0
     try clear c5
     try clear c6
     try clear p6
     try clear c7
     try clear c7b0
     try clear c8
     try clear c9
     try clear c18
     try clear c20
     try clear c29
     try clear c35
     try clear c35b0
     try clear c35b1
     try clear p2
     obtain ⟨x3_2, x8_2, rfl, HA, HK2, HO_3, HO_7, HI0, HK, HB⟩ := hrel
     cases gk with
     | zero => exact absurd HA.out (by simp [spec_l9DrawMem.l1])
     | succ k2 =>
      have H := HA.out
      clear HA
      simp only [spec_l9DrawMem.l1] at H
      by_cases c39 : x8_2 < (y374.length : Int)
      rotate_left
      ·rw [if_neg c39] at H
       have c39b0 : decide (x8_2 < (y374.length : Int)) = false := decide_eq_false c39
       clear c39
       simp only [Option.some.injEq, Prod.mk.injEq] at H
       obtain ⟨rfl, rfl, rfl⟩ := H
       obtain ⟨Ao48, co48, eo48⟩ := Kd.R_slice HO_7.out
       subst eo48
       go_wp2
       go_ret
       exact ⟨_, zE7, zR7 HO_3.out, zB7_0, zB7_2, zB7_1⟩
      rw [if_pos c39] at H
      have c39b0 : decide (x8_2 < (y374.length : Int)) = true := decide_eq_true c39
      clear c39
      by_cases c40 : 0 ≤ x8_2
      rotate_left
      ·rw [if_neg c40] at H
       exact absurd H (by simp)
      rw [if_pos c40] at H
      have c40b0 : decide (0 ≤ x8_2) = true := decide_eq_true c40
      clear c40
      replace H := Option.bind_eq_some_iff.mp H
      obtain ⟨⟨t378, t379⟩, A410, H⟩ := H
      replace H : (if x8_2 < (x3_2.length : Int) then (spec_l9DrawMem.l1 k2 (x3_2.set (x8_2 : Int).toNat t378) y374 (wrap64 (x8_2 + 1)) s0_0 t372 t373) else (none)) = some (r1, r2, r3) := H
      have A41 := Aside0.mk A410
      clear A410
      by_cases c42 : x8_2 < (x3_2.length : Int)
      rotate_left
      ·rw [if_neg c42] at H
       exact absurd H (by simp)
      rw [if_pos c42] at H
      have c42b0 : decide (x8_2 < (x3_2.length : Int)) = true := decide_eq_true c42
      clear c42
      obtain ⟨y380, hy380⟩ : ∃ y_ : List Int, y_ = (x3_2.set (x8_2 : Int).toNat t378) := ⟨_, rfl⟩
      replace H : (spec_l9DrawMem.l1 k2 y380 y374 (wrap64 (x8_2 + 1)) s0_0 t372 t373) = some (r1, r2, r3) := by first | (rw [hy380]; with_reducible exact H) | (have H2_ := (Option.bind_some _ _).symm.trans H; rw [hy380]; with_reducible exact H2_) | (have H2_ := (Option.bind_some _ _).symm.trans H; with_reducible exact H2_) | with_reducible exact H | (rw [hy380]; exact H) | exact H
      have Ny380 := Aside0.mk hy380
      clear hy380
      have H' := Aside0.mk H
      clear H
      obtain ⟨Ao44, co44, eo44⟩ := Kd.R_slice HO_7.out
      subst eo44
      have p377 : 0 ≤ (x8_2 : Int) := zA7
      have q377 : x8_2 < (y374.length : Int) := zA7
      obtain ⟨ad377, e377, hx377_0, hx377_1, hx377_2, hx377_3, hx377_4⟩ := at_T71 (Kd.R_reads' HO_7.out).2.2 x8_2 p377 q377
      cases e377
      replace p377 := eq_true p377
      replace q377 := eq_true q377
      go_wp2_with (first | ((with_reducible refine gate_callee (f := 91) rfl ?_); refine goesL_ (some 57) rfl rfl Try.func91 (by kernel_rfl) rfl #[.agg #[.int .i64 ((rd_T71 y374 x8_2).f0), .int .i64 ((rd_T71 y374 x8_2).f1), .int .i64 ((rd_T71 y374 x8_2).f2), .int .i64 ((rd_T71 y374 x8_2).f3), .int .i64 ((rd_T71 y374 x8_2).f4)]] rfl zT7 ?_; (with_reducible refine (spec_Code.calls ((rd_T71 y374 x8_2).f0) ((rd_T71 y374 x8_2).f1) ((rd_T71 y374 x8_2).f2) ((rd_T71 y374 x8_2).f3) ((rd_T71 y374 x8_2).f4) t378 t379 _ A41.out).mono ?_); rintro e w45 ⟨rfl, hb⟩; refine ⟨_, rfl, ?_⟩; have n0_ := Aside0.mk (Kd.R_below (zR7 HO_3.out) hb); have n1_ := Aside0.mk (Kd.R_below (zR7 HO_7.out) hb); have n2_ := Aside0.mk (IsS90.below (zB7_0) hb); have n3_ := Aside0.mk (KeepBut.trans (zB7_1) (KeepBut.of_below hb g none) (.inl rfl)); have n4_ := Aside0.mk (below_step (zB7_2) hb); clear HO_3; clear HO_7; clear HI0; clear HK; clear HB; have HO_3 := n0_; have HO_7 := n1_; have HI0 := n2_; have HK := n3_; have HB := n4_; clear n0_ n1_ n2_ n3_ n4_; (try clear hb); (try clear hb2); (try clear hk); (try clear hi); have p43 : 0 ≤ (x8_2 : Int) := zA7; have q43 : (x8_2 : Int) < ((x3_2.length : Int) : Int) := zA7; obtain ⟨go43, co43, eo43, gb43, gl43, cl43, HG43⟩ := Kd.R_form HO_3.out (by omega); (first | cases eo43 | (injection eo43 with ea_ en_ ec_; (first | subst ea_ | (injection ea_ with ea_; subst ea_)); subst ec_; clear en_)); have GB43 := Aside0.mk gb43; have GG43 := Aside0.mk HG43; clear gb43 gl43 HG43; obtain ⟨hx43_0, hf43_0⟩ := Kd.R_celln 0 HO_3.out (x8_2 : Int) p43 q43; replace p43 := eq_true p43; replace q43 := eq_true q43; obtain ⟨hy46_, hz46_⟩ := Kd.R_celln 0 HO_3.out (x8_2 : Int) (zA7) (zA7); have HP46 := Kd.R_putg HO_3.out (x8_2 : Int) t378) | ((with_reducible refine gate_store (t := 3) (p := 60) rfl ?_); refine store_event (t := 3) (p := 60) (v := ?vo_w47) (w1 := (w45.setCell ⟨go43, (x8_2 : Int).toNat, none⟩ (.int .i64 t378))) ?hg ?ho ?hn ?hr ?_; (case ho => rfl); (case hg => rfl); (case hn => rfl); (case hr => first | (go_simp; done) | (go_simp; rfl)); intro w47 hw; have hg : w45.grownBy w47 (some go43) := (by rw [hw]; exact HP46.2); have hp_ : Kd.R (Kd.int .i64) 3 w47 w.heap.size (fun _ => True) (.slice (some ⟨go43, 0, none⟩) x3_2.length co43) y380 := (by rw [hw, Ny380.out]; exact HP46.1); clear HP46; have n0_ := Aside0.mk (hp_); have n1_ := Aside0.mk (Kd.R_over' (v := (.slice (some ⟨go43, 0, none⟩) x3_2.length co43)) (zR7 HO_7.out) (Kd.R_typed HO_3.out) (by decide) hg); have n2_ := Aside0.mk (IsS90.grown (zB7_0) hg (IsS90.own_ne HI0.out HO_3.out (by decide))); have n3_ := Aside0.mk ((by rw [hw]; exact below_set (HB.out) (Nat.le_trans HL.out GB43.out) : Below w0.heap.size w0 w47)); have n4_ := Aside0.mk (KeepBut.trans (zB7_1) (KeepBut.of_grown hg g) (Kd.R_base2 HO_3.out)); clear HO_3; clear HO_7; clear HI0; clear HB; clear HK; have HO_3 := n0_; have HO_7 := n1_; have HI0 := n2_; have HB := n3_; have HK := n4_; clear n0_ n1_ n2_ n3_ n4_; clear hg hw hp_))
      go_roundg k2
      case measure => have := HK1.out; have := HK2.out; omega
      case rel => exact ⟨(y380), (wrap64 (x8_2 + 1)), (by first | rfl | (simp; done) | (simp [*]; done)), H', ⟨by have := HK1.out; have := HK2.out; omega⟩, ⟨zR7 HO_3.out⟩, ⟨zR7 HO_7.out⟩, ⟨zB7_0⟩, ⟨zB7_1⟩, ⟨zB7_2⟩⟩
   rw [if_neg c35] at H
   have c35b0 : (t371 == 0) = false := beq_eq_false_iff_ne.mpr c35
   have c35b1 : (t371 != 0) = true := bne_iff_ne.mpr c35
   by_cases c49 : t371 = 1
   rotate_left
   ·rw [if_neg c49] at H
    have c49b0 : (t371 == 1) = false := beq_eq_false_iff_ne.mpr c49
    have c49b1 : (t371 != 1) = true := bne_iff_ne.mpr c49
    simp only [Option.some.injEq, Prod.mk.injEq] at H
    obtain ⟨rfl, rfl, rfl⟩ := H
    go_wp2_with (first | ((with_reducible refine gate_callee (f := 42) rfl ?_); refine goesL_ (some 36) rfl rfl Try.func42 (by kernel_rfl) rfl #[.pointer (some ⟨g, 0, none⟩), .int .i64 4] rfl zT7 ?_; (with_reducible refine (spec_l1Below.calls g s0_0 x1001_1 x1002_1 4 t371 t372 t373 w0 _ ?side1 ?side2 A34.out).mono ?_); (case side1 => exact zB7_0); (case side2 => exact zB7_2); rintro e w63 ⟨rfl, hi, hb, hk⟩; refine ⟨_, rfl, ?_⟩; have n0_ := Aside0.mk (Kd.R_mono (Kd.R_keep (IsS90.apart (show IsS90 w0 _ g s0_0 x1001_1 x1002_1 from zB7_0) (zR7 HO_3.out) (by decide)) hk (fun _ h => h.2)) (fun _ h => h.1)); have n1_ := Aside0.mk (KeepBut.trans (zB7_1) hk (.inl rfl)); have n2_ := Aside0.mk (hb); have n3_ := Aside0.mk (hi); clear HO_3; clear HK; clear HB; clear HI0; have HO_3 := n0_; have HK := n1_; have HB := n2_; have HI0 := n3_; clear n0_ n1_ n2_ n3_; (try clear hb); (try clear hb2); (try clear hk); (try clear hi)))
    go_ret
    exact ⟨_, zE7, zR7 HO_3.out, zB7_0, zB7_2, zB7_1⟩
   rw [if_pos c49] at H
   have c49b0 : (t371 == 1) = true := beq_iff_eq.mpr c49
   have c49b1 : (t371 != 1) = false := bne_eq_false_iff_eq.mpr c49
   clear c49
   obtain ⟨y381, hy381⟩ : ∃ y_ : List (S71), y_ = (([(⟨4, 1, 0, 0, 8⟩ : S71), (⟨3, 1, 1, 0, 1⟩ : S71), (⟨5, 0, 0, 1, 8⟩ : S71), (⟨8, 0, 0, 0, 8⟩ : S71)] : List (S71))) := ⟨_, rfl⟩
   replace H : (spec_l9DrawMem.l2 k1 x3_1 y381 0 s0_0 t372 t373) = some (r1, r2, r3) := by first | (rw [hy381]; with_reducible exact H) | (have H2_ := (Option.bind_some _ _).symm.trans H; rw [hy381]; with_reducible exact H2_) | (have H2_ := (Option.bind_some _ _).symm.trans H; with_reducible exact H2_) | with_reducible exact H | (rw [hy381]; exact H) | exact H
   have Ny381 := Aside0.mk hy381
   clear hy381
   have H' := Aside0.mk H
   clear H
   go_wp2_with (first | ((with_reducible refine gate_callee (f := 42) rfl ?_); refine goesL_ (some 36) rfl rfl Try.func42 (by kernel_rfl) rfl #[.pointer (some ⟨g, 0, none⟩), .int .i64 4] rfl zT7 ?_; (with_reducible refine (spec_l1Below.calls g s0_0 x1001_1 x1002_1 4 t371 t372 t373 w0 _ ?side1 ?side2 A34.out).mono ?_); (case side1 => exact zB7_0); (case side2 => exact zB7_2); rintro e w50 ⟨rfl, hi, hb, hk⟩; refine ⟨_, rfl, ?_⟩; have n0_ := Aside0.mk (Kd.R_mono (Kd.R_keep (IsS90.apart (show IsS90 w0 _ g s0_0 x1001_1 x1002_1 from zB7_0) (zR7 HO_3.out) (by decide)) hk (fun _ h => h.2)) (fun _ h => h.1)); have n1_ := Aside0.mk (KeepBut.trans (zB7_1) hk (.inl rfl)); have n2_ := Aside0.mk (hb); have n3_ := Aside0.mk (hi); clear HO_3; clear HK; clear HB; clear HI0; have HO_3 := n0_; have HK := n1_; have HB := n2_; have HI0 := n3_; clear n0_ n1_ n2_ n3_; (try clear hb); (try clear hb2); (try clear hk); (try clear hi)) | ((with_reducible refine gate_dst (N := 67) rfl ?_); refine Kd.R_lit k71 _ 71 ?hg (N := 67) ?hd (xs := ([(⟨4, 1, 0, 0, 8⟩ : S71), (⟨3, 1, 1, 0, 1⟩ : S71), (⟨5, 0, 0, 1, 8⟩ : S71), (⟨8, 0, 0, 0, 8⟩ : S71)] : List (S71))) (inner := [.int .i64 4, .int .i64 1, .int .i64 0, .int .i64 0, .int .i64 8, .int .i64 3, .int .i64 1, .int .i64 1, .int .i64 0, .int .i64 1, .int .i64 5, .int .i64 0, .int .i64 0, .int .i64 1, .int .i64 8, .int .i64 8, .int .i64 0, .int .i64 0, .int .i64 0, .int .i64 8]) (ok := fun _ => True) (okp := fun _ => True) ?hr ?hp (fun _ hk => hk) trivial (Below.refl _ _) (Nat.le_refl _) (by simp) ?_; (case hd => rfl); (case hg => rfl); (case hr => first | (go_simp; done) | (go_simp; rfl)); (case hp => exact (Reps.c5 (show Kd.M k71 _ _ _ (⟨4, 1, 0, 0, 8⟩ : S71) [.int .i64 4, .int .i64 1, .int .i64 0, .int .i64 0, .int .i64 8] from (k71_mkM _ _ _ (⟨4, 1, 0, 0, 8⟩ : S71) )) (Reps.c5 (show Kd.M k71 _ _ _ (⟨3, 1, 1, 0, 1⟩ : S71) [.int .i64 3, .int .i64 1, .int .i64 1, .int .i64 0, .int .i64 1] from (k71_mkM _ _ _ (⟨3, 1, 1, 0, 1⟩ : S71) )) (Reps.c5 (show Kd.M k71 _ _ _ (⟨5, 0, 0, 1, 8⟩ : S71) [.int .i64 5, .int .i64 0, .int .i64 0, .int .i64 1, .int .i64 8] from (k71_mkM _ _ _ (⟨5, 0, 0, 1, 8⟩ : S71) )) (Reps.c5 (show Kd.M k71 _ _ _ (⟨8, 0, 0, 0, 8⟩ : S71) [.int .i64 8, .int .i64 0, .int .i64 0, .int .i64 0, .int .i64 8] from (k71_mkM _ _ _ (⟨8, 0, 0, 0, 8⟩ : S71) )) (Reps.none _ _)))))); intro v382 w51 ho52 hb hg_ hnew_; clear hg_ hnew_; (first | rw [← Ny381.out] at ho52 | (simp only [Int.reduceToNat] at ho52; rw [← Ny381.out] at ho52)); have n0_ := Aside0.mk (Kd.R_below (zR7 HO_3.out) hb); have n1_ := Aside0.mk (Kd.R_lower ho52 (keep_size (w := w) (g := g) (row := none) (zB7_1))); have n2_ := Aside0.mk (IsS90.below (zB7_0) hb); have n3_ := Aside0.mk (KeepBut.trans (zB7_1) (KeepBut.of_below hb g none) (.inl rfl)); have n4_ := Aside0.mk (below_step (zB7_2) hb); clear HO_3; clear HI0; clear HK; clear HB; have HO_3 := n0_; have HO383 := n1_; have HI0 := n2_; have HK := n3_; have HB := n4_; clear n0_ n1_ n2_ n3_ n4_; clear hb ho52))
   go_loopg [10] k1 (fun kq v10 w' => ∃ (x3_2 : List Int) (x10_2 : Int), v10 = .int .i64 x10_2 ∧ Aside0 (spec_l9DrawMem.l2 kq x3_2 y381 x10_2 s0_0 t372 t373 = some (r1, r2, r3)) ∧ Aside0 (kq ≤ k1) ∧ Aside0 (Kd.R (Kd.int .i64) 3 w' w.heap.size (fun _ => True) u3 x3_2) ∧ Aside0 (Kd.R k71 71 w' w.heap.size (fun _ => True) v382 y381) ∧ Aside0 (IsS90 w0 w' g s0_0 t372 t373) ∧ Aside0 (KeepBut w w' g none) ∧ Aside0 (Below w0.heap.size w0 w'))
   case atStart => exact ⟨(x3_1), (0), (by first | rfl | (simp; done) | (simp [*]; done)), H', ⟨Nat.le_refl _⟩, ⟨zR7 HO_3.out⟩, ⟨zR7 HO383.out⟩, ⟨zB7_0⟩, ⟨zB7_1⟩, ⟨zB7_2⟩⟩
   case round =>
    clear H'
    try clear c1
    try clear c2
    try clear p2
    try clear c3
    try clear p3
    try clear q3
    try clear hx3
    try clear c4
    try clear c4b0
    try clear p4
    try clear q4
    try clear hx4
    try clear hf4
    try clear c5
    try clear c6
    try clear p6
    try clear c7
    try clear c7b0
    try clear c8
    try clear c9
    try clear c18
    try clear c20
    try clear c29
    try clear c35
    try clear c35b0
    try clear c35b1
    try clear p37
    try clear q37
    try clear hx37
    try clear c39
    try clear c39b0
    try clear c40
    try clear c40b0
    try clear c42
    try clear c42b0
    try clear p43
    try clear q43
    try clear hx43
    try clear hf43
    try clear c49
    try clear c49b0
    try clear c49b1
    try clear hx377_0
    try clear hx377_1
    try clear hx377_2
    try clear hx377_3
    try clear hx377_4
    try clear hx43_0
    try clear p2
    try clear p377
    try clear p43
    try clear p6
    try clear q377
    try clear q43
    obtain ⟨x3_2, x10_2, rfl, HA, HK2, HO_3, HO_9, HI0, HK, HB⟩ := hrel
    cases gk with
    | zero => exact absurd HA.out (by simp [spec_l9DrawMem.l2])
    | succ k2 =>
     have H := HA.out
     clear HA
     simp only [spec_l9DrawMem.l2] at H
     by_cases c53 : x10_2 < (y381.length : Int)
     rotate_left
     ·rw [if_neg c53] at H
      have c53b0 : decide (x10_2 < (y381.length : Int)) = false := decide_eq_false c53
      clear c53
      simp only [Option.some.injEq, Prod.mk.injEq] at H
      obtain ⟨rfl, rfl, rfl⟩ := H
      obtain ⟨Ao62, co62, eo62⟩ := Kd.R_slice HO_9.out
      subst eo62
      go_wp2
      go_ret
      exact ⟨_, zE7, zR7 HO_3.out, zB7_0, zB7_2, zB7_1⟩
     rw [if_pos c53] at H
     have c53b0 : decide (x10_2 < (y381.length : Int)) = true := decide_eq_true c53
     clear c53
     by_cases c54 : 0 ≤ x10_2
     rotate_left
     ·rw [if_neg c54] at H
      exact absurd H (by simp)
     rw [if_pos c54] at H
     have c54b0 : decide (0 ≤ x10_2) = true := decide_eq_true c54
     clear c54
     replace H := Option.bind_eq_some_iff.mp H
     obtain ⟨⟨t385, t386⟩, A550, H⟩ := H
     replace H : (if x10_2 < (x3_2.length : Int) then (spec_l9DrawMem.l2 k2 (x3_2.set (x10_2 : Int).toNat t385) y381 (wrap64 (x10_2 + 1)) s0_0 t372 t373) else (none)) = some (r1, r2, r3) := H
     have A55 := Aside0.mk A550
     clear A550
     by_cases c56 : x10_2 < (x3_2.length : Int)
     rotate_left
     ·rw [if_neg c56] at H
      exact absurd H (by simp)
     rw [if_pos c56] at H
     have c56b0 : decide (x10_2 < (x3_2.length : Int)) = true := decide_eq_true c56
     clear c56
     obtain ⟨y387, hy387⟩ : ∃ y_ : List Int, y_ = (x3_2.set (x10_2 : Int).toNat t385) := ⟨_, rfl⟩
     replace H : (spec_l9DrawMem.l2 k2 y387 y381 (wrap64 (x10_2 + 1)) s0_0 t372 t373) = some (r1, r2, r3) := by first | (rw [hy387]; with_reducible exact H) | (have H2_ := (Option.bind_some _ _).symm.trans H; rw [hy387]; with_reducible exact H2_) | (have H2_ := (Option.bind_some _ _).symm.trans H; with_reducible exact H2_) | with_reducible exact H | (rw [hy387]; exact H) | exact H
     have Ny387 := Aside0.mk hy387
     clear hy387
     have H' := Aside0.mk H
     clear H
     obtain ⟨Ao58, co58, eo58⟩ := Kd.R_slice HO_9.out
     subst eo58
     have p384 : 0 ≤ (x10_2 : Int) := zA7
     have q384 : x10_2 < (y381.length : Int) := zA7
     obtain ⟨ad384, e384, hx384_0, hx384_1, hx384_2, hx384_3, hx384_4⟩ := at_T71 (Kd.R_reads' HO_9.out).2.2 x10_2 p384 q384
     cases e384
     replace p384 := eq_true p384
     replace q384 := eq_true q384
     go_wp2_with (first | ((with_reducible refine gate_callee (f := 91) rfl ?_); refine goesL_ (some 81) rfl rfl Try.func91 (by kernel_rfl) rfl #[.agg #[.int .i64 ((rd_T71 y381 x10_2).f0), .int .i64 ((rd_T71 y381 x10_2).f1), .int .i64 ((rd_T71 y381 x10_2).f2), .int .i64 ((rd_T71 y381 x10_2).f3), .int .i64 ((rd_T71 y381 x10_2).f4)]] rfl zT7 ?_; (with_reducible refine (spec_Code.calls ((rd_T71 y381 x10_2).f0) ((rd_T71 y381 x10_2).f1) ((rd_T71 y381 x10_2).f2) ((rd_T71 y381 x10_2).f3) ((rd_T71 y381 x10_2).f4) t385 t386 _ A55.out).mono ?_); rintro e w59 ⟨rfl, hb⟩; refine ⟨_, rfl, ?_⟩; have n0_ := Aside0.mk (Kd.R_below (zR7 HO_3.out) hb); have n1_ := Aside0.mk (Kd.R_below (zR7 HO_9.out) hb); have n2_ := Aside0.mk (IsS90.below (zB7_0) hb); have n3_ := Aside0.mk (KeepBut.trans (zB7_1) (KeepBut.of_below hb g none) (.inl rfl)); have n4_ := Aside0.mk (below_step (zB7_2) hb); clear HO_3; clear HO_9; clear HI0; clear HK; clear HB; have HO_3 := n0_; have HO_9 := n1_; have HI0 := n2_; have HK := n3_; have HB := n4_; clear n0_ n1_ n2_ n3_ n4_; (try clear hb); (try clear hb2); (try clear hk); (try clear hi); have p57 : 0 ≤ (x10_2 : Int) := zA7; have q57 : (x10_2 : Int) < ((x3_2.length : Int) : Int) := zA7; obtain ⟨go57, co57, eo57, gb57, gl57, cl57, HG57⟩ := Kd.R_form HO_3.out (by omega); (first | cases eo57 | (injection eo57 with ea_ en_ ec_; (first | subst ea_ | (injection ea_ with ea_; subst ea_)); subst ec_; clear en_)); have GB57 := Aside0.mk gb57; have GG57 := Aside0.mk HG57; clear gb57 gl57 HG57; obtain ⟨hx57_0, hf57_0⟩ := Kd.R_celln 0 HO_3.out (x10_2 : Int) p57 q57; replace p57 := eq_true p57; replace q57 := eq_true q57; obtain ⟨hy60_, hz60_⟩ := Kd.R_celln 0 HO_3.out (x10_2 : Int) (zA7) (zA7); have HP60 := Kd.R_putg HO_3.out (x10_2 : Int) t385) | ((with_reducible refine gate_store (t := 3) (p := 84) rfl ?_); refine store_event (t := 3) (p := 84) (v := ?vo_w61) (w1 := (w59.setCell ⟨go57, (x10_2 : Int).toNat, none⟩ (.int .i64 t385))) ?hg ?ho ?hn ?hr ?_; (case ho => rfl); (case hg => rfl); (case hn => rfl); (case hr => first | (go_simp; done) | (go_simp; rfl)); intro w61 hw; have hg : w59.grownBy w61 (some go57) := (by rw [hw]; exact HP60.2); have hp_ : Kd.R (Kd.int .i64) 3 w61 w.heap.size (fun _ => True) (.slice (some ⟨go57, 0, none⟩) x3_2.length co57) y387 := (by rw [hw, Ny387.out]; exact HP60.1); clear HP60; have n0_ := Aside0.mk (hp_); have n1_ := Aside0.mk (Kd.R_over' (v := (.slice (some ⟨go57, 0, none⟩) x3_2.length co57)) (zR7 HO_9.out) (Kd.R_typed HO_3.out) (by decide) hg); have n2_ := Aside0.mk (IsS90.grown (zB7_0) hg (IsS90.own_ne HI0.out HO_3.out (by decide))); have n3_ := Aside0.mk ((by rw [hw]; exact below_set (HB.out) (Nat.le_trans HL.out GB57.out) : Below w0.heap.size w0 w61)); have n4_ := Aside0.mk (KeepBut.trans (zB7_1) (KeepBut.of_grown hg g) (Kd.R_base2 HO_3.out)); clear HO_3; clear HO_9; clear HI0; clear HB; clear HK; have HO_3 := n0_; have HO_9 := n1_; have HI0 := n2_; have HB := n3_; have HK := n4_; clear n0_ n1_ n2_ n3_ n4_; clear hg hw hp_))
     go_roundg k2
     case measure => have := HK1.out; have := HK2.out; omega
     case rel => exact ⟨(y387), (wrap64 (x10_2 + 1)), (by first | rfl | (simp; done) | (simp [*]; done)), H', ⟨by have := HK1.out; have := HK2.out; omega⟩, ⟨zR7 HO_3.out⟩, ⟨zR7 HO_9.out⟩, ⟨zB7_0⟩, ⟨zB7_1⟩, ⟨zB7_2⟩⟩

end Go.Proofs.Ytgbjengnkbomoaa.PFnByHart
