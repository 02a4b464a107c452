-- made by wip/tools/myprint.py out of the seat's translation
import Derived.Test.YtnekcbajadnldaaPFnMemTextsx0
import Derived.Test.YtnekcbajadnldaaPFnMemTextsx1
namespace Go.Proofs.Ytnekcbajadnldaa.PFnMemTexts
open Go.RowKit Go.Proofs.YtnekcbajadnldaaW.PrintWords Go.Proofs.YtnekcbajadnldaaW.PrintLast Go.Proofs.YtnekcbajadnldaaW.PrintMore
attribute [local go_sem] max2_int min2_int max_two min_two max_three min_three max_four min_four   -- for this text's walks alone
set_option linter.unusedVariables false
set_option linter.unusedSimpArgs false
theorem zc2_5 {w : World} {g : Nat} {a0 a1 a2 a3 a4 : Value} {t : TypeId} (h : w.heap[g]? = some (.cells #[a0, a1, a2, a3, a4] t (0, 0))) : w.cell? ⟨g, 0, none⟩ = some a0 ∧ w.cell? ⟨g, 1, none⟩ = some a1 ∧ w.cell? ⟨g, 2, none⟩ = some a2 ∧ w.cell? ⟨g, 3, none⟩ = some a3 ∧ w.cell? ⟨g, 4, none⟩ = some a4 ∧ w.frozen? ⟨g, 0, none⟩ = false ∧ w.frozen? ⟨g, 1, none⟩ = false ∧ w.frozen? ⟨g, 2, none⟩ = false ∧ w.frozen? ⟨g, 3, none⟩ = false ∧ w.frozen? ⟨g, 4, none⟩ = false := ⟨(blk_cell h 0).trans rfl, (blk_cell h 1).trans rfl, (blk_cell h 2).trans rfl, (blk_cell h 3).trans rfl, (blk_cell h 4).trans rfl, blk_frozen h 0, blk_frozen h 1, blk_frozen h 2, blk_frozen h 3, blk_frozen h 4⟩
theorem zR2 {p q : Prop} (x : q) (h : q → p := by intro h; (with_reducible repeat (first | apply Kd.R_alloc | apply Kd.R_drewN | apply Kd.R_drew)); exact h) : p := h x
theorem zK2 {p q : Prop} (x : q) (h : q → p := by intro h; (with_reducible repeat (first | refine blk_drewN ?_ _ | refine blk_drew ?_ | refine blk_alloc ?_ _)); exact h) : p := h x
theorem zA2 {p : Prop} [Decidable p] (h : decide p = true := by first | (with_reducible assumption) | assumption) : p := of_decide_eq_true h
theorem zT2 {p : Prop} (h : p := by (try simp only [List.map_toArray, List.map_cons, List.map_nil]); first | done | rfl | (simp only [List.length_drop, List.length_take]; rfl)) : p := h
theorem zC2 {p q : Prop} (x : q) (h : q → p := by intro h; repeat (first | exact h | (with_reducible refine Kd.C_alloc ?_ _) | (with_reducible refine Kd.C_drewN ?_ _) | (with_reducible refine Kd.C_drew ?_))) : p := h x
theorem zb2 {W w w1 : World} {g : Nat} {o : Obj} (x : W.heap[g]? = some o) (hb : Below w.heap.size w w1) (h : W.heap[g]? = some o → w.heap[g]? = some o := by intro h; (with_reducible repeat (first | refine blk_drewN ?_ _ | refine blk_drew ?_ | refine blk_alloc ?_ _)); exact h) : w1.heap[g]? = some o := blk_below (h x) hb
theorem zh2 {W w w1 : World} {g g' : Nat} {o : Obj} (hk : KeepBut w w1 g none) (x : W.heap[g']? = some o) (hn : g' ≠ g) (h : W.heap[g']? = some o → w.heap[g']? = some o := by intro h; (with_reducible repeat (first | refine blk_drewN ?_ _ | refine blk_drew ?_ | refine blk_alloc ?_ _)); exact h) : w1.heap[g']? = some o := KeepBut.blk hk (h x) hn (by simp)
theorem zn2 {W w : World} {g g' : Nat} {o : Obj} (x : W.heap[g]? = some o) (hg : g' = w.heap.size) (h : W.heap[g]? = some o → w.heap[g]? = some o := by intro h; (with_reducible repeat (first | refine blk_drewN ?_ _ | refine blk_drew ?_ | refine blk_alloc ?_ _)); exact h) : g ≠ g' := by rw [hg]; exact Nat.ne_of_lt (blk_lt (h x))
theorem zm2 {W w : World} {g g' : Nat} {o : Obj} (x : W.heap[g]? = some o) (hg : g' = w.heap.size) (h : W.heap[g]? = some o → w.heap[g]? = some o := by intro h; (with_reducible repeat (first | refine blk_drewN ?_ _ | refine blk_drew ?_ | refine blk_alloc ?_ _)); exact h) : g' ≠ g := by rw [hg]; exact Nat.ne_of_gt (blk_lt (h x))
theorem zP2 {p q : Prop} (x : q) (h : q → p := by intro h; (with_reducible repeat (first | refine blk_drewN ?_ _ | refine blk_drew ?_ | refine blk_alloc ?_ _)); exact h) : p := h x
theorem zE2 {p : Prop} (h : p := by first | rfl | (simp [errW_none, errW_some] <;> rfl) | (simp [*, errW_none, errW_some] <;> rfl)) : p := h
theorem zB2_0 {p : Prop} (h : p := by repeat (first | (with_reducible first | exact HI0.out | apply IsS161.alloc | apply IsS161.drewN | apply IsS161.drew | apply IsS161.set_1 | apply IsS161.set_2) | exact HI0.out)) : p := h
theorem zB2_1 {p : Prop} (h : p := by repeat (first | (with_reducible first | exact HK.out | apply KeepBut.set_ | apply keep_drewN | apply keep_drew | apply keep_alloc) | exact HK.out)) : p := h
theorem zB2_2 {p : Prop} (h : p := by repeat (first | (with_reducible first | exact HB.out | apply below_alloc | apply pw_below_drewN | apply below_drew1 | refine below_set ?_ (IsS161.ge HI0.out)) | exact HB.out)) : p := h
theorem zB2_3 {p : Prop} (h : p := by repeat (first | (with_reducible first | exact HK.out | apply KeepBut.set_ | apply keep_drewN | apply keep_drew | apply keep_alloc | refine keep_far ?_ GW144.out _) | exact HK.out)) : p := h
theorem zB2_4 {p : Prop} (h : p := by repeat (first | (with_reducible first | exact HI0.out | apply IsS161.alloc | apply IsS161.drewN | apply IsS161.drew | apply IsS161.set_1 | apply IsS161.set_2 | refine IsS161.far ?_ NB0_144.out _) | exact HI0.out)) : p := h
theorem zB2_5 {p : Prop} (h : p := by repeat (first | (with_reducible first | exact HB.out | apply below_alloc | apply pw_below_drewN | apply below_drew1 | refine below_set ?_ (IsS161.ge HI0.out) | refine below_set ?_ GE144.out) | exact HB.out)) : p := h
theorem zB2_6 {p : Prop} (h : p := by repeat (first | (with_reducible first | exact HI0.out | apply IsS161.alloc | apply IsS161.drewN | apply IsS161.drew | apply IsS161.set_1 | apply IsS161.set_2 | refine IsS161.far ?_ NB0_144.out _ | refine IsS161.far ?_ NB0_151.out _) | exact HI0.out)) : p := h
theorem zB2_7 {p : Prop} (h : p := by repeat (first | (with_reducible first | exact HK.out | apply KeepBut.set_ | apply keep_drewN | apply keep_drew | apply keep_alloc | refine keep_far ?_ GW144.out _ | refine keep_far ?_ GW151.out _) | exact HK.out)) : p := h
theorem zB2_8 {p : Prop} (h : p := by repeat (first | (with_reducible first | exact HB.out | apply below_alloc | apply pw_below_drewN | apply below_drew1 | refine below_set ?_ (IsS161.ge HI0.out) | refine below_set ?_ GE144.out | refine below_set ?_ GE151.out) | exact HB.out)) : p := h

/-! ### spec_l8DrawIns: function 156 -/
mutual
def spec_l8DrawIns.j0 : Nat → Int → List Int → Int → Int → Int → Int → Int → Int → Int → Option (Int × Int × Int × Int × Int × Int × Int)
 | 0, _, _, _, _, _, _, _, _, _ => none
 | k + 1, x4, x1000, x1001, x1002, x152000, x152001, x152002, x152003, x152004 => if (Go.bits .and .i64 x4 2) = 0 then (spec_l8DrawIns.j1 k x4 x1000 x1001 x1002 x152000 x152001 x152002 x152003 x152004) else ((spec_l1Below.f x1000 x1001 x1002 4).bind fun bt156 => (spec_l8DrawIns.j1 k x4 x1000 bt156.2.1 bt156.2.2 x152000 x152001 bt156.1 x152003 x152004))
def spec_l8DrawIns.j1 : Nat → Int → List Int → Int → Int → Int → Int → Int → Int → Int → Option (Int × Int × Int × Int × Int × Int × Int)
 | 0, _, _, _, _, _, _, _, _, _ => none
 | k + 1, x4, x1000, x1001, x1002, x152000, x152001, x152002, x152003, x152004 => if (Go.bits .and .i64 x4 4) = 0 then (if (Go.bits .and .i64 x4 8) = 0 then (some (x152000, x152001, x152002, x152003, x152004, x1001, x1002)) else ((spec_l1PickInt.f x1000 x1001 x1002 (([0, 1, 2, 4, 8, 9, 12, 20, 23] : List Int))).bind fun bt162 => (some (x152000, x152001, x152002, x152003, bt162.1, bt162.2.1, bt162.2.2)))) else ((spec_l1Below.f x1000 x1001 x1002 4).bind fun bt165 => (if (Go.bits .and .i64 x4 8) = 0 then (some (x152000, x152001, x152002, bt165.1, x152004, bt165.2.1, bt165.2.2)) else ((spec_l1PickInt.f x1000 bt165.2.1 bt165.2.2 (([0, 1, 2, 4, 8, 9, 12, 20, 23] : List Int))).bind fun bt171 => (some (x152000, x152001, x152002, bt165.1, bt171.1, bt171.2.1, bt171.2.2)))))
end
def spec_l8DrawIns.f (k : Nat) (s0_0 : List Int) (s0_1 : Int) (s0_2 : Int) : Option (Int × Int × Int × Int × Int × Int × Int) := (spec_l1PickInt.f s0_0 s0_1 s0_2 (([1, 1, 2, 3, 3, 4, 4, 5, 5, 5, 6, 6, 7, 8, 9, 10] : List Int))).bind fun bt148 => ((spec_l8Has.f bt148.1).bind fun t152 => (if (Go.bits .and .i64 t152 1) = 0 then (spec_l8DrawIns.j0 k t152 s0_0 bt148.2.1 bt148.2.2 bt148.1 0 0 0 0) else ((spec_l1Below.f s0_0 bt148.2.1 bt148.2.2 4).bind fun bt153 => (spec_l8DrawIns.j0 k t152 s0_0 bt153.2.1 bt153.2.2 bt148.1 bt153.1 0 0 0))))
theorem spec_l8DrawIns.mono_l : ∀ k, (∀ y0 y1 y2 y3 y4 y5 y6 y7 y8, LeO (spec_l8DrawIns.j0 k y0 y1 y2 y3 y4 y5 y6 y7 y8) (spec_l8DrawIns.j0 (k + 1) y0 y1 y2 y3 y4 y5 y6 y7 y8)) ∧ (∀ y0 y1 y2 y3 y4 y5 y6 y7 y8, LeO (spec_l8DrawIns.j1 k y0 y1 y2 y3 y4 y5 y6 y7 y8) (spec_l8DrawIns.j1 (k + 1) y0 y1 y2 y3 y4 y5 y6 y7 y8))
 | 0 => ⟨fun _ _ _ _ _ _ _ _ _ r h => by simp [spec_l8DrawIns.j0] at h, fun _ _ _ _ _ _ _ _ _ r h => by simp [spec_l8DrawIns.j1] at h⟩
 | k + 1 => by
  obtain ⟨ih0, ih1⟩ := spec_l8DrawIns.mono_l k
  refine ⟨?_, ?_⟩
  ·intro y0 y1 y2 y3 y4 y5 y6 y7 y8
   unfold spec_l8DrawIns.j0
   repeat' first
   | (with_reducible exact ih0 _ _ _ _ _ _ _ _ _)
   | (with_reducible exact ih1 _ _ _ _ _ _ _ _ _)
   | (with_reducible exact LeO.refl _)
   | (with_reducible exact LeO.none _)
   | (with_reducible refine LeO.ite ?_ ?_)
   | (with_reducible refine LeO.bind ?_ (fun _ => ?_))
   | exact ih0 _ _ _ _ _ _ _ _ _
   | exact ih1 _ _ _ _ _ _ _ _ _
   | exact LeO.none _
   | refine LeO.ite ?_ ?_
   | refine LeO.bind ?_ (fun _ => ?_)
  ·intro y0 y1 y2 y3 y4 y5 y6 y7 y8
   unfold spec_l8DrawIns.j1
   repeat' first
   | (with_reducible exact ih0 _ _ _ _ _ _ _ _ _)
   | (with_reducible exact ih1 _ _ _ _ _ _ _ _ _)
   | (with_reducible exact LeO.refl _)
   | (with_reducible exact LeO.none _)
   | (with_reducible refine LeO.ite ?_ ?_)
   | (with_reducible refine LeO.bind ?_ (fun _ => ?_))
   | exact ih0 _ _ _ _ _ _ _ _ _
   | exact ih1 _ _ _ _ _ _ _ _ _
   | exact LeO.none _
   | refine LeO.ite ?_ ?_
   | refine LeO.bind ?_ (fun _ => ?_)
theorem spec_l8DrawIns.mono : ∀ a0 a1 a2 k, LeO (spec_l8DrawIns.f k a0 a1 a2) (spec_l8DrawIns.f (k + 1) a0 a1 a2) := by
 intro a0 a1 a2 k
 obtain ⟨ih0, ih1⟩ := spec_l8DrawIns.mono_l k
 unfold spec_l8DrawIns.f
 repeat' first
   | (with_reducible exact ih0 _ _ _ _ _ _ _ _ _)
   | (with_reducible exact ih1 _ _ _ _ _ _ _ _ _)
   | (with_reducible exact LeO.refl _)
   | (with_reducible exact LeO.none _)
   | (with_reducible refine LeO.ite ?_ ?_)
   | (with_reducible refine LeO.bind ?_ (fun _ => ?_))
   | exact ih0 _ _ _ _ _ _ _ _ _
   | exact ih1 _ _ _ _ _ _ _ _ _
   | exact LeO.none _
   | refine LeO.ite ?_ ?_
   | refine LeO.bind ?_ (fun _ => ?_)
set_option maxHeartbeats 8000000 in
set_option maxRecDepth 100000 in
theorem spec_l8DrawIns.calls (k : Nat) (g : Nat) (s0_0 : List Int) (s0_1 : Int) (s0_2 : Int) (r1 : Int) (r2 : Int) (r3 : Int) (r4 : Int) (r5 : Int) (r6 : Int) (r7 : Int) (w0 w : World) (hI : IsS161 w0 w g s0_0 s0_1 s0_2) (hB : Below w0.heap.size w0 w) (h : spec_l8DrawIns.f k s0_0 s0_1 s0_2 = some (r1, r2, r3, r4, r5, r6, r7)) :
  Calls Try.prog 156 #[.pointer (some ⟨g, 0, none⟩)] w fun e w' => e = .returned (.agg #[.int .i64 r1, .int .i64 r2, .int .i64 r3, .int .i64 r4, .int .i64 r5]) ∧ IsS161 w0 w' g s0_0 r6 r7 ∧ Below w0.heap.size w0 w' ∧ KeepBut w w' g none := by
 have hu52 := Try.underlying52
 have HI0 := Aside0.mk hI
 have HK := Aside0.mk (KeepBut.refl w g none)
 have HL := Aside0.mk hB.size
 clear hI
 have HW0 := Aside0.mk hB.size
 have HB := Aside0.mk hB
 clear hB
 have H : ((spec_l1PickInt.f s0_0 s0_1 s0_2 (([1, 1, 2, 3, 3, 4, 4, 5, 5, 5, 6, 6, 7, 8, 9, 10] : List Int))).bind fun bt148 => ((spec_l8Has.f bt148.1).bind fun t152 => (if (Go.bits .and .i64 t152 1) = 0 then (spec_l8DrawIns.j0 k t152 s0_0 bt148.2.1 bt148.2.2 bt148.1 0 0 0 0) else ((spec_l1Below.f s0_0 bt148.2.1 bt148.2.2 4).bind fun bt153 => (spec_l8DrawIns.j0 k t152 s0_0 bt153.2.1 bt153.2.2 bt148.1 bt153.1 0 0 0))))) = some (r1, r2, r3, r4, r5, r6, r7) := h
 clear h
 obtain ⟨y145, hy145⟩ : ∃ y_ : List Int, y_ = (([1, 1, 2, 3, 3, 4, 4, 5, 5, 5, 6, 6, 7, 8, 9, 10] : List Int)) := ⟨_, rfl⟩
 replace H : ((spec_l1PickInt.f s0_0 s0_1 s0_2 y145).bind fun bt148 => ((spec_l8Has.f bt148.1).bind fun t152 => (if (Go.bits .and .i64 t152 1) = 0 then (spec_l8DrawIns.j0 k t152 s0_0 bt148.2.1 bt148.2.2 bt148.1 0 0 0 0) else ((spec_l1Below.f s0_0 bt148.2.1 bt148.2.2 4).bind fun bt153 => (spec_l8DrawIns.j0 k t152 s0_0 bt153.2.1 bt153.2.2 bt148.1 bt153.1 0 0 0))))) = some (r1, r2, r3, r4, r5, r6, r7) := by first | (rw [hy145]; with_reducible exact H) | (have H2_ := (Option.bind_some _ _).symm.trans H; rw [hy145]; with_reducible exact H2_) | (have H2_ := (Option.bind_some _ _).symm.trans H; with_reducible exact H2_) | with_reducible exact H | (rw [hy145]; exact H) | exact H
 have Ny145 := Aside0.mk hy145
 clear hy145
 replace H := Option.bind_eq_some_iff.mp H
 obtain ⟨⟨t148, t149, t150⟩, A20, H⟩ := H
 replace H : ((spec_l8Has.f t148).bind fun t152 => (if (Go.bits .and .i64 t152 1) = 0 then (spec_l8DrawIns.j0 k t152 s0_0 t149 t150 t148 0 0 0 0) else ((spec_l1Below.f s0_0 t149 t150 4).bind fun bt153 => (spec_l8DrawIns.j0 k t152 s0_0 bt153.2.1 bt153.2.2 t148 bt153.1 0 0 0)))) = some (r1, r2, r3, r4, r5, r6, r7) := H
 have A2 := Aside0.mk A20
 clear A20
 replace H := Option.bind_eq_some_iff.mp H
 obtain ⟨t152, A30, H⟩ := H
 replace H : (if (Go.bits .and .i64 t152 1) = 0 then (spec_l8DrawIns.j0 k t152 s0_0 t149 t150 t148 0 0 0 0) else ((spec_l1Below.f s0_0 t149 t150 4).bind fun bt153 => (spec_l8DrawIns.j0 k t152 s0_0 bt153.2.1 bt153.2.2 t148 bt153.1 0 0 0))) = some (r1, r2, r3, r4, r5, r6, r7) := H
 have A3 := Aside0.mk A30
 clear A30
 have HC4 := Aside0.mk H
 clear H
 go_enter Try.func156, Try.ntmps156
 go_upto_if 14 with (first | ((with_reducible refine gate_dst (N := 2) rfl ?_); refine box_event ?hg (N := 2) ?hd (cs := #[.int .i64 0, .int .i64 0, .int .i64 0, .int .i64 0, .int .i64 0]) (t := 52) ?hr ?_; (case hd => rfl); (case hg => rfl); (case hr => first | (go_simp; done) | (go_simp; rfl)); intro gb144 hg w5 hbox hb; have n0_ := Aside0.mk (IsS161.below (zB2_0) hb); have n1_ := Aside0.mk (KeepBut.trans (zB2_1) (KeepBut.of_below hb g none) (.inl rfl)); have n2_ := Aside0.mk (below_step (zB2_2) hb); have n3_ := Aside0.mk (hbox); have n4_ := Aside0.mk ((by rw [hg]; exact (keep_size (w := w) (g := g) (row := none) (zB2_1)) : w.heap.size ≤ gb144)); have n5_ := Aside0.mk ((Nat.le_trans HW0.out (by rw [hg]; exact (keep_size (w := w) (g := g) (row := none) (zB2_1)) : w.heap.size ≤ gb144) : w0.heap.size ≤ gb144)); have n6_ := Aside0.mk ((by rw [hg]; exact Nat.ne_of_lt (IsS161.lt (show IsS161 w0 _ g s0_0 s0_1 s0_2 from zB2_0)) : g ≠ gb144)); have n7_ := Aside0.mk ((by rw [hg]; exact Nat.ne_of_gt (IsS161.lt (show IsS161 w0 _ g s0_0 s0_1 s0_2 from zB2_0)) : gb144 ≠ g)); clear HI0; clear HK; clear HB; have HI0 := n0_; have HK := n1_; have HB := n2_; have BK144 := n3_; have GW144 := n4_; have GE144 := n5_; have NB0_144 := n6_; have NB144_0 := n7_; clear n0_ n1_ n2_ n3_ n4_ n5_ n6_ n7_; clear hb hbox hg) | ((with_reducible refine gate_dst (N := 6) rfl ?_); refine Kd.R_lit (Kd.int .i64) _ 3 ?hg (N := 6) ?hd (xs := ([1, 1, 2, 3, 3, 4, 4, 5, 5, 5, 6, 6, 7, 8, 9, 10] : List Int)) (inner := [.int .i64 1, .int .i64 1, .int .i64 2, .int .i64 3, .int .i64 3, .int .i64 4, .int .i64 4, .int .i64 5, .int .i64 5, .int .i64 5, .int .i64 6, .int .i64 6, .int .i64 7, .int .i64 8, .int .i64 9, .int .i64 10]) (ok := fun _ => True) (okp := fun _ => True) ?hr ?hp (fun _ hk => hk) trivial (Below.refl _ _) (Nat.le_refl _) (by simp) ?_; (case hd => rfl); (case hg => rfl); (case hr => first | (go_simp; done) | (go_simp; rfl)); (case hp => exact (Reps.one (show Kd.M (Kd.int .i64) _ _ _ 1 [.int .i64 1] from rfl) (Reps.one (show Kd.M (Kd.int .i64) _ _ _ 1 [.int .i64 1] from rfl) (Reps.one (show Kd.M (Kd.int .i64) _ _ _ 2 [.int .i64 2] from rfl) (Reps.one (show Kd.M (Kd.int .i64) _ _ _ 3 [.int .i64 3] from rfl) (Reps.one (show Kd.M (Kd.int .i64) _ _ _ 3 [.int .i64 3] from rfl) (Reps.one (show Kd.M (Kd.int .i64) _ _ _ 4 [.int .i64 4] from rfl) (Reps.one (show Kd.M (Kd.int .i64) _ _ _ 4 [.int .i64 4] from rfl) (Reps.one (show Kd.M (Kd.int .i64) _ _ _ 5 [.int .i64 5] from rfl) (Reps.one (show Kd.M (Kd.int .i64) _ _ _ 5 [.int .i64 5] from rfl) (Reps.one (show Kd.M (Kd.int .i64) _ _ _ 5 [.int .i64 5] from rfl) (Reps.one (show Kd.M (Kd.int .i64) _ _ _ 6 [.int .i64 6] from rfl) (Reps.one (show Kd.M (Kd.int .i64) _ _ _ 6 [.int .i64 6] from rfl) (Reps.one (show Kd.M (Kd.int .i64) _ _ _ 7 [.int .i64 7] from rfl) (Reps.one (show Kd.M (Kd.int .i64) _ _ _ 8 [.int .i64 8] from rfl) (Reps.one (show Kd.M (Kd.int .i64) _ _ _ 9 [.int .i64 9] from rfl) (Reps.one (show Kd.M (Kd.int .i64) _ _ _ 10 [.int .i64 10] from rfl) (Reps.none _ _)))))))))))))))))); intro v146 w6 ho7 hb hg_ hnew_; clear hg_ hnew_; (first | rw [← Ny145.out] at ho7 | (simp only [Int.reduceToNat] at ho7; rw [← Ny145.out] at ho7)); have n0_ := Aside0.mk (Kd.R_lower ho7 (keep_size (w := w) (g := g) (row := none) (zB2_3))); have n1_ := Aside0.mk (IsS161.below (zB2_4) hb); have n2_ := Aside0.mk (zb2 BK144.out hb); have n3_ := Aside0.mk (KeepBut.trans (zB2_3) (KeepBut.of_below hb g none) (.inl rfl)); have n4_ := Aside0.mk (below_step (zB2_5) hb); clear HI0; clear BK144; clear HK; clear HB; have HO147 := n0_; have HI0 := n1_; have BK144 := n2_; have HK := n3_; have HB := n4_; clear n0_ n1_ n2_ n3_ n4_; clear hb ho7; obtain ⟨Ao8, co8, eo8⟩ := Kd.R_slice HO147.out; subst eo8) | ((with_reducible refine gate_callee (f := 117) rfl ?_); refine goesL_ (some 7) rfl rfl Try.func117 (by kernel_rfl) rfl #[.pointer (some ⟨g, 0, none⟩), .slice Ao8 y145.length co8] rfl zT2 ?_; (with_reducible refine (spec_l1PickInt.calls g s0_0 s0_1 s0_2 _ _ y145 t148 t149 t150 w0 _ ?side1 ?side2 ?side3 ?side4 ?side5 A2.out).mono ?_); (case side1 => repeat (first | (with_reducible first | exact HI0.out | apply IsS161.alloc | apply IsS161.drewN | apply IsS161.drew | apply IsS161.set_1 | apply IsS161.set_2 | refine IsS161.far ?_ NB0_144.out _) | exact HI0.out)); (case side2 => repeat (first | (with_reducible first | exact HB.out | apply below_alloc | apply pw_below_drewN | apply below_drew1 | refine below_set ?_ (IsS161.ge HI0.out) | refine below_set ?_ GE144.out) | exact HB.out)); (case side3 => exact zC2 (Kd.R_reads' HO147.out).2.2); (case side4 => exact (Kd.R_reads' HO147.out).2.1); (case side5 => exact far_slice (IsS161.own_ne HI0.out HO147.out (by decide))); rintro e w9 ⟨rfl, hi, hb, hk⟩; refine ⟨_, rfl, ?_⟩; have n0_ := Aside0.mk (zh2 hk BK144.out NB144_0.out); have n1_ := Aside0.mk (Kd.R_mono (Kd.R_keep (IsS161.apart (show IsS161 w0 _ g s0_0 s0_1 s0_2 from zB2_4) (zR2 HO147.out) (by decide)) hk (fun _ h => h.2)) (fun _ h => h.1)); have n2_ := Aside0.mk (KeepBut.trans (zB2_3) hk (.inl rfl)); have n3_ := Aside0.mk (hb); have n4_ := Aside0.mk (hi); clear BK144; clear HO147; clear HK; clear HB; clear HI0; have BK144 := n0_; have HO147 := n1_; have HK := n2_; have HB := n3_; have HI0 := n4_; clear n0_ n1_ n2_ n3_ n4_; (try clear hb); (try clear hb2); (try clear hk); (try clear hi)) | ((with_reducible refine gate_dst (N := 3) rfl ?_); refine box_event ?hg (N := 3) ?hd (cs := #[.int .i64 0, .int .i64 0, .int .i64 0, .int .i64 0, .int .i64 0]) (t := 52) ?hr ?_; (case hd => rfl); (case hg => rfl); (case hr => first | (go_simp; done) | (go_simp; rfl)); intro gb151 hg w10 hbox hb; have n0_ := Aside0.mk (Kd.R_below (zR2 HO147.out) hb); have n1_ := Aside0.mk (IsS161.below (zB2_4) hb); have n2_ := Aside0.mk (zb2 BK144.out hb); have n3_ := Aside0.mk (KeepBut.trans (zB2_3) (KeepBut.of_below hb g none) (.inl rfl)); have n4_ := Aside0.mk (below_step (zB2_5) hb); have n5_ := Aside0.mk (hbox); have n6_ := Aside0.mk ((by rw [hg]; exact (keep_size (w := w) (g := g) (row := none) (zB2_3)) : w.heap.size ≤ gb151)); have n7_ := Aside0.mk ((Nat.le_trans HW0.out (by rw [hg]; exact (keep_size (w := w) (g := g) (row := none) (zB2_3)) : w.heap.size ≤ gb151) : w0.heap.size ≤ gb151)); have n8_ := Aside0.mk ((zn2 BK144.out hg : gb144 ≠ gb151)); have n9_ := Aside0.mk ((zm2 BK144.out hg : gb151 ≠ gb144)); have n10_ := Aside0.mk ((by rw [hg]; exact Nat.ne_of_lt (IsS161.lt (show IsS161 w0 _ g s0_0 t149 t150 from zB2_4)) : g ≠ gb151)); have n11_ := Aside0.mk ((by rw [hg]; exact Nat.ne_of_gt (IsS161.lt (show IsS161 w0 _ g s0_0 t149 t150 from zB2_4)) : gb151 ≠ g)); clear HO147; clear HI0; clear BK144; clear HK; clear HB; have HO147 := n0_; have HI0 := n1_; have BK144 := n2_; have HK := n3_; have HB := n4_; have BK151 := n5_; have GW151 := n6_; have GE151 := n7_; have NB144_151 := n8_; have NB151_144 := n9_; have NB0_151 := n10_; have NB151_0 := n11_; clear n0_ n1_ n2_ n3_ n4_ n5_ n6_ n7_ n8_ n9_ n10_ n11_; clear hb hbox hg; have hnb11 := NB151_144.out; have hnc11 := NB144_151.out; have hnb12 := NB151_0.out; have hnc12 := NB0_151.out; obtain ⟨hcz13_0, hcz13_1, hcz13_2, hcz13_3, hcz13_4, hfz13_0, hfz13_1, hfz13_2, hfz13_3, hfz13_4⟩ := zc2_5 (w := w10) BK151.out) | ((with_reducible refine gate_callee (f := 163) rfl ?_); refine goesL_ (some 11) rfl rfl Try.func163 (by kernel_rfl) rfl #[.int .i64 t148] rfl zT2 ?_; (with_reducible refine (spec_l8Has.calls t148 t152 _ A3.out).mono ?_); rintro e w14 ⟨rfl, hb⟩; refine ⟨_, rfl, ?_⟩; have n0_ := Aside0.mk (Kd.R_below (by (with_reducible repeat (first | apply Kd.R_alloc | apply Kd.R_drewN | apply Kd.R_drew)); exact (Kd.R_mono (Kd.R_far (p := ⟨gb151, 4, none⟩) (Kd.R_far (p := ⟨gb151, 3, none⟩) (Kd.R_far (p := ⟨gb151, 2, none⟩) (Kd.R_far (p := ⟨gb151, 1, none⟩) (Kd.R_far (p := ⟨gb151, 0, none⟩) (Kd.R_types HO147.out BK151.out (by decide)) (fun _ hk => hk.2) (.int .i64 t148)) (fun _ hk => hk.2) (.int .i64 0)) (fun _ hk => hk.2) (.int .i64 0)) (fun _ hk => hk.2) (.int .i64 0)) (fun _ hk => hk.2) (.int .i64 0)) (fun _ h_ => h_.1))) hb); have n1_ := Aside0.mk (IsS161.below (show IsS161 w0 (((((w10.setCell ⟨gb151, 0, none⟩ (.int .i64 t148)).setCell ⟨gb151, 1, none⟩ (.int .i64 0)).setCell ⟨gb151, 2, none⟩ (.int .i64 0)).setCell ⟨gb151, 3, none⟩ (.int .i64 0)).setCell ⟨gb151, 4, none⟩ (.int .i64 0)) g s0_0 t149 t150 from zB2_6) hb); have n2_ := Aside0.mk (blk_below (g := gb144) (o := .cells #[.int .i64 0, .int .i64 0, .int .i64 0, .int .i64 0, .int .i64 0] 52 (0, 0)) (by refine zP2 ?_; refine blk_far ?_ NB144_151.out _; refine zP2 ?_; refine blk_far ?_ NB144_151.out _; refine zP2 ?_; refine blk_far ?_ NB144_151.out _; refine zP2 ?_; refine blk_far ?_ NB144_151.out _; refine zP2 ?_; refine blk_far ?_ NB144_151.out _; refine zP2 ?_; exact BK144.out) hb); have n3_ := Aside0.mk (blk_below (g := gb151) (o := .cells #[.int .i64 t148, .int .i64 0, .int .i64 0, .int .i64 0, .int .i64 0] 52 (0, 0)) (by refine zP2 ?_; refine blk_put (cs := #[.int .i64 t148, .int .i64 0, .int .i64 0, .int .i64 0, .int .i64 0]) ?_ 4 _ rfl; refine zP2 ?_; refine blk_put (cs := #[.int .i64 t148, .int .i64 0, .int .i64 0, .int .i64 0, .int .i64 0]) ?_ 3 _ rfl; refine zP2 ?_; refine blk_put (cs := #[.int .i64 t148, .int .i64 0, .int .i64 0, .int .i64 0, .int .i64 0]) ?_ 2 _ rfl; refine zP2 ?_; refine blk_put (cs := #[.int .i64 t148, .int .i64 0, .int .i64 0, .int .i64 0, .int .i64 0]) ?_ 1 _ rfl; refine zP2 ?_; refine blk_put (cs := #[.int .i64 0, .int .i64 0, .int .i64 0, .int .i64 0, .int .i64 0]) ?_ 0 _ rfl; refine zP2 ?_; exact BK151.out) hb); have n4_ := Aside0.mk (KeepBut.trans (zB2_7) (KeepBut.of_below hb g none) (.inl rfl)); have n5_ := Aside0.mk (below_step (zB2_8) hb); clear HO147; clear HI0; clear BK144; clear BK151; clear HK; clear HB; have HO147 := n0_; have HI0 := n1_; have BK144 := n2_; have BK151 := n3_; have HK := n4_; have HB := n5_; clear n0_ n1_ n2_ n3_ n4_ n5_; (try clear hb); (try clear hb2); (try clear hk); (try clear hi)))
 (try simp only [Act.put, List.setIfInBounds_toArray, List.set_cons_zero, List.set_cons_succ])
 go_cut [] (fun wc => ∃ (kq : Nat) (x1001_3 : Int) (x1002_3 : Int) (x152001_3 : Int), Aside0 (spec_l8DrawIns.j0 kq t152 s0_0 x1001_3 x1002_3 t148 x152001_3 0 0 0 = some (r1, r2, r3, r4, r5, r6, r7)) ∧ Aside0 (kq ≤ k) ∧ Aside0 (wc.heap[gb144]? = some (.cells #[.int .i64 0, .int .i64 0, .int .i64 0, .int .i64 0, .int .i64 0] 52 (0, 0))) ∧ Aside0 (wc.heap[gb151]? = some (.cells #[.int .i64 t148, .int .i64 x152001_3, .int .i64 0, .int .i64 0, .int .i64 0] 52 (0, 0))) ∧ Aside0 (IsS161 w0 wc g s0_0 x1001_3 x1002_3) ∧ Aside0 (KeepBut w wc g none) ∧ Aside0 (Below w0.heap.size w0 wc))
 case first =>
  have H := HC4.out
  clear HC4
  by_cases c15 : (Go.bits .and .i64 t152 1) = 0
  ·rw [if_pos c15] at H
   have c15b0 : ((Go.bits .and .i64 t152 1) == 0) = true := beq_iff_eq.mpr c15
   have c15b1 : ((Go.bits .and .i64 t152 1) != 0) = false := bne_eq_false_iff_eq.mpr c15
   clear c15
   (first | rw [c15b0] | (simp only [i64_w, i32_w]; rw [c15b0]) | skip)
   have H' := Aside0.mk H
   clear H
   go_wp2
   go_meet
   case rel => exact ⟨_, (t149), (t150), (0), H', ⟨by first | omega | exact Nat.le_refl _⟩, ⟨zK2 BK144.out⟩, ⟨zK2 BK151.out⟩, ⟨zB2_6⟩, ⟨zB2_7⟩, ⟨zB2_8⟩⟩
  rw [if_neg c15] at H
  have c15b0 : ((Go.bits .and .i64 t152 1) == 0) = false := beq_eq_false_iff_ne.mpr c15
  have c15b1 : ((Go.bits .and .i64 t152 1) != 0) = true := bne_iff_ne.mpr c15
  (first | rw [c15b0] | (simp only [i64_w, i32_w]; rw [c15b0]) | skip)
  replace H := Option.bind_eq_some_iff.mp H
  obtain ⟨⟨t153, t154, t155⟩, A160, H⟩ := H
  replace H : (spec_l8DrawIns.j0 k t152 s0_0 t154 t155 t148 t153 0 0 0) = some (r1, r2, r3, r4, r5, r6, r7) := H
  have A16 := Aside0.mk A160
  clear A160
  have H' := Aside0.mk H
  clear H
  go_wp2_with (first | ((with_reducible refine gate_callee (f := 123) rfl ?_); refine goesL_ (some 16) rfl rfl Try.func123 (by kernel_rfl) rfl #[.pointer (some ⟨g, 0, none⟩), .int .i64 4] rfl zT2 ?_; (with_reducible refine (spec_l1Below.calls g s0_0 t149 t150 4 t153 t154 t155 w0 _ ?side1 ?side2 A16.out).mono ?_); (case side1 => repeat (first | (with_reducible first | exact HI0.out | apply IsS161.alloc | apply IsS161.drewN | apply IsS161.drew | apply IsS161.set_1 | apply IsS161.set_2 | refine IsS161.far ?_ NB0_144.out _ | refine IsS161.far ?_ NB0_151.out _) | exact HI0.out)); (case side2 => repeat (first | (with_reducible first | exact HB.out | apply below_alloc | apply pw_below_drewN | apply below_drew1 | refine below_set ?_ (IsS161.ge HI0.out) | refine below_set ?_ GE144.out | refine below_set ?_ GE151.out) | exact HB.out)); rintro e w17 ⟨rfl, hi, hb, hk⟩; refine ⟨_, rfl, ?_⟩; have n0_ := Aside0.mk (zh2 hk BK144.out NB144_0.out); have n1_ := Aside0.mk (Kd.R_mono (Kd.R_keep (IsS161.apart (show IsS161 w0 _ g s0_0 t149 t150 from zB2_6) (zR2 HO147.out) (by decide)) hk (fun _ h => h.2)) (fun _ h => h.1)); have n2_ := Aside0.mk (zh2 hk BK151.out NB151_0.out); have n3_ := Aside0.mk (KeepBut.trans (zB2_7) hk (.inl rfl)); have n4_ := Aside0.mk (hb); have n5_ := Aside0.mk (hi); clear BK144; clear HO147; clear BK151; clear HK; clear HB; clear HI0; have BK144 := n0_; have HO147 := n1_; have BK151 := n2_; have HK := n3_; have HB := n4_; have HI0 := n5_; clear n0_ n1_ n2_ n3_ n4_ n5_; (try clear hb); (try clear hb2); (try clear hk); (try clear hi); have hnb18 := NB151_144.out; have hnc18 := NB144_151.out; have hnb19 := NB151_0.out; have hnc19 := NB0_151.out; obtain ⟨hcz20_0, hcz20_1, hcz20_2, hcz20_3, hcz20_4, hfz20_0, hfz20_1, hfz20_2, hfz20_3, hfz20_4⟩ := zc2_5 (w := w17) BK151.out))
  go_meet
  case rel => exact ⟨_, (t154), (t155), (t153), H', ⟨by first | omega | exact Nat.le_refl _⟩, ⟨by refine zP2 ?_; refine blk_far ?_ NB144_151.out _; refine zP2 ?_; exact BK144.out⟩, ⟨by refine zP2 ?_; refine blk_put (cs := #[.int .i64 t148, .int .i64 0, .int .i64 0, .int .i64 0, .int .i64 0]) ?_ 1 _ rfl; refine zP2 ?_; exact BK151.out⟩, ⟨zB2_6⟩, ⟨zB2_7⟩, ⟨zB2_8⟩⟩
 case rest =>
  clear HC4
  try clear c1
  try clear p2
  try clear c11
  try clear c12
  try clear c15
  try clear c15b0
  try clear c15b1
  try clear c16
  try clear c18
  try clear c19
  try clear hcz13_0
  try clear hcz13_1
  try clear hcz13_2
  try clear hcz13_3
  try clear hcz13_4
  try clear hcz20_0
  try clear hcz20_1
  try clear hcz20_2
  try clear hcz20_3
  try clear hcz20_4
  try clear hfz13_0
  try clear hfz13_1
  try clear hfz13_2
  try clear hfz13_3
  try clear hfz13_4
  try clear hfz20_0
  try clear hfz20_1
  try clear hfz20_2
  try clear hfz20_3
  try clear hfz20_4
  obtain ⟨kq, x1001_3, x1002_3, x152001_3, HA, HJ3, BK144, BK151, HI0, HK, HB⟩ := hcut
  cases kq with
  | zero => exact absurd HA.out (by simp [spec_l8DrawIns.j0])
  | succ kj3 =>
   have H := HA.out
   clear HA
   simp only [spec_l8DrawIns.j0] at H
   have HC21 := Aside0.mk H
   clear H
   go_upto_if 20 with (fail)
   go_cut [] (fun wc => ∃ (kq : Nat) (x1001_20 : Int) (x1002_20 : Int) (x152002_20 : Int), Aside0 (spec_l8DrawIns.j1 kq t152 s0_0 x1001_20 x1002_20 t148 x152001_3 x152002_20 0 0 = some (r1, r2, r3, r4, r5, r6, r7)) ∧ Aside0 (kq ≤ kj3) ∧ Aside0 (wc.heap[gb144]? = some (.cells #[.int .i64 0, .int .i64 0, .int .i64 0, .int .i64 0, .int .i64 0] 52 (0, 0))) ∧ Aside0 (wc.heap[gb151]? = some (.cells #[.int .i64 t148, .int .i64 x152001_3, .int .i64 x152002_20, .int .i64 0, .int .i64 0] 52 (0, 0))) ∧ Aside0 (IsS161 w0 wc g s0_0 x1001_20 x1002_20) ∧ Aside0 (KeepBut w wc g none) ∧ Aside0 (Below w0.heap.size w0 wc))
   case first =>
    have H := HC21.out
    clear HC21
    by_cases c22 : (Go.bits .and .i64 t152 2) = 0
    ·rw [if_pos c22] at H
     have c22b0 : ((Go.bits .and .i64 t152 2) == 0) = true := beq_iff_eq.mpr c22
     have c22b1 : ((Go.bits .and .i64 t152 2) != 0) = false := bne_eq_false_iff_eq.mpr c22
     clear c22
     (first | rw [c22b0] | (simp only [i64_w, i32_w]; rw [c22b0]) | skip)
     have H' := Aside0.mk H
     clear H
     go_wp2
     go_meet
     case rel => exact ⟨_, (x1001_3), (x1002_3), (0), H', ⟨by have := HJ3.out; first | omega | exact Nat.le_refl _⟩, ⟨zK2 BK144.out⟩, ⟨zK2 BK151.out⟩, ⟨zB2_6⟩, ⟨zB2_7⟩, ⟨zB2_8⟩⟩
    rw [if_neg c22] at H
    have c22b0 : ((Go.bits .and .i64 t152 2) == 0) = false := beq_eq_false_iff_ne.mpr c22
    have c22b1 : ((Go.bits .and .i64 t152 2) != 0) = true := bne_iff_ne.mpr c22
    (first | rw [c22b0] | (simp only [i64_w, i32_w]; rw [c22b0]) | skip)
    replace H := Option.bind_eq_some_iff.mp H
    obtain ⟨⟨t156, t157, t158⟩, A230, H⟩ := H
    replace H : (spec_l8DrawIns.j1 kj3 t152 s0_0 t157 t158 t148 x152001_3 t156 0 0) = some (r1, r2, r3, r4, r5, r6, r7) := H
    have A23 := Aside0.mk A230
    clear A230
    have H' := Aside0.mk H
    clear H
    go_wp2_with (first | ((with_reducible refine gate_callee (f := 123) rfl ?_); refine goesL_ (some 22) rfl rfl Try.func123 (by kernel_rfl) rfl #[.pointer (some ⟨g, 0, none⟩), .int .i64 4] rfl zT2 ?_; (with_reducible refine (spec_l1Below.calls g s0_0 x1001_3 x1002_3 4 t156 t157 t158 w0 _ ?side1 ?side2 A23.out).mono ?_); (case side1 => repeat (first | (with_reducible first | exact HI0.out | apply IsS161.alloc | apply IsS161.drewN | apply IsS161.drew | apply IsS161.set_1 | apply IsS161.set_2 | refine IsS161.far ?_ NB0_144.out _ | refine IsS161.far ?_ NB0_151.out _) | exact HI0.out)); (case side2 => repeat (first | (with_reducible first | exact HB.out | apply below_alloc | apply pw_below_drewN | apply below_drew1 | refine below_set ?_ (IsS161.ge HI0.out) | refine below_set ?_ GE144.out | refine below_set ?_ GE151.out) | exact HB.out)); rintro e w24 ⟨rfl, hi, hb, hk⟩; refine ⟨_, rfl, ?_⟩; have n0_ := Aside0.mk (zh2 hk BK144.out NB144_0.out); have n1_ := Aside0.mk (zh2 hk BK151.out NB151_0.out); have n2_ := Aside0.mk (KeepBut.trans (zB2_7) hk (.inl rfl)); have n3_ := Aside0.mk (hb); have n4_ := Aside0.mk (hi); clear BK144; clear BK151; clear HK; clear HB; clear HI0; have BK144 := n0_; have BK151 := n1_; have HK := n2_; have HB := n3_; have HI0 := n4_; clear n0_ n1_ n2_ n3_ n4_; (try clear hb); (try clear hb2); (try clear hk); (try clear hi); have hnb25 := NB151_144.out; have hnc25 := NB144_151.out; have hnb26 := NB151_0.out; have hnc26 := NB0_151.out; obtain ⟨hcz27_0, hcz27_1, hcz27_2, hcz27_3, hcz27_4, hfz27_0, hfz27_1, hfz27_2, hfz27_3, hfz27_4⟩ := zc2_5 (w := w24) BK151.out))
    go_meet
    case rel => exact ⟨_, (t157), (t158), (t156), H', ⟨by have := HJ3.out; first | omega | exact Nat.le_refl _⟩, ⟨by refine zP2 ?_; refine blk_far ?_ NB144_151.out _; refine zP2 ?_; exact BK144.out⟩, ⟨by refine zP2 ?_; refine blk_put (cs := #[.int .i64 t148, .int .i64 x152001_3, .int .i64 0, .int .i64 0, .int .i64 0]) ?_ 2 _ rfl; refine zP2 ?_; exact BK151.out⟩, ⟨zB2_6⟩, ⟨zB2_7⟩, ⟨zB2_8⟩⟩
   case rest =>
    clear HC21
    try clear c1
    try clear c2
    try clear p2
    try clear c11
    try clear c12
    try clear c15
    try clear c15b0
    try clear c15b1
    try clear c16
    try clear c18
    try clear c19
    try clear c22
    try clear c22b0
    try clear c22b1
    try clear c25
    try clear c26
    try clear hcz13_0
    try clear hcz13_1
    try clear hcz13_2
    try clear hcz13_3
    try clear hcz13_4
    try clear hcz20_0
    try clear hcz20_1
    try clear hcz20_2
    try clear hcz20_3
    try clear hcz20_4
    try clear hcz27_0
    try clear hcz27_1
    try clear hcz27_2
    try clear hcz27_3
    try clear hcz27_4
    try clear hfz13_0
    try clear hfz13_1
    try clear hfz13_2
    try clear hfz13_3
    try clear hfz13_4
    try clear hfz20_0
    try clear hfz20_1
    try clear hfz20_2
    try clear hfz20_3
    try clear hfz20_4
    try clear hfz27_0
    try clear hfz27_1
    try clear hfz27_2
    try clear hfz27_3
    try clear hfz27_4
    try clear p2
    obtain ⟨kq, x1001_20, x1002_20, x152002_20, HA, HJ20, BK144, BK151, HI0, HK, HB⟩ := hcut
    cases kq with
    | zero => exact absurd HA.out (by simp [spec_l8DrawIns.j1])
    | succ kj20 =>
     have H := HA.out
     clear HA
     simp only [spec_l8DrawIns.j1] at H
     by_cases c28 : (Go.bits .and .i64 t152 4) = 0
     ·rw [if_pos c28] at H
      have c28b0 : ((Go.bits .and .i64 t152 4) == 0) = true := beq_iff_eq.mpr c28
      have c28b1 : ((Go.bits .and .i64 t152 4) != 0) = false := bne_eq_false_iff_eq.mpr c28
      clear c28
      by_cases c29 : (Go.bits .and .i64 t152 8) = 0
      ·rw [if_pos c29] at H
       have c29b0 : ((Go.bits .and .i64 t152 8) == 0) = true := beq_iff_eq.mpr c29
       have c29b1 : ((Go.bits .and .i64 t152 8) != 0) = false := bne_eq_false_iff_eq.mpr c29
       clear c29
       simp only [Option.some.injEq, Prod.mk.injEq] at H
       obtain ⟨rfl, rfl, rfl, rfl, rfl, rfl, rfl⟩ := H
       have hnb30 := NB151_144.out
       have hnc30 := NB144_151.out
       have hnb31 := NB151_0.out
       have hnc31 := NB0_151.out
       obtain ⟨hcz32_0, hcz32_1, hcz32_2, hcz32_3, hcz32_4, hfz32_0, hfz32_1, hfz32_2, hfz32_3, hfz32_4⟩ := zc2_5 (w := wc) BK151.out
       have hnb33 := NB144_0.out
       have hnc33 := NB0_144.out
       obtain ⟨hcz34_0, hcz34_1, hcz34_2, hcz34_3, hcz34_4, hfz34_0, hfz34_1, hfz34_2, hfz34_3, hfz34_4⟩ := zc2_5 (w := wc) BK144.out
       go_wp2
       refine bodyPost_ret (results_cell_row rfl _ _ gb144 52 #[.int .i64 t148, .int .i64 x152001_3, .int .i64 x152002_20, .int .i64 0, .int .i64 0] (0, 0) _ rfl (by refine zP2 ?_; refine blk_put (cs := #[.int .i64 t148, .int .i64 x152001_3, .int .i64 x152002_20, .int .i64 0, .int .i64 0]) ?_ 4 _ rfl; refine zP2 ?_; refine blk_put (cs := #[.int .i64 t148, .int .i64 x152001_3, .int .i64 x152002_20, .int .i64 0, .int .i64 0]) ?_ 3 _ rfl; refine zP2 ?_; refine blk_put (cs := #[.int .i64 t148, .int .i64 x152001_3, .int .i64 0, .int .i64 0, .int .i64 0]) ?_ 2 _ rfl; refine zP2 ?_; refine blk_put (cs := #[.int .i64 t148, .int .i64 0, .int .i64 0, .int .i64 0, .int .i64 0]) ?_ 1 _ rfl; refine zP2 ?_; refine blk_put (cs := #[.int .i64 0, .int .i64 0, .int .i64 0, .int .i64 0, .int .i64 0]) ?_ 0 _ rfl; refine zP2 ?_; exact BK144.out) Try.underlying52 rfl (by kernel_rfl)) rfl ?_
       exact ⟨zE2, zB2_6, zB2_8, zB2_7⟩
      rw [if_neg c29] at H
      have c29b0 : ((Go.bits .and .i64 t152 8) == 0) = false := beq_eq_false_iff_ne.mpr c29
      have c29b1 : ((Go.bits .and .i64 t152 8) != 0) = true := bne_iff_ne.mpr c29
      obtain ⟨y159, hy159⟩ : ∃ y_ : List Int, y_ = (([0, 1, 2, 4, 8, 9, 12, 20, 23] : List Int)) := ⟨_, rfl⟩
      replace H : ((spec_l1PickInt.f s0_0 x1001_20 x1002_20 y159).bind fun bt162 => (some (t148, x152001_3, x152002_20, 0, bt162.1, bt162.2.1, bt162.2.2))) = some (r1, r2, r3, r4, r5, r6, r7) := by first | (rw [hy159]; with_reducible exact H) | (have H2_ := (Option.bind_some _ _).symm.trans H; rw [hy159]; with_reducible exact H2_) | (have H2_ := (Option.bind_some _ _).symm.trans H; with_reducible exact H2_) | with_reducible exact H | (rw [hy159]; exact H) | exact H
      have Ny159 := Aside0.mk hy159
      clear hy159
      replace H := Option.bind_eq_some_iff.mp H
      obtain ⟨⟨t162, t163, t164⟩, A350, H⟩ := H
      replace H : (some (t148, x152001_3, x152002_20, 0, t162, t163, t164)) = some (r1, r2, r3, r4, r5, r6, r7) := H
      have A35 := Aside0.mk A350
      clear A350
      simp only [Option.some.injEq, Prod.mk.injEq] at H
      obtain ⟨rfl, rfl, rfl, rfl, rfl, rfl, rfl⟩ := H
      go_wp2_with (first | ((with_reducible refine gate_dst (N := 34) rfl ?_); refine Kd.R_lit (Kd.int .i64) _ 3 ?hg (N := 34) ?hd (xs := ([0, 1, 2, 4, 8, 9, 12, 20, 23] : List Int)) (inner := [.int .i64 0, .int .i64 1, .int .i64 2, .int .i64 4, .int .i64 8, .int .i64 9, .int .i64 12, .int .i64 20, .int .i64 23]) (ok := fun _ => True) (okp := fun _ => True) ?hr ?hp (fun _ hk => hk) trivial (Below.refl _ _) (Nat.le_refl _) (by simp) ?_; (case hd => rfl); (case hg => rfl); (case hr => first | (go_simp; done) | (go_simp; rfl)); (case hp => exact (Reps.one (show Kd.M (Kd.int .i64) _ _ _ 0 [.int .i64 0] from rfl) (Reps.one (show Kd.M (Kd.int .i64) _ _ _ 1 [.int .i64 1] from rfl) (Reps.one (show Kd.M (Kd.int .i64) _ _ _ 2 [.int .i64 2] from rfl) (Reps.one (show Kd.M (Kd.int .i64) _ _ _ 4 [.int .i64 4] from rfl) (Reps.one (show Kd.M (Kd.int .i64) _ _ _ 8 [.int .i64 8] from rfl) (Reps.one (show Kd.M (Kd.int .i64) _ _ _ 9 [.int .i64 9] from rfl) (Reps.one (show Kd.M (Kd.int .i64) _ _ _ 12 [.int .i64 12] from rfl) (Reps.one (show Kd.M (Kd.int .i64) _ _ _ 20 [.int .i64 20] from rfl) (Reps.one (show Kd.M (Kd.int .i64) _ _ _ 23 [.int .i64 23] from rfl) (Reps.none _ _))))))))))); intro v160 w36 ho37 hb hg_ hnew_; clear hg_ hnew_; (first | rw [← Ny159.out] at ho37 | (simp only [Int.reduceToNat] at ho37; rw [← Ny159.out] at ho37)); have n0_ := Aside0.mk (Kd.R_lower ho37 (keep_size (w := w) (g := g) (row := none) (zB2_7))); have n1_ := Aside0.mk (zb2 BK144.out hb); have n2_ := Aside0.mk (zb2 BK151.out hb); have n3_ := Aside0.mk (IsS161.below (zB2_6) hb); have n4_ := Aside0.mk (KeepBut.trans (zB2_7) (KeepBut.of_below hb g none) (.inl rfl)); have n5_ := Aside0.mk (below_step (zB2_8) hb); clear BK144; clear BK151; clear HI0; clear HK; clear HB; have HO161 := n0_; have BK144 := n1_; have BK151 := n2_; have HI0 := n3_; have HK := n4_; have HB := n5_; clear n0_ n1_ n2_ n3_ n4_ n5_; clear hb ho37; obtain ⟨Ao38, co38, eo38⟩ := Kd.R_slice HO161.out; subst eo38) | ((with_reducible refine gate_callee (f := 117) rfl ?_); refine goesL_ (some 35) rfl rfl Try.func117 (by kernel_rfl) rfl #[.pointer (some ⟨g, 0, none⟩), .slice Ao38 y159.length co38] rfl zT2 ?_; (with_reducible refine (spec_l1PickInt.calls g s0_0 x1001_20 x1002_20 _ _ y159 t162 t163 t164 w0 _ ?side1 ?side2 ?side3 ?side4 ?side5 A35.out).mono ?_); (case side1 => repeat (first | (with_reducible first | exact HI0.out | apply IsS161.alloc | apply IsS161.drewN | apply IsS161.drew | apply IsS161.set_1 | apply IsS161.set_2 | refine IsS161.far ?_ NB0_144.out _ | refine IsS161.far ?_ NB0_151.out _) | exact HI0.out)); (case side2 => repeat (first | (with_reducible first | exact HB.out | apply below_alloc | apply pw_below_drewN | apply below_drew1 | refine below_set ?_ (IsS161.ge HI0.out) | refine below_set ?_ GE144.out | refine below_set ?_ GE151.out) | exact HB.out)); (case side3 => exact zC2 (Kd.R_reads' HO161.out).2.2); (case side4 => exact (Kd.R_reads' HO161.out).2.1); (case side5 => exact far_slice (IsS161.own_ne HI0.out HO161.out (by decide))); rintro e w39 ⟨rfl, hi, hb, hk⟩; refine ⟨_, rfl, ?_⟩; have n0_ := Aside0.mk (zh2 hk BK144.out NB144_0.out); have n1_ := Aside0.mk (zh2 hk BK151.out NB151_0.out); have n2_ := Aside0.mk (Kd.R_mono (Kd.R_keep (IsS161.apart (show IsS161 w0 _ g s0_0 x1001_20 x1002_20 from zB2_6) (zR2 HO161.out) (by decide)) hk (fun _ h => h.2)) (fun _ h => h.1)); have n3_ := Aside0.mk (KeepBut.trans (zB2_7) hk (.inl rfl)); have n4_ := Aside0.mk (hb); have n5_ := Aside0.mk (hi); clear BK144; clear BK151; clear HO161; clear HK; clear HB; clear HI0; have BK144 := n0_; have BK151 := n1_; have HO161 := n2_; have HK := n3_; have HB := n4_; have HI0 := n5_; clear n0_ n1_ n2_ n3_ n4_ n5_; (try clear hb); (try clear hb2); (try clear hk); (try clear hi); have hnb40 := NB151_144.out; have hnc40 := NB144_151.out; have hnb41 := NB151_0.out; have hnc41 := NB0_151.out; obtain ⟨hcz42_0, hcz42_1, hcz42_2, hcz42_3, hcz42_4, hfz42_0, hfz42_1, hfz42_2, hfz42_3, hfz42_4⟩ := zc2_5 (w := w39) BK151.out; have hnb43 := NB144_0.out; have hnc43 := NB0_144.out; obtain ⟨hcz44_0, hcz44_1, hcz44_2, hcz44_3, hcz44_4, hfz44_0, hfz44_1, hfz44_2, hfz44_3, hfz44_4⟩ := zc2_5 (w := w39) BK144.out))
      refine bodyPost_ret (results_cell_row rfl _ _ gb144 52 #[.int .i64 t148, .int .i64 x152001_3, .int .i64 x152002_20, .int .i64 0, .int .i64 t162] (0, 0) _ rfl (by refine zP2 ?_; refine blk_put (cs := #[.int .i64 t148, .int .i64 x152001_3, .int .i64 x152002_20, .int .i64 0, .int .i64 0]) ?_ 4 _ rfl; refine zP2 ?_; refine blk_put (cs := #[.int .i64 t148, .int .i64 x152001_3, .int .i64 x152002_20, .int .i64 0, .int .i64 0]) ?_ 3 _ rfl; refine zP2 ?_; refine blk_put (cs := #[.int .i64 t148, .int .i64 x152001_3, .int .i64 0, .int .i64 0, .int .i64 0]) ?_ 2 _ rfl; refine zP2 ?_; refine blk_put (cs := #[.int .i64 t148, .int .i64 0, .int .i64 0, .int .i64 0, .int .i64 0]) ?_ 1 _ rfl; refine zP2 ?_; refine blk_put (cs := #[.int .i64 0, .int .i64 0, .int .i64 0, .int .i64 0, .int .i64 0]) ?_ 0 _ rfl; refine zP2 ?_; refine blk_far ?_ NB144_151.out _; refine zP2 ?_; exact BK144.out) Try.underlying52 rfl (by kernel_rfl)) rfl ?_
      exact ⟨zE2, zB2_6, zB2_8, zB2_7⟩
     rw [if_neg c28] at H
     have c28b0 : ((Go.bits .and .i64 t152 4) == 0) = false := beq_eq_false_iff_ne.mpr c28
     have c28b1 : ((Go.bits .and .i64 t152 4) != 0) = true := bne_iff_ne.mpr c28
     replace H := Option.bind_eq_some_iff.mp H
     obtain ⟨⟨t165, t166, t167⟩, A450, H⟩ := H
     replace H : (if (Go.bits .and .i64 t152 8) = 0 then (some (t148, x152001_3, x152002_20, t165, 0, t166, t167)) else ((spec_l1PickInt.f s0_0 t166 t167 (([0, 1, 2, 4, 8, 9, 12, 20, 23] : List Int))).bind fun bt171 => (some (t148, x152001_3, x152002_20, t165, bt171.1, bt171.2.1, bt171.2.2)))) = some (r1, r2, r3, r4, r5, r6, r7) := H
     have A45 := Aside0.mk A450
     clear A450
     by_cases c46 : (Go.bits .and .i64 t152 8) = 0
     ·rw [if_pos c46] at H
      have c46b0 : ((Go.bits .and .i64 t152 8) == 0) = true := beq_iff_eq.mpr c46
      have c46b1 : ((Go.bits .and .i64 t152 8) != 0) = false := bne_eq_false_iff_eq.mpr c46
      clear c46
      simp only [Option.some.injEq, Prod.mk.injEq] at H
      obtain ⟨rfl, rfl, rfl, rfl, rfl, rfl, rfl⟩ := H
      go_wp2_with (first | ((with_reducible refine gate_callee (f := 123) rfl ?_); refine goesL_ (some 28) rfl rfl Try.func123 (by kernel_rfl) rfl #[.pointer (some ⟨g, 0, none⟩), .int .i64 4] rfl zT2 ?_; (with_reducible refine (spec_l1Below.calls g s0_0 x1001_20 x1002_20 4 t165 t166 t167 w0 _ ?side1 ?side2 A45.out).mono ?_); (case side1 => repeat (first | (with_reducible first | exact HI0.out | apply IsS161.alloc | apply IsS161.drewN | apply IsS161.drew | apply IsS161.set_1 | apply IsS161.set_2 | refine IsS161.far ?_ NB0_144.out _ | refine IsS161.far ?_ NB0_151.out _) | exact HI0.out)); (case side2 => repeat (first | (with_reducible first | exact HB.out | apply below_alloc | apply pw_below_drewN | apply below_drew1 | refine below_set ?_ (IsS161.ge HI0.out) | refine below_set ?_ GE144.out | refine below_set ?_ GE151.out) | exact HB.out)); rintro e w47 ⟨rfl, hi, hb, hk⟩; refine ⟨_, rfl, ?_⟩; have n0_ := Aside0.mk (zh2 hk BK144.out NB144_0.out); have n1_ := Aside0.mk (zh2 hk BK151.out NB151_0.out); have n2_ := Aside0.mk (KeepBut.trans (zB2_7) hk (.inl rfl)); have n3_ := Aside0.mk (hb); have n4_ := Aside0.mk (hi); clear BK144; clear BK151; clear HK; clear HB; clear HI0; have BK144 := n0_; have BK151 := n1_; have HK := n2_; have HB := n3_; have HI0 := n4_; clear n0_ n1_ n2_ n3_ n4_; (try clear hb); (try clear hb2); (try clear hk); (try clear hi); have hnb48 := NB151_144.out; have hnc48 := NB144_151.out; have hnb49 := NB151_0.out; have hnc49 := NB0_151.out; obtain ⟨hcz50_0, hcz50_1, hcz50_2, hcz50_3, hcz50_4, hfz50_0, hfz50_1, hfz50_2, hfz50_3, hfz50_4⟩ := zc2_5 (w := w47) BK151.out; have hnb51 := NB144_0.out; have hnc51 := NB0_144.out; obtain ⟨hcz52_0, hcz52_1, hcz52_2, hcz52_3, hcz52_4, hfz52_0, hfz52_1, hfz52_2, hfz52_3, hfz52_4⟩ := zc2_5 (w := w47) BK144.out))
      refine bodyPost_ret (results_cell_row rfl _ _ gb144 52 #[.int .i64 t148, .int .i64 x152001_3, .int .i64 x152002_20, .int .i64 t165, .int .i64 0] (0, 0) _ rfl (by refine zP2 ?_; refine blk_put (cs := #[.int .i64 t148, .int .i64 x152001_3, .int .i64 x152002_20, .int .i64 t165, .int .i64 0]) ?_ 4 _ rfl; refine zP2 ?_; refine blk_put (cs := #[.int .i64 t148, .int .i64 x152001_3, .int .i64 x152002_20, .int .i64 0, .int .i64 0]) ?_ 3 _ rfl; refine zP2 ?_; refine blk_put (cs := #[.int .i64 t148, .int .i64 x152001_3, .int .i64 0, .int .i64 0, .int .i64 0]) ?_ 2 _ rfl; refine zP2 ?_; refine blk_put (cs := #[.int .i64 t148, .int .i64 0, .int .i64 0, .int .i64 0, .int .i64 0]) ?_ 1 _ rfl; refine zP2 ?_; refine blk_put (cs := #[.int .i64 0, .int .i64 0, .int .i64 0, .int .i64 0, .int .i64 0]) ?_ 0 _ rfl; refine zP2 ?_; refine blk_far ?_ NB144_151.out _; refine zP2 ?_; exact BK144.out) Try.underlying52 rfl (by kernel_rfl)) rfl ?_
      exact ⟨zE2, zB2_6, zB2_8, zB2_7⟩
     rw [if_neg c46] at H
     have c46b0 : ((Go.bits .and .i64 t152 8) == 0) = false := beq_eq_false_iff_ne.mpr c46
     have c46b1 : ((Go.bits .and .i64 t152 8) != 0) = true := bne_iff_ne.mpr c46
     obtain ⟨y168, hy168⟩ : ∃ y_ : List Int, y_ = (([0, 1, 2, 4, 8, 9, 12, 20, 23] : List Int)) := ⟨_, rfl⟩
     replace H : ((spec_l1PickInt.f s0_0 t166 t167 y168).bind fun bt171 => (some (t148, x152001_3, x152002_20, t165, bt171.1, bt171.2.1, bt171.2.2))) = some (r1, r2, r3, r4, r5, r6, r7) := by first | (rw [hy168]; with_reducible exact H) | (have H2_ := (Option.bind_some _ _).symm.trans H; rw [hy168]; with_reducible exact H2_) | (have H2_ := (Option.bind_some _ _).symm.trans H; with_reducible exact H2_) | with_reducible exact H | (rw [hy168]; exact H) | exact H
     have Ny168 := Aside0.mk hy168
     clear hy168
     replace H := Option.bind_eq_some_iff.mp H
     obtain ⟨⟨t171, t172, t173⟩, A530, H⟩ := H
     replace H : (some (t148, x152001_3, x152002_20, t165, t171, t172, t173)) = some (r1, r2, r3, r4, r5, r6, r7) := H
     have A53 := Aside0.mk A530
     clear A530
     simp only [Option.some.injEq, Prod.mk.injEq] at H
     obtain ⟨rfl, rfl, rfl, rfl, rfl, rfl, rfl⟩ := H
     go_wp2_with (first | ((with_reducible refine gate_callee (f := 123) rfl ?_); refine goesL_ (some 28) rfl rfl Try.func123 (by kernel_rfl) rfl #[.pointer (some ⟨g, 0, none⟩), .int .i64 4] rfl zT2 ?_; (with_reducible refine (spec_l1Below.calls g s0_0 x1001_20 x1002_20 4 t165 t166 t167 w0 _ ?side1 ?side2 A45.out).mono ?_); (case side1 => repeat (first | (with_reducible first | exact HI0.out | apply IsS161.alloc | apply IsS161.drewN | apply IsS161.drew | apply IsS161.set_1 | apply IsS161.set_2 | refine IsS161.far ?_ NB0_144.out _ | refine IsS161.far ?_ NB0_151.out _) | exact HI0.out)); (case side2 => repeat (first | (with_reducible first | exact HB.out | apply below_alloc | apply pw_below_drewN | apply below_drew1 | refine below_set ?_ (IsS161.ge HI0.out) | refine below_set ?_ GE144.out | refine below_set ?_ GE151.out) | exact HB.out)); rintro e w54 ⟨rfl, hi, hb, hk⟩; refine ⟨_, rfl, ?_⟩; have n0_ := Aside0.mk (zh2 hk BK144.out NB144_0.out); have n1_ := Aside0.mk (zh2 hk BK151.out NB151_0.out); have n2_ := Aside0.mk (KeepBut.trans (zB2_7) hk (.inl rfl)); have n3_ := Aside0.mk (hb); have n4_ := Aside0.mk (hi); clear BK144; clear BK151; clear HK; clear HB; clear HI0; have BK144 := n0_; have BK151 := n1_; have HK := n2_; have HB := n3_; have HI0 := n4_; clear n0_ n1_ n2_ n3_ n4_; (try clear hb); (try clear hb2); (try clear hk); (try clear hi); have hnb55 := NB151_144.out; have hnc55 := NB144_151.out; have hnb56 := NB151_0.out; have hnc56 := NB0_151.out; obtain ⟨hcz57_0, hcz57_1, hcz57_2, hcz57_3, hcz57_4, hfz57_0, hfz57_1, hfz57_2, hfz57_3, hfz57_4⟩ := zc2_5 (w := w54) BK151.out) | ((with_reducible refine gate_dst (N := 34) rfl ?_); refine Kd.R_lit (Kd.int .i64) _ 3 ?hg (N := 34) ?hd (xs := ([0, 1, 2, 4, 8, 9, 12, 20, 23] : List Int)) (inner := [.int .i64 0, .int .i64 1, .int .i64 2, .int .i64 4, .int .i64 8, .int .i64 9, .int .i64 12, .int .i64 20, .int .i64 23]) (ok := fun _ => True) (okp := fun _ => True) ?hr ?hp (fun _ hk => hk) trivial (Below.refl _ _) (Nat.le_refl _) (by simp) ?_; (case hd => rfl); (case hg => rfl); (case hr => first | (go_simp; done) | (go_simp; rfl)); (case hp => exact (Reps.one (show Kd.M (Kd.int .i64) _ _ _ 0 [.int .i64 0] from rfl) (Reps.one (show Kd.M (Kd.int .i64) _ _ _ 1 [.int .i64 1] from rfl) (Reps.one (show Kd.M (Kd.int .i64) _ _ _ 2 [.int .i64 2] from rfl) (Reps.one (show Kd.M (Kd.int .i64) _ _ _ 4 [.int .i64 4] from rfl) (Reps.one (show Kd.M (Kd.int .i64) _ _ _ 8 [.int .i64 8] from rfl) (Reps.one (show Kd.M (Kd.int .i64) _ _ _ 9 [.int .i64 9] from rfl) (Reps.one (show Kd.M (Kd.int .i64) _ _ _ 12 [.int .i64 12] from rfl) (Reps.one (show Kd.M (Kd.int .i64) _ _ _ 20 [.int .i64 20] from rfl) (Reps.one (show Kd.M (Kd.int .i64) _ _ _ 23 [.int .i64 23] from rfl) (Reps.none _ _))))))))))); intro v169 w58 ho59 hb hg_ hnew_; clear hg_ hnew_; (first | rw [← Ny168.out] at ho59 | (simp only [Int.reduceToNat] at ho59; rw [← Ny168.out] at ho59)); have n0_ := Aside0.mk (Kd.R_lower ho59 (keep_size (w := w) (g := g) (row := none) (zB2_7))); have n1_ := Aside0.mk (blk_below (g := gb144) (o := .cells #[.int .i64 0, .int .i64 0, .int .i64 0, .int .i64 0, .int .i64 0] 52 (0, 0)) (by refine zP2 ?_; refine blk_far ?_ NB144_151.out _; refine zP2 ?_; exact BK144.out) hb); have n2_ := Aside0.mk (blk_below (g := gb151) (o := .cells #[.int .i64 t148, .int .i64 x152001_3, .int .i64 x152002_20, .int .i64 t165, .int .i64 0] 52 (0, 0)) (by refine zP2 ?_; refine blk_put (cs := #[.int .i64 t148, .int .i64 x152001_3, .int .i64 x152002_20, .int .i64 0, .int .i64 0]) ?_ 3 _ rfl; refine zP2 ?_; exact BK151.out) hb); have n3_ := Aside0.mk (IsS161.below (show IsS161 w0 (w54.setCell ⟨gb151, 3, none⟩ (.int .i64 t165)) g s0_0 t166 t167 from zB2_6) hb); have n4_ := Aside0.mk (KeepBut.trans (zB2_7) (KeepBut.of_below hb g none) (.inl rfl)); have n5_ := Aside0.mk (below_step (zB2_8) hb); clear BK144; clear BK151; clear HI0; clear HK; clear HB; have HO170 := n0_; have BK144 := n1_; have BK151 := n2_; have HI0 := n3_; have HK := n4_; have HB := n5_; clear n0_ n1_ n2_ n3_ n4_ n5_; clear hb ho59; obtain ⟨Ao60, co60, eo60⟩ := Kd.R_slice HO170.out; subst eo60) | ((with_reducible refine gate_callee (f := 117) rfl ?_); refine goesL_ (some 35) rfl rfl Try.func117 (by kernel_rfl) rfl #[.pointer (some ⟨g, 0, none⟩), .slice Ao60 y168.length co60] rfl zT2 ?_; (with_reducible refine (spec_l1PickInt.calls g s0_0 t166 t167 _ _ y168 t171 t172 t173 w0 _ ?side1 ?side2 ?side3 ?side4 ?side5 A53.out).mono ?_); (case side1 => repeat (first | (with_reducible first | exact HI0.out | apply IsS161.alloc | apply IsS161.drewN | apply IsS161.drew | apply IsS161.set_1 | apply IsS161.set_2 | refine IsS161.far ?_ NB0_144.out _ | refine IsS161.far ?_ NB0_151.out _) | exact HI0.out)); (case side2 => repeat (first | (with_reducible first | exact HB.out | apply below_alloc | apply pw_below_drewN | apply below_drew1 | refine below_set ?_ (IsS161.ge HI0.out) | refine below_set ?_ GE144.out | refine below_set ?_ GE151.out) | exact HB.out)); (case side3 => exact zC2 (Kd.R_reads' HO170.out).2.2); (case side4 => exact (Kd.R_reads' HO170.out).2.1); (case side5 => exact far_slice (IsS161.own_ne HI0.out HO170.out (by decide))); rintro e w61 ⟨rfl, hi, hb, hk⟩; refine ⟨_, rfl, ?_⟩; have n0_ := Aside0.mk (zh2 hk BK144.out NB144_0.out); have n1_ := Aside0.mk (zh2 hk BK151.out NB151_0.out); have n2_ := Aside0.mk (Kd.R_mono (Kd.R_keep (IsS161.apart (show IsS161 w0 _ g s0_0 t166 t167 from zB2_6) (zR2 HO170.out) (by decide)) hk (fun _ h => h.2)) (fun _ h => h.1)); have n3_ := Aside0.mk (KeepBut.trans (zB2_7) hk (.inl rfl)); have n4_ := Aside0.mk (hb); have n5_ := Aside0.mk (hi); clear BK144; clear BK151; clear HO170; clear HK; clear HB; clear HI0; have BK144 := n0_; have BK151 := n1_; have HO170 := n2_; have HK := n3_; have HB := n4_; have HI0 := n5_; clear n0_ n1_ n2_ n3_ n4_ n5_; (try clear hb); (try clear hb2); (try clear hk); (try clear hi); obtain ⟨hcz62_0, hcz62_1, hcz62_2, hcz62_3, hcz62_4, hfz62_0, hfz62_1, hfz62_2, hfz62_3, hfz62_4⟩ := zc2_5 (w := w61) BK151.out; have hnb63 := NB144_0.out; have hnc63 := NB0_144.out; obtain ⟨hcz64_0, hcz64_1, hcz64_2, hcz64_3, hcz64_4, hfz64_0, hfz64_1, hfz64_2, hfz64_3, hfz64_4⟩ := zc2_5 (w := w61) BK144.out))
     refine bodyPost_ret (results_cell_row rfl _ _ gb144 52 #[.int .i64 t148, .int .i64 x152001_3, .int .i64 x152002_20, .int .i64 t165, .int .i64 t171] (0, 0) _ rfl (by refine zP2 ?_; refine blk_put (cs := #[.int .i64 t148, .int .i64 x152001_3, .int .i64 x152002_20, .int .i64 t165, .int .i64 0]) ?_ 4 _ rfl; refine zP2 ?_; refine blk_put (cs := #[.int .i64 t148, .int .i64 x152001_3, .int .i64 x152002_20, .int .i64 0, .int .i64 0]) ?_ 3 _ rfl; refine zP2 ?_; refine blk_put (cs := #[.int .i64 t148, .int .i64 x152001_3, .int .i64 0, .int .i64 0, .int .i64 0]) ?_ 2 _ rfl; refine zP2 ?_; refine blk_put (cs := #[.int .i64 t148, .int .i64 0, .int .i64 0, .int .i64 0, .int .i64 0]) ?_ 1 _ rfl; refine zP2 ?_; refine blk_put (cs := #[.int .i64 0, .int .i64 0, .int .i64 0, .int .i64 0, .int .i64 0]) ?_ 0 _ rfl; refine zP2 ?_; refine blk_far ?_ NB144_151.out _; refine zP2 ?_; exact BK144.out) Try.underlying52 rfl (by kernel_rfl)) rfl ?_
     exact ⟨zE2, zB2_6, zB2_8, zB2_7⟩

/-! ### spec_l9DrawMem: function 121 -/
mutual
def spec_l9DrawMem.l0 : Nat → List Int → Int → List Int → Int → Int → Option (List Int × Int × Int)
 | 0, _, _, _, _, _ => none
 | k + 1, x3, x4, x1000, x1001, x1002 => if x4 < 24 then ((spec_l8DrawIns.f k x1000 x1001 x1002).bind fun bt177 => ((spec_Code.f bt177.1 bt177.2.1 bt177.2.2.1 bt177.2.2.2.1 bt177.2.2.2.2.1).bind fun bt184 => (if x4 > 15 then ((spec_l1PickInt.f x1000 bt177.2.2.2.2.2.1 bt177.2.2.2.2.2.2 (([0, 1, 5, 65535] : List Int))).bind fun bt189 => (if x3.length < 17592186044416 then (spec_l9DrawMem.l0 k (x3 ++ [bt189.1]) (wrap64 (x4 + 1)) x1000 bt189.2.1 bt189.2.2) else (none))) else ((spec_l1Once.f x1000 bt177.2.2.2.2.2.1 bt177.2.2.2.2.2.2 9).bind fun bt195 => (if bt195.1 = true then ((spec_l1PickInt.f x1000 bt195.2.1 bt195.2.2 (([0, 1, 5, 65535] : List Int))).bind fun bt201 => (if x3.length < 17592186044416 then (spec_l9DrawMem.l0 k (x3 ++ [bt201.1]) (wrap64 (x4 + 1)) x1000 bt201.2.1 bt201.2.2) else (none))) else (if x3.length < 17592186044416 then (spec_l9DrawMem.l0 k (x3 ++ [bt184.1]) (wrap64 (x4 + 1)) x1000 bt195.2.1 bt195.2.2) else (none))))))) else ((spec_l1Below.f x1000 x1001 x1002 4).bind fun bt210 => (if bt210.1 = 0 then (spec_l9DrawMem.l1 k x3 (([(⟨1, 1, 0, 0, 1⟩ : S52), (⟨6, 2, 0, 1, 20⟩ : S52), (⟨10, 3, 2, 1, 0⟩ : S52), (⟨8, 0, 0, 0, 1⟩ : S52)] : List (S52))) 0 x1000 bt210.2.1 bt210.2.2) else (if bt210.1 = 1 then (spec_l9DrawMem.l2 k x3 (([(⟨4, 1, 0, 0, 8⟩ : S52), (⟨3, 1, 1, 0, 1⟩ : S52), (⟨5, 0, 0, 1, 8⟩ : S52), (⟨8, 0, 0, 0, 8⟩ : S52)] : List (S52))) 0 x1000 bt210.2.1 bt210.2.2) else (some (x3, bt210.2.1, bt210.2.2)))))
def spec_l9DrawMem.l1 : Nat → List Int → List (S52) → Int → List Int → Int → Int → Option (List Int × Int × Int)
 | 0, _, _, _, _, _, _ => none
 | k + 1, x3, x7, x8, x1000, x1001, x1002 => if x8 < (x7.length : Int) then (if 0 ≤ x8 then ((spec_Code.f ((rd_T52 x7 x8).f0) ((rd_T52 x7 x8).f1) ((rd_T52 x7 x8).f2) ((rd_T52 x7 x8).f3) ((rd_T52 x7 x8).f4)).bind fun bt217 => (if x8 < (x3.length : Int) then (spec_l9DrawMem.l1 k (x3.set (x8 : Int).toNat bt217.1) x7 (wrap64 (x8 + 1)) x1000 x1001 x1002) else (none))) else (none)) else (some (x3, x1001, x1002))
def spec_l9DrawMem.l2 : Nat → List Int → List (S52) → Int → List Int → Int → Int → Option (List Int × Int × Int)
 | 0, _, _, _, _, _, _ => none
 | k + 1, x3, x9, x10, x1000, x1001, x1002 => if x10 < (x9.length : Int) then (if 0 ≤ x10 then ((spec_Code.f ((rd_T52 x9 x10).f0) ((rd_T52 x9 x10).f1) ((rd_T52 x9 x10).f2) ((rd_T52 x9 x10).f3) ((rd_T52 x9 x10).f4)).bind fun bt224 => (if x10 < (x3.length : Int) then (spec_l9DrawMem.l2 k (x3.set (x10 : Int).toNat bt224.1) x9 (wrap64 (x10 + 1)) x1000 x1001 x1002) else (none))) else (none)) else (some (x3, x1001, x1002))
end
def spec_l9DrawMem.f (k : Nat) (s0_0 : List Int) (s0_1 : Int) (s0_2 : Int) : Option (List Int × Int × Int) := spec_l9DrawMem.l0 k (([] : List Int)) 0 s0_0 s0_1 s0_2
theorem spec_l9DrawMem.mono_l : ∀ k, (∀ y0 y1 y2 y3 y4, LeO (spec_l9DrawMem.l0 k y0 y1 y2 y3 y4) (spec_l9DrawMem.l0 (k + 1) y0 y1 y2 y3 y4)) ∧ (∀ y0 y1 y2 y3 y4 y5, LeO (spec_l9DrawMem.l1 k y0 y1 y2 y3 y4 y5) (spec_l9DrawMem.l1 (k + 1) y0 y1 y2 y3 y4 y5)) ∧ (∀ y0 y1 y2 y3 y4 y5, LeO (spec_l9DrawMem.l2 k y0 y1 y2 y3 y4 y5) (spec_l9DrawMem.l2 (k + 1) y0 y1 y2 y3 y4 y5))
 | 0 => ⟨fun _ _ _ _ _ r h => by simp [spec_l9DrawMem.l0] at h, fun _ _ _ _ _ _ r h => by simp [spec_l9DrawMem.l1] at h, fun _ _ _ _ _ _ r h => by simp [spec_l9DrawMem.l2] at h⟩
 | k + 1 => by
  obtain ⟨ih0, ih1, ih2⟩ := spec_l9DrawMem.mono_l k
  refine ⟨?_, ?_, ?_⟩
  ·intro y0 y1 y2 y3 y4
   unfold spec_l9DrawMem.l0
   repeat' first
   | (with_reducible exact ih0 _ _ _ _ _)
   | (with_reducible exact ih1 _ _ _ _ _ _)
   | (with_reducible exact ih2 _ _ _ _ _ _)
   | (with_reducible exact spec_l8DrawIns.mono _ _ _ _)
   | (with_reducible exact LeO.refl _)
   | (with_reducible exact LeO.none _)
   | (with_reducible refine LeO.ite ?_ ?_)
   | (with_reducible refine LeO.bind ?_ (fun _ => ?_))
   | exact ih0 _ _ _ _ _
   | exact ih1 _ _ _ _ _ _
   | exact ih2 _ _ _ _ _ _
   | exact spec_l8DrawIns.mono _ _ _ _
   | exact LeO.none _
   | refine LeO.ite ?_ ?_
   | refine LeO.bind ?_ (fun _ => ?_)
  ·intro y0 y1 y2 y3 y4 y5
   unfold spec_l9DrawMem.l1
   repeat' first
   | (with_reducible exact ih0 _ _ _ _ _)
   | (with_reducible exact ih1 _ _ _ _ _ _)
   | (with_reducible exact ih2 _ _ _ _ _ _)
   | (with_reducible exact spec_l8DrawIns.mono _ _ _ _)
   | (with_reducible exact LeO.refl _)
   | (with_reducible exact LeO.none _)
   | (with_reducible refine LeO.ite ?_ ?_)
   | (with_reducible refine LeO.bind ?_ (fun _ => ?_))
   | exact ih0 _ _ _ _ _
   | exact ih1 _ _ _ _ _ _
   | exact ih2 _ _ _ _ _ _
   | exact spec_l8DrawIns.mono _ _ _ _
   | exact LeO.none _
   | refine LeO.ite ?_ ?_
   | refine LeO.bind ?_ (fun _ => ?_)
  ·intro y0 y1 y2 y3 y4 y5
   unfold spec_l9DrawMem.l2
   repeat' first
   | (with_reducible exact ih0 _ _ _ _ _)
   | (with_reducible exact ih1 _ _ _ _ _ _)
   | (with_reducible exact ih2 _ _ _ _ _ _)
   | (with_reducible exact spec_l8DrawIns.mono _ _ _ _)
   | (with_reducible exact LeO.refl _)
   | (with_reducible exact LeO.none _)
   | (with_reducible refine LeO.ite ?_ ?_)
   | (with_reducible refine LeO.bind ?_ (fun _ => ?_))
   | exact ih0 _ _ _ _ _
   | exact ih1 _ _ _ _ _ _
   | exact ih2 _ _ _ _ _ _
   | exact spec_l8DrawIns.mono _ _ _ _
   | exact LeO.none _
   | refine LeO.ite ?_ ?_
   | refine LeO.bind ?_ (fun _ => ?_)
theorem spec_l9DrawMem.mono : ∀ a0 a1 a2 k, LeO (spec_l9DrawMem.f k a0 a1 a2) (spec_l9DrawMem.f (k + 1) a0 a1 a2) := by
 intro a0 a1 a2 k
 obtain ⟨ih0, ih1, ih2⟩ := spec_l9DrawMem.mono_l k
 unfold spec_l9DrawMem.f
 repeat' first
   | (with_reducible exact ih0 _ _ _ _ _)
   | (with_reducible exact ih1 _ _ _ _ _ _)
   | (with_reducible exact ih2 _ _ _ _ _ _)
   | (with_reducible exact spec_l8DrawIns.mono _ _ _ _)
   | (with_reducible exact LeO.refl _)
   | (with_reducible exact LeO.none _)
   | (with_reducible refine LeO.ite ?_ ?_)
   | (with_reducible refine LeO.bind ?_ (fun _ => ?_))
   | exact ih0 _ _ _ _ _
   | exact ih1 _ _ _ _ _ _
   | exact ih2 _ _ _ _ _ _
   | exact spec_l8DrawIns.mono _ _ _ _
   | exact LeO.none _
   | refine LeO.ite ?_ ?_
   | refine LeO.bind ?_ (fun _ => ?_)
set_option maxHeartbeats 8000000 in
set_option maxRecDepth 100000 in
theorem spec_l9DrawMem.calls (k : Nat) (g : Nat) (s0_0 : List Int) (s0_1 : Int) (s0_2 : Int) (r1 : List Int) (r2 : Int) (r3 : Int) (w0 w : World) (hI : IsS161 w0 w g s0_0 s0_1 s0_2) (hB : Below w0.heap.size w0 w) (h : spec_l9DrawMem.f k s0_0 s0_1 s0_2 = some (r1, r2, r3)) :
  Calls Try.prog 121 #[.pointer (some ⟨g, 0, none⟩)] w fun e w' => ∃ v0_ : Value, e = .returned (v0_) ∧ Kd.R (Kd.int .i64) 3 w' w.heap.size (fun _ => True) v0_ r1 ∧ IsS161 w0 w' g s0_0 r2 r3 ∧ Below w0.heap.size w0 w' ∧ KeepBut w w' g none := by
 have hu52 := Try.underlying52
 have HI0 := Aside0.mk hI
 have HK := Aside0.mk (KeepBut.refl w g none)
 have HL := Aside0.mk hB.size
 clear hI
 have HW0 := Aside0.mk hB.size
 have HB := Aside0.mk hB
 clear hB
 have H : (spec_l9DrawMem.l0 k (([] : List Int)) 0 s0_0 s0_1 s0_2) = some (r1, r2, r3) := h
 clear h
 obtain ⟨y174, hy174⟩ : ∃ y_ : List Int, y_ = (([] : List Int)) := ⟨_, rfl⟩
 replace H : (spec_l9DrawMem.l0 k y174 0 s0_0 s0_1 s0_2) = some (r1, r2, r3) := by first | (rw [hy174]; with_reducible exact H) | (have H2_ := (Option.bind_some _ _).symm.trans H; rw [hy174]; with_reducible exact H2_) | (have H2_ := (Option.bind_some _ _).symm.trans H; with_reducible exact H2_) | with_reducible exact H | (rw [hy174]; exact H) | exact H
 have Ny174 := Aside0.mk hy174
 clear hy174
 have H' := Aside0.mk H
 clear H
 go_enter Try.func121, Try.ntmps121
 go_wp2_with (first | ((with_reducible refine gate_dst (N := 11) rfl ?_); refine Kd.R_lit (Kd.int .i64) _ 3 ?hg (N := 11) ?hd (xs := ([] : List Int)) (inner := []) (ok := fun _ => True) (okp := fun _ => True) ?hr ?hp (fun _ hk => hk) trivial (Below.refl _ _) (Nat.le_refl _) (by simp) ?_; (case hd => rfl); (case hg => rfl); (case hr => first | (go_simp; done) | (go_simp; rfl)); (case hp => exact (Reps.none _ _)); intro v175 w2 ho3 hb hg_ hnew_; clear hg_ hnew_; (first | rw [← Ny174.out] at ho3 | (simp only [Int.reduceToNat] at ho3; rw [← Ny174.out] at ho3)); have n0_ := Aside0.mk (Kd.R_lower ho3 (keep_size (w := w) (g := g) (row := none) (zB2_1))); have n1_ := Aside0.mk (IsS161.below (zB2_0) hb); have n2_ := Aside0.mk (KeepBut.trans (zB2_1) (KeepBut.of_below hb g none) (.inl rfl)); have n3_ := Aside0.mk (below_step (zB2_2) hb); clear HI0; clear HK; clear HB; have HO176 := n0_; have HI0 := n1_; have HK := n2_; have HB := n3_; clear n0_ n1_ n2_ n3_; clear hb ho3))
 go_loopg [3, 4] k (fun kq v3 v4 w' => ∃ (x3_1 : List Int) (x4_1 : Int) (x1001_1 : Int) (x1002_1 : Int), v4 = .int .i64 x4_1 ∧ Aside0 (spec_l9DrawMem.l0 kq x3_1 x4_1 s0_0 x1001_1 x1002_1 = some (r1, r2, r3)) ∧ Aside0 (kq ≤ k) ∧ Aside0 (Kd.R (Kd.int .i64) 3 w' w.heap.size (fun _ => True) v3 x3_1) ∧ Aside0 (IsS161 w0 w' g s0_0 x1001_1 x1002_1) ∧ Aside0 (KeepBut w w' g none) ∧ Aside0 (Below w0.heap.size w0 w'))
 case atStart => exact ⟨(y174), (0), (s0_1), (s0_2), (by first | rfl | (simp; done) | (simp [*]; done)), H', ⟨Nat.le_refl _⟩, ⟨zR2 HO176.out⟩, ⟨zB2_0⟩, ⟨zB2_1⟩, ⟨zB2_2⟩⟩
 case round =>
  clear H'
  try clear c1
  try clear p2
  obtain ⟨x3_1, x4_1, x1001_1, x1002_1, rfl, HA, HK1, HO_3, HI0, HK, HB⟩ := hrel
  cases gk with
  | zero => exact absurd HA.out (by simp [spec_l9DrawMem.l0])
  | succ k1 =>
   have H := HA.out
   clear HA
   simp only [spec_l9DrawMem.l0] at H
   by_cases c4 : x4_1 < 24
   rotate_left
   ·rw [if_neg c4] at H
    have c4b0 : decide (x4_1 < 24) = false := decide_eq_false c4
    clear c4
    replace H := Option.bind_eq_some_iff.mp H
    obtain ⟨⟨t210, t211, t212⟩, A340, H⟩ := H
    replace H : (if t210 = 0 then (spec_l9DrawMem.l1 k1 x3_1 (([(⟨1, 1, 0, 0, 1⟩ : S52), (⟨6, 2, 0, 1, 20⟩ : S52), (⟨10, 3, 2, 1, 0⟩ : S52), (⟨8, 0, 0, 0, 1⟩ : S52)] : List (S52))) 0 s0_0 t211 t212) else (if t210 = 1 then (spec_l9DrawMem.l2 k1 x3_1 (([(⟨4, 1, 0, 0, 8⟩ : S52), (⟨3, 1, 1, 0, 1⟩ : S52), (⟨5, 0, 0, 1, 8⟩ : S52), (⟨8, 0, 0, 0, 8⟩ : S52)] : List (S52))) 0 s0_0 t211 t212) else (some (x3_1, t211, t212)))) = some (r1, r2, r3) := H
    have A34 := Aside0.mk A340
    clear A340
    by_cases c35 : t210 = 0
    ·rw [if_pos c35] at H
     have c35b0 : (t210 == 0) = true := beq_iff_eq.mpr c35
     have c35b1 : (t210 != 0) = false := bne_eq_false_iff_eq.mpr c35
     clear c35
     obtain ⟨y213, hy213⟩ : ∃ y_ : List (S52), y_ = (([(⟨1, 1, 0, 0, 1⟩ : S52), (⟨6, 2, 0, 1, 20⟩ : S52), (⟨10, 3, 2, 1, 0⟩ : S52), (⟨8, 0, 0, 0, 1⟩ : S52)] : List (S52))) := ⟨_, rfl⟩
     replace H : (spec_l9DrawMem.l1 k1 x3_1 y213 0 s0_0 t211 t212) = some (r1, r2, r3) := by first | (rw [hy213]; with_reducible exact H) | (have H2_ := (Option.bind_some _ _).symm.trans H; rw [hy213]; with_reducible exact H2_) | (have H2_ := (Option.bind_some _ _).symm.trans H; with_reducible exact H2_) | with_reducible exact H | (rw [hy213]; exact H) | exact H
     have Ny213 := Aside0.mk hy213
     clear hy213
     have H' := Aside0.mk H
     clear H
     go_wp2_with (first | ((with_reducible refine gate_callee (f := 123) rfl ?_); refine goesL_ (some 36) rfl rfl Try.func123 (by kernel_rfl) rfl #[.pointer (some ⟨g, 0, none⟩), .int .i64 4] rfl zT2 ?_; (with_reducible refine (spec_l1Below.calls g s0_0 x1001_1 x1002_1 4 t210 t211 t212 w0 _ ?side1 ?side2 A34.out).mono ?_); (case side1 => repeat (first | (with_reducible first | exact HI0.out | apply IsS161.alloc | apply IsS161.drewN | apply IsS161.drew | apply IsS161.set_1 | apply IsS161.set_2) | exact HI0.out)); (case side2 => repeat (first | (with_reducible first | exact HB.out | apply below_alloc | apply pw_below_drewN | apply below_drew1 | refine below_set ?_ (IsS161.ge HI0.out)) | exact HB.out)); rintro e w36 ⟨rfl, hi, hb, hk⟩; refine ⟨_, rfl, ?_⟩; have n0_ := Aside0.mk (Kd.R_mono (Kd.R_keep (IsS161.apart (show IsS161 w0 _ g s0_0 x1001_1 x1002_1 from zB2_0) (zR2 HO_3.out) (by decide)) hk (fun _ h => h.2)) (fun _ h => h.1)); have n1_ := Aside0.mk (KeepBut.trans (zB2_1) hk (.inl rfl)); have n2_ := Aside0.mk (hb); have n3_ := Aside0.mk (hi); clear HO_3; clear HK; clear HB; clear HI0; have HO_3 := n0_; have HK := n1_; have HB := n2_; have HI0 := n3_; clear n0_ n1_ n2_ n3_; (try clear hb); (try clear hb2); (try clear hk); (try clear hi)) | ((with_reducible refine gate_dst (N := 43) rfl ?_); refine Kd.R_lit k52 _ 52 ?hg (N := 43) ?hd (xs := ([(⟨1, 1, 0, 0, 1⟩ : S52), (⟨6, 2, 0, 1, 20⟩ : S52), (⟨10, 3, 2, 1, 0⟩ : S52), (⟨8, 0, 0, 0, 1⟩ : S52)] : List (S52))) (inner := [.int .i64 1, .int .i64 1, .int .i64 0, .int .i64 0, .int .i64 1, .int .i64 6, .int .i64 2, .int .i64 0, .int .i64 1, .int .i64 20, .int .i64 10, .int .i64 3, .int .i64 2, .int .i64 1, .int .i64 0, .int .i64 8, .int .i64 0, .int .i64 0, .int .i64 0, .int .i64 1]) (ok := fun _ => True) (okp := fun _ => True) ?hr ?hp (fun _ hk => hk) trivial (Below.refl _ _) (Nat.le_refl _) (by simp) ?_; (case hd => rfl); (case hg => rfl); (case hr => first | (go_simp; done) | (go_simp; rfl)); (case hp => exact (Reps.c5 (show Kd.M k52 _ _ _ (⟨1, 1, 0, 0, 1⟩ : S52) [.int .i64 1, .int .i64 1, .int .i64 0, .int .i64 0, .int .i64 1] from (k52_mkM _ _ _ (⟨1, 1, 0, 0, 1⟩ : S52) )) (Reps.c5 (show Kd.M k52 _ _ _ (⟨6, 2, 0, 1, 20⟩ : S52) [.int .i64 6, .int .i64 2, .int .i64 0, .int .i64 1, .int .i64 20] from (k52_mkM _ _ _ (⟨6, 2, 0, 1, 20⟩ : S52) )) (Reps.c5 (show Kd.M k52 _ _ _ (⟨10, 3, 2, 1, 0⟩ : S52) [.int .i64 10, .int .i64 3, .int .i64 2, .int .i64 1, .int .i64 0] from (k52_mkM _ _ _ (⟨10, 3, 2, 1, 0⟩ : S52) )) (Reps.c5 (show Kd.M k52 _ _ _ (⟨8, 0, 0, 0, 1⟩ : S52) [.int .i64 8, .int .i64 0, .int .i64 0, .int .i64 0, .int .i64 1] from (k52_mkM _ _ _ (⟨8, 0, 0, 0, 1⟩ : S52) )) (Reps.none _ _)))))); intro v214 w37 ho38 hb hg_ hnew_; clear hg_ hnew_; (first | rw [← Ny213.out] at ho38 | (simp only [Int.reduceToNat] at ho38; rw [← Ny213.out] at ho38)); have n0_ := Aside0.mk (Kd.R_below (zR2 HO_3.out) hb); have n1_ := Aside0.mk (Kd.R_lower ho38 (keep_size (w := w) (g := g) (row := none) (zB2_1))); have n2_ := Aside0.mk (IsS161.below (zB2_0) hb); have n3_ := Aside0.mk (KeepBut.trans (zB2_1) (KeepBut.of_below hb g none) (.inl rfl)); have n4_ := Aside0.mk (below_step (zB2_2) hb); clear HO_3; clear HI0; clear HK; clear HB; have HO_3 := n0_; have HO215 := n1_; have HI0 := n2_; have HK := n3_; have HB := n4_; clear n0_ n1_ n2_ n3_ n4_; clear hb ho38))
     go_loopg [8] k1 (fun kq v8 w' => ∃ (x3_2 : List Int) (x8_2 : Int), v8 = .int .i64 x8_2 ∧ Aside0 (spec_l9DrawMem.l1 kq x3_2 y213 x8_2 s0_0 t211 t212 = some (r1, r2, r3)) ∧ Aside0 (kq ≤ k1) ∧ Aside0 (Kd.R (Kd.int .i64) 3 w' w.heap.size (fun _ => True) u3 x3_2) ∧ Aside0 (Kd.R k52 52 w' w.heap.size (fun _ => True) v214 y213) ∧ Aside0 (IsS161 w0 w' g s0_0 t211 t212) ∧ Aside0 (KeepBut w w' g none) ∧ Aside0 (Below w0.heap.size w0 w'))
     case atStart => exact ⟨(x3_1), (0), (by first | rfl | (simp; done) | (simp [*]; done)), H', ⟨Nat.le_refl _⟩, ⟨zR2 HO_3.out⟩, ⟨zR2 HO215.out⟩, ⟨zB2_0⟩, ⟨zB2_1⟩, ⟨zB2_2⟩⟩
     case round =>
      clear H'
      try clear c1
      try clear c2
      try clear p2
      try clear c3
      try clear c4
      try clear c4b0
      try clear c5
      try clear p6
      try clear c7
      try clear c7b0
      try clear c9
      try clear c10
      try clear c11
      try clear c12
      try clear c15
      try clear c18
      try clear c20
      try clear c29
      try clear c35
      try clear c35b0
      try clear c35b1
      try clear p2
      obtain ⟨x3_2, x8_2, rfl, HA, HK2, HO_3, HO_7, HI0, HK, HB⟩ := hrel
      cases gk with
      | zero => exact absurd HA.out (by simp [spec_l9DrawMem.l1])
      | succ k2 =>
       have H := HA.out
       clear HA
       simp only [spec_l9DrawMem.l1] at H
       by_cases c39 : x8_2 < (y213.length : Int)
       rotate_left
       ·rw [if_neg c39] at H
        have c39b0 : decide (x8_2 < (y213.length : Int)) = false := decide_eq_false c39
        clear c39
        simp only [Option.some.injEq, Prod.mk.injEq] at H
        obtain ⟨rfl, rfl, rfl⟩ := H
        obtain ⟨Ao48, co48, eo48⟩ := Kd.R_slice HO_7.out
        subst eo48
        go_wp2
        go_ret
        exact ⟨_, zE2, zR2 HO_3.out, zB2_0, zB2_2, zB2_1⟩
       rw [if_pos c39] at H
       have c39b0 : decide (x8_2 < (y213.length : Int)) = true := decide_eq_true c39
       clear c39
       by_cases c40 : 0 ≤ x8_2
       rotate_left
       ·rw [if_neg c40] at H
        exact absurd H (by simp)
       rw [if_pos c40] at H
       have c40b0 : decide (0 ≤ x8_2) = true := decide_eq_true c40
       clear c40
       replace H := Option.bind_eq_some_iff.mp H
       obtain ⟨⟨t217, t218⟩, A410, H⟩ := H
       replace H : (if x8_2 < (x3_2.length : Int) then (spec_l9DrawMem.l1 k2 (x3_2.set (x8_2 : Int).toNat t217) y213 (wrap64 (x8_2 + 1)) s0_0 t211 t212) else (none)) = some (r1, r2, r3) := H
       have A41 := Aside0.mk A410
       clear A410
       by_cases c42 : x8_2 < (x3_2.length : Int)
       rotate_left
       ·rw [if_neg c42] at H
        exact absurd H (by simp)
       rw [if_pos c42] at H
       have c42b0 : decide (x8_2 < (x3_2.length : Int)) = true := decide_eq_true c42
       clear c42
       obtain ⟨y219, hy219⟩ : ∃ y_ : List Int, y_ = (x3_2.set (x8_2 : Int).toNat t217) := ⟨_, rfl⟩
       replace H : (spec_l9DrawMem.l1 k2 y219 y213 (wrap64 (x8_2 + 1)) s0_0 t211 t212) = some (r1, r2, r3) := by first | (rw [hy219]; with_reducible exact H) | (have H2_ := (Option.bind_some _ _).symm.trans H; rw [hy219]; with_reducible exact H2_) | (have H2_ := (Option.bind_some _ _).symm.trans H; with_reducible exact H2_) | with_reducible exact H | (rw [hy219]; exact H) | exact H
       have Ny219 := Aside0.mk hy219
       clear hy219
       have H' := Aside0.mk H
       clear H
       obtain ⟨Ao44, co44, eo44⟩ := Kd.R_slice HO_7.out
       subst eo44
       have p216 : 0 ≤ (x8_2 : Int) := zA2
       have q216 : x8_2 < (y213.length : Int) := zA2
       obtain ⟨ad216, e216, hx216_0, hx216_1, hx216_2, hx216_3, hx216_4⟩ := at_T52 (Kd.R_reads' HO_7.out).2.2 x8_2 p216 q216
       cases e216
       replace p216 := eq_true p216
       replace q216 := eq_true q216
       go_wp2_with (first | ((with_reducible refine gate_callee (f := 103) rfl ?_); refine goesL_ (some 57) rfl rfl Try.func103 (by kernel_rfl) rfl #[.agg #[.int .i64 ((rd_T52 y213 x8_2).f0), .int .i64 ((rd_T52 y213 x8_2).f1), .int .i64 ((rd_T52 y213 x8_2).f2), .int .i64 ((rd_T52 y213 x8_2).f3), .int .i64 ((rd_T52 y213 x8_2).f4)]] rfl zT2 ?_; (with_reducible refine (spec_Code.calls ((rd_T52 y213 x8_2).f0) ((rd_T52 y213 x8_2).f1) ((rd_T52 y213 x8_2).f2) ((rd_T52 y213 x8_2).f3) ((rd_T52 y213 x8_2).f4) t217 t218 _ A41.out).mono ?_); rintro e w45 ⟨rfl, hb⟩; refine ⟨_, rfl, ?_⟩; have n0_ := Aside0.mk (Kd.R_below (zR2 HO_3.out) hb); have n1_ := Aside0.mk (Kd.R_below (zR2 HO_7.out) hb); have n2_ := Aside0.mk (IsS161.below (zB2_0) hb); have n3_ := Aside0.mk (KeepBut.trans (zB2_1) (KeepBut.of_below hb g none) (.inl rfl)); have n4_ := Aside0.mk (below_step (zB2_2) hb); clear HO_3; clear HO_7; clear HI0; clear HK; clear HB; have HO_3 := n0_; have HO_7 := n1_; have HI0 := n2_; have HK := n3_; have HB := n4_; clear n0_ n1_ n2_ n3_ n4_; (try clear hb); (try clear hb2); (try clear hk); (try clear hi); have p43 : 0 ≤ (x8_2 : Int) := zA2; have q43 : (x8_2 : Int) < ((x3_2.length : Int) : Int) := zA2; obtain ⟨go43, co43, eo43, gb43, gl43, cl43, HG43⟩ := Kd.R_form HO_3.out (by omega); (first | cases eo43 | (injection eo43 with ea_ en_ ec_; (first | subst ea_ | (injection ea_ with ea_; subst ea_)); subst ec_; clear en_)); have GB43 := Aside0.mk gb43; have GG43 := Aside0.mk HG43; clear gb43 gl43 HG43; obtain ⟨hx43_0, hf43_0⟩ := Kd.R_celln 0 HO_3.out (x8_2 : Int) p43 q43; replace p43 := eq_true p43; replace q43 := eq_true q43; obtain ⟨hy46_, hz46_⟩ := Kd.R_celln 0 HO_3.out (x8_2 : Int) (zA2) (zA2); have HP46 := Kd.R_putg HO_3.out (x8_2 : Int) t217) | ((with_reducible refine gate_store (t := 3) (p := 60) rfl ?_); refine store_event (t := 3) (p := 60) (v := ?vo_w47) (w1 := (w45.setCell ⟨go43, (x8_2 : Int).toNat, none⟩ (.int .i64 t217))) ?hg ?ho ?hn ?hr ?_; (case ho => rfl); (case hg => rfl); (case hn => rfl); (case hr => first | (go_simp; done) | (go_simp; rfl)); intro w47 hw; have hg : w45.grownBy w47 (some go43) := (by rw [hw]; exact HP46.2); have hp_ : Kd.R (Kd.int .i64) 3 w47 w.heap.size (fun _ => True) (.slice (some ⟨go43, 0, none⟩) x3_2.length co43) y219 := (by rw [hw, Ny219.out]; exact HP46.1); clear HP46; have n0_ := Aside0.mk (hp_); have n1_ := Aside0.mk (Kd.R_over' (v := (.slice (some ⟨go43, 0, none⟩) x3_2.length co43)) (zR2 HO_7.out) (Kd.R_typed HO_3.out) (by decide) hg); have n2_ := Aside0.mk (IsS161.grown (zB2_0) hg (IsS161.own_ne HI0.out HO_3.out (by decide))); have n3_ := Aside0.mk ((by rw [hw]; exact below_set (HB.out) (Nat.le_trans HL.out GB43.out) : Below w0.heap.size w0 w47)); have n4_ := Aside0.mk (KeepBut.trans (zB2_1) (KeepBut.of_grown hg g) (Kd.R_base2 HO_3.out)); clear HO_3; clear HO_7; clear HI0; clear HB; clear HK; have HO_3 := n0_; have HO_7 := n1_; have HI0 := n2_; have HB := n3_; have HK := n4_; clear n0_ n1_ n2_ n3_ n4_; clear hg hw hp_))
       go_roundg k2
       case measure => have := HK1.out; have := HK2.out; omega
       case rel => exact ⟨(y219), (wrap64 (x8_2 + 1)), (by first | rfl | (simp; done) | (simp [*]; done)), H', ⟨by have := HK1.out; have := HK2.out; omega⟩, ⟨zR2 HO_3.out⟩, ⟨zR2 HO_7.out⟩, ⟨zB2_0⟩, ⟨zB2_1⟩, ⟨zB2_2⟩⟩
    rw [if_neg c35] at H
    have c35b0 : (t210 == 0) = false := beq_eq_false_iff_ne.mpr c35
    have c35b1 : (t210 != 0) = true := bne_iff_ne.mpr c35
    by_cases c49 : t210 = 1
    rotate_left
    ·rw [if_neg c49] at H
     have c49b0 : (t210 == 1) = false := beq_eq_false_iff_ne.mpr c49
     have c49b1 : (t210 != 1) = true := bne_iff_ne.mpr c49
     simp only [Option.some.injEq, Prod.mk.injEq] at H
     obtain ⟨rfl, rfl, rfl⟩ := H
     go_wp2_with (first | ((with_reducible refine gate_callee (f := 123) rfl ?_); refine goesL_ (some 36) rfl rfl Try.func123 (by kernel_rfl) rfl #[.pointer (some ⟨g, 0, none⟩), .int .i64 4] rfl zT2 ?_; (with_reducible refine (spec_l1Below.calls g s0_0 x1001_1 x1002_1 4 t210 t211 t212 w0 _ ?side1 ?side2 A34.out).mono ?_); (case side1 => repeat (first | (with_reducible first | exact HI0.out | apply IsS161.alloc | apply IsS161.drewN | apply IsS161.drew | apply IsS161.set_1 | apply IsS161.set_2) | exact HI0.out)); (case side2 => repeat (first | (with_reducible first | exact HB.out | apply below_alloc | apply pw_below_drewN | apply below_drew1 | refine below_set ?_ (IsS161.ge HI0.out)) | exact HB.out)); rintro e w63 ⟨rfl, hi, hb, hk⟩; refine ⟨_, rfl, ?_⟩; have n0_ := Aside0.mk (Kd.R_mono (Kd.R_keep (IsS161.apart (show IsS161 w0 _ g s0_0 x1001_1 x1002_1 from zB2_0) (zR2 HO_3.out) (by decide)) hk (fun _ h => h.2)) (fun _ h => h.1)); have n1_ := Aside0.mk (KeepBut.trans (zB2_1) hk (.inl rfl)); have n2_ := Aside0.mk (hb); have n3_ := Aside0.mk (hi); clear HO_3; clear HK; clear HB; clear HI0; have HO_3 := n0_; have HK := n1_; have HB := n2_; have HI0 := n3_; clear n0_ n1_ n2_ n3_; (try clear hb); (try clear hb2); (try clear hk); (try clear hi)))
     go_ret
     exact ⟨_, zE2, zR2 HO_3.out, zB2_0, zB2_2, zB2_1⟩
    rw [if_pos c49] at H
    have c49b0 : (t210 == 1) = true := beq_iff_eq.mpr c49
    have c49b1 : (t210 != 1) = false := bne_eq_false_iff_eq.mpr c49
    clear c49
    obtain ⟨y220, hy220⟩ : ∃ y_ : List (S52), y_ = (([(⟨4, 1, 0, 0, 8⟩ : S52), (⟨3, 1, 1, 0, 1⟩ : S52), (⟨5, 0, 0, 1, 8⟩ : S52), (⟨8, 0, 0, 0, 8⟩ : S52)] : List (S52))) := ⟨_, rfl⟩
    replace H : (spec_l9DrawMem.l2 k1 x3_1 y220 0 s0_0 t211 t212) = some (r1, r2, r3) := by first | (rw [hy220]; with_reducible exact H) | (have H2_ := (Option.bind_some _ _).symm.trans H; rw [hy220]; with_reducible exact H2_) | (have H2_ := (Option.bind_some _ _).symm.trans H; with_reducible exact H2_) | with_reducible exact H | (rw [hy220]; exact H) | exact H
    have Ny220 := Aside0.mk hy220
    clear hy220
    have H' := Aside0.mk H
    clear H
    go_wp2_with (first | ((with_reducible refine gate_callee (f := 123) rfl ?_); refine goesL_ (some 36) rfl rfl Try.func123 (by kernel_rfl) rfl #[.pointer (some ⟨g, 0, none⟩), .int .i64 4] rfl zT2 ?_; (with_reducible refine (spec_l1Below.calls g s0_0 x1001_1 x1002_1 4 t210 t211 t212 w0 _ ?side1 ?side2 A34.out).mono ?_); (case side1 => repeat (first | (with_reducible first | exact HI0.out | apply IsS161.alloc | apply IsS161.drewN | apply IsS161.drew | apply IsS161.set_1 | apply IsS161.set_2) | exact HI0.out)); (case side2 => repeat (first | (with_reducible first | exact HB.out | apply below_alloc | apply pw_below_drewN | apply below_drew1 | refine below_set ?_ (IsS161.ge HI0.out)) | exact HB.out)); rintro e w50 ⟨rfl, hi, hb, hk⟩; refine ⟨_, rfl, ?_⟩; have n0_ := Aside0.mk (Kd.R_mono (Kd.R_keep (IsS161.apart (show IsS161 w0 _ g s0_0 x1001_1 x1002_1 from zB2_0) (zR2 HO_3.out) (by decide)) hk (fun _ h => h.2)) (fun _ h => h.1)); have n1_ := Aside0.mk (KeepBut.trans (zB2_1) hk (.inl rfl)); have n2_ := Aside0.mk (hb); have n3_ := Aside0.mk (hi); clear HO_3; clear HK; clear HB; clear HI0; have HO_3 := n0_; have HK := n1_; have HB := n2_; have HI0 := n3_; clear n0_ n1_ n2_ n3_; (try clear hb); (try clear hb2); (try clear hk); (try clear hi)) | ((with_reducible refine gate_dst (N := 67) rfl ?_); refine Kd.R_lit k52 _ 52 ?hg (N := 67) ?hd (xs := ([(⟨4, 1, 0, 0, 8⟩ : S52), (⟨3, 1, 1, 0, 1⟩ : S52), (⟨5, 0, 0, 1, 8⟩ : S52), (⟨8, 0, 0, 0, 8⟩ : S52)] : List (S52))) (inner := [.int .i64 4, .int .i64 1, .int .i64 0, .int .i64 0, .int .i64 8, .int .i64 3, .int .i64 1, .int .i64 1, .int .i64 0, .int .i64 1, .int .i64 5, .int .i64 0, .int .i64 0, .int .i64 1, .int .i64 8, .int .i64 8, .int .i64 0, .int .i64 0, .int .i64 0, .int .i64 8]) (ok := fun _ => True) (okp := fun _ => True) ?hr ?hp (fun _ hk => hk) trivial (Below.refl _ _) (Nat.le_refl _) (by simp) ?_; (case hd => rfl); (case hg => rfl); (case hr => first | (go_simp; done) | (go_simp; rfl)); (case hp => exact (Reps.c5 (show Kd.M k52 _ _ _ (⟨4, 1, 0, 0, 8⟩ : S52) [.int .i64 4, .int .i64 1, .int .i64 0, .int .i64 0, .int .i64 8] from (k52_mkM _ _ _ (⟨4, 1, 0, 0, 8⟩ : S52) )) (Reps.c5 (show Kd.M k52 _ _ _ (⟨3, 1, 1, 0, 1⟩ : S52) [.int .i64 3, .int .i64 1, .int .i64 1, .int .i64 0, .int .i64 1] from (k52_mkM _ _ _ (⟨3, 1, 1, 0, 1⟩ : S52) )) (Reps.c5 (show Kd.M k52 _ _ _ (⟨5, 0, 0, 1, 8⟩ : S52) [.int .i64 5, .int .i64 0, .int .i64 0, .int .i64 1, .int .i64 8] from (k52_mkM _ _ _ (⟨5, 0, 0, 1, 8⟩ : S52) )) (Reps.c5 (show Kd.M k52 _ _ _ (⟨8, 0, 0, 0, 8⟩ : S52) [.int .i64 8, .int .i64 0, .int .i64 0, .int .i64 0, .int .i64 8] from (k52_mkM _ _ _ (⟨8, 0, 0, 0, 8⟩ : S52) )) (Reps.none _ _)))))); intro v221 w51 ho52 hb hg_ hnew_; clear hg_ hnew_; (first | rw [← Ny220.out] at ho52 | (simp only [Int.reduceToNat] at ho52; rw [← Ny220.out] at ho52)); have n0_ := Aside0.mk (Kd.R_below (zR2 HO_3.out) hb); have n1_ := Aside0.mk (Kd.R_lower ho52 (keep_size (w := w) (g := g) (row := none) (zB2_1))); have n2_ := Aside0.mk (IsS161.below (zB2_0) hb); have n3_ := Aside0.mk (KeepBut.trans (zB2_1) (KeepBut.of_below hb g none) (.inl rfl)); have n4_ := Aside0.mk (below_step (zB2_2) hb); clear HO_3; clear HI0; clear HK; clear HB; have HO_3 := n0_; have HO222 := n1_; have HI0 := n2_; have HK := n3_; have HB := n4_; clear n0_ n1_ n2_ n3_ n4_; clear hb ho52))
    go_loopg [10] k1 (fun kq v10 w' => ∃ (x3_2 : List Int) (x10_2 : Int), v10 = .int .i64 x10_2 ∧ Aside0 (spec_l9DrawMem.l2 kq x3_2 y220 x10_2 s0_0 t211 t212 = some (r1, r2, r3)) ∧ Aside0 (kq ≤ k1) ∧ Aside0 (Kd.R (Kd.int .i64) 3 w' w.heap.size (fun _ => True) u3 x3_2) ∧ Aside0 (Kd.R k52 52 w' w.heap.size (fun _ => True) v221 y220) ∧ Aside0 (IsS161 w0 w' g s0_0 t211 t212) ∧ Aside0 (KeepBut w w' g none) ∧ Aside0 (Below w0.heap.size w0 w'))
    case atStart => exact ⟨(x3_1), (0), (by first | rfl | (simp; done) | (simp [*]; done)), H', ⟨Nat.le_refl _⟩, ⟨zR2 HO_3.out⟩, ⟨zR2 HO222.out⟩, ⟨zB2_0⟩, ⟨zB2_1⟩, ⟨zB2_2⟩⟩
    case round =>
     clear H'
     try clear c1
     try clear c2
     try clear p2
     try clear q2
     try clear hx2
     try clear c3
     try clear c4
     try clear c4b0
     try clear p4
     try clear q4
     try clear hx4
     try clear hf4
     try clear c5
     try clear p6
     try clear c7
     try clear c7b0
     try clear c9
     try clear c10
     try clear c11
     try clear c12
     try clear c15
     try clear c18
     try clear c20
     try clear p21
     try clear q21
     try clear hx21
     try clear c29
     try clear c35
     try clear c35b0
     try clear c35b1
     try clear c39
     try clear c39b0
     try clear c40
     try clear c40b0
     try clear c42
     try clear c42b0
     try clear p43
     try clear q43
     try clear hx43
     try clear hf43
     try clear c49
     try clear c49b0
     try clear c49b1
     try clear hx216_0
     try clear hx216_1
     try clear hx216_2
     try clear hx216_3
     try clear hx216_4
     try clear hx43_0
     try clear p2
     try clear p216
     try clear p43
     try clear p6
     try clear q216
     try clear q43
     obtain ⟨x3_2, x10_2, rfl, HA, HK2, HO_3, HO_9, HI0, HK, HB⟩ := hrel
     cases gk with
     | zero => exact absurd HA.out (by simp [spec_l9DrawMem.l2])
     | succ k2 =>
      have H := HA.out
      clear HA
      simp only [spec_l9DrawMem.l2] at H
      by_cases c53 : x10_2 < (y220.length : Int)
      rotate_left
      ·rw [if_neg c53] at H
       have c53b0 : decide (x10_2 < (y220.length : Int)) = false := decide_eq_false c53
       clear c53
       simp only [Option.some.injEq, Prod.mk.injEq] at H
       obtain ⟨rfl, rfl, rfl⟩ := H
       obtain ⟨Ao62, co62, eo62⟩ := Kd.R_slice HO_9.out
       subst eo62
       go_wp2
       go_ret
       exact ⟨_, zE2, zR2 HO_3.out, zB2_0, zB2_2, zB2_1⟩
      rw [if_pos c53] at H
      have c53b0 : decide (x10_2 < (y220.length : Int)) = true := decide_eq_true c53
      clear c53
      by_cases c54 : 0 ≤ x10_2
      rotate_left
      ·rw [if_neg c54] at H
       exact absurd H (by simp)
      rw [if_pos c54] at H
      have c54b0 : decide (0 ≤ x10_2) = true := decide_eq_true c54
      clear c54
      replace H := Option.bind_eq_some_iff.mp H
      obtain ⟨⟨t224, t225⟩, A550, H⟩ := H
      replace H : (if x10_2 < (x3_2.length : Int) then (spec_l9DrawMem.l2 k2 (x3_2.set (x10_2 : Int).toNat t224) y220 (wrap64 (x10_2 + 1)) s0_0 t211 t212) else (none)) = some (r1, r2, r3) := H
      have A55 := Aside0.mk A550
      clear A550
      by_cases c56 : x10_2 < (x3_2.length : Int)
      rotate_left
      ·rw [if_neg c56] at H
       exact absurd H (by simp)
      rw [if_pos c56] at H
      have c56b0 : decide (x10_2 < (x3_2.length : Int)) = true := decide_eq_true c56
      clear c56
      obtain ⟨y226, hy226⟩ : ∃ y_ : List Int, y_ = (x3_2.set (x10_2 : Int).toNat t224) := ⟨_, rfl⟩
      replace H : (spec_l9DrawMem.l2 k2 y226 y220 (wrap64 (x10_2 + 1)) s0_0 t211 t212) = some (r1, r2, r3) := by first | (rw [hy226]; with_reducible exact H) | (have H2_ := (Option.bind_some _ _).symm.trans H; rw [hy226]; with_reducible exact H2_) | (have H2_ := (Option.bind_some _ _).symm.trans H; with_reducible exact H2_) | with_reducible exact H | (rw [hy226]; exact H) | exact H
      have Ny226 := Aside0.mk hy226
      clear hy226
      have H' := Aside0.mk H
      clear H
      obtain ⟨Ao58, co58, eo58⟩ := Kd.R_slice HO_9.out
      subst eo58
      have p223 : 0 ≤ (x10_2 : Int) := zA2
      have q223 : x10_2 < (y220.length : Int) := zA2
      obtain ⟨ad223, e223, hx223_0, hx223_1, hx223_2, hx223_3, hx223_4⟩ := at_T52 (Kd.R_reads' HO_9.out).2.2 x10_2 p223 q223
      cases e223
      replace p223 := eq_true p223
      replace q223 := eq_true q223
      go_wp2_with (first | ((with_reducible refine gate_callee (f := 103) rfl ?_); refine goesL_ (some 81) rfl rfl Try.func103 (by kernel_rfl) rfl #[.agg #[.int .i64 ((rd_T52 y220 x10_2).f0), .int .i64 ((rd_T52 y220 x10_2).f1), .int .i64 ((rd_T52 y220 x10_2).f2), .int .i64 ((rd_T52 y220 x10_2).f3), .int .i64 ((rd_T52 y220 x10_2).f4)]] rfl zT2 ?_; (with_reducible refine (spec_Code.calls ((rd_T52 y220 x10_2).f0) ((rd_T52 y220 x10_2).f1) ((rd_T52 y220 x10_2).f2) ((rd_T52 y220 x10_2).f3) ((rd_T52 y220 x10_2).f4) t224 t225 _ A55.out).mono ?_); rintro e w59 ⟨rfl, hb⟩; refine ⟨_, rfl, ?_⟩; have n0_ := Aside0.mk (Kd.R_below (zR2 HO_3.out) hb); have n1_ := Aside0.mk (Kd.R_below (zR2 HO_9.out) hb); have n2_ := Aside0.mk (IsS161.below (zB2_0) hb); have n3_ := Aside0.mk (KeepBut.trans (zB2_1) (KeepBut.of_below hb g none) (.inl rfl)); have n4_ := Aside0.mk (below_step (zB2_2) hb); clear HO_3; clear HO_9; clear HI0; clear HK; clear HB; have HO_3 := n0_; have HO_9 := n1_; have HI0 := n2_; have HK := n3_; have HB := n4_; clear n0_ n1_ n2_ n3_ n4_; (try clear hb); (try clear hb2); (try clear hk); (try clear hi); have p57 : 0 ≤ (x10_2 : Int) := zA2; have q57 : (x10_2 : Int) < ((x3_2.length : Int) : Int) := zA2; obtain ⟨go57, co57, eo57, gb57, gl57, cl57, HG57⟩ := Kd.R_form HO_3.out (by omega); (first | cases eo57 | (injection eo57 with ea_ en_ ec_; (first | subst ea_ | (injection ea_ with ea_; subst ea_)); subst ec_; clear en_)); have GB57 := Aside0.mk gb57; have GG57 := Aside0.mk HG57; clear gb57 gl57 HG57; obtain ⟨hx57_0, hf57_0⟩ := Kd.R_celln 0 HO_3.out (x10_2 : Int) p57 q57; replace p57 := eq_true p57; replace q57 := eq_true q57; obtain ⟨hy60_, hz60_⟩ := Kd.R_celln 0 HO_3.out (x10_2 : Int) (zA2) (zA2); have HP60 := Kd.R_putg HO_3.out (x10_2 : Int) t224) | ((with_reducible refine gate_store (t := 3) (p := 84) rfl ?_); refine store_event (t := 3) (p := 84) (v := ?vo_w61) (w1 := (w59.setCell ⟨go57, (x10_2 : Int).toNat, none⟩ (.int .i64 t224))) ?hg ?ho ?hn ?hr ?_; (case ho => rfl); (case hg => rfl); (case hn => rfl); (case hr => first | (go_simp; done) | (go_simp; rfl)); intro w61 hw; have hg : w59.grownBy w61 (some go57) := (by rw [hw]; exact HP60.2); have hp_ : Kd.R (Kd.int .i64) 3 w61 w.heap.size (fun _ => True) (.slice (some ⟨go57, 0, none⟩) x3_2.length co57) y226 := (by rw [hw, Ny226.out]; exact HP60.1); clear HP60; have n0_ := Aside0.mk (hp_); have n1_ := Aside0.mk (Kd.R_over' (v := (.slice (some ⟨go57, 0, none⟩) x3_2.length co57)) (zR2 HO_9.out) (Kd.R_typed HO_3.out) (by decide) hg); have n2_ := Aside0.mk (IsS161.grown (zB2_0) hg (IsS161.own_ne HI0.out HO_3.out (by decide))); have n3_ := Aside0.mk ((by rw [hw]; exact below_set (HB.out) (Nat.le_trans HL.out GB57.out) : Below w0.heap.size w0 w61)); have n4_ := Aside0.mk (KeepBut.trans (zB2_1) (KeepBut.of_grown hg g) (Kd.R_base2 HO_3.out)); clear HO_3; clear HO_9; clear HI0; clear HB; clear HK; have HO_3 := n0_; have HO_9 := n1_; have HI0 := n2_; have HB := n3_; have HK := n4_; clear n0_ n1_ n2_ n3_ n4_; clear hg hw hp_))
      go_roundg k2
      case measure => have := HK1.out; have := HK2.out; omega
      case rel => exact ⟨(y226), (wrap64 (x10_2 + 1)), (by first | rfl | (simp; done) | (simp [*]; done)), H', ⟨by have := HK1.out; have := HK2.out; omega⟩, ⟨zR2 HO_3.out⟩, ⟨zR2 HO_9.out⟩, ⟨zB2_0⟩, ⟨zB2_1⟩, ⟨zB2_2⟩⟩
   rw [if_pos c4] at H
   have c4b0 : decide (x4_1 < 24) = true := decide_eq_true c4
   clear c4
   replace H := Option.bind_eq_some_iff.mp H
   obtain ⟨⟨t177, t178, t179, t180, t181, t182, t183⟩, A50, H⟩ := H
   replace H : ((spec_Code.f t177 t178 t179 t180 t181).bind fun bt184 => (if x4_1 > 15 then ((spec_l1PickInt.f s0_0 t182 t183 (([0, 1, 5, 65535] : List Int))).bind fun bt189 => (if x3_1.length < 17592186044416 then (spec_l9DrawMem.l0 k1 (x3_1 ++ [bt189.1]) (wrap64 (x4_1 + 1)) s0_0 bt189.2.1 bt189.2.2) else (none))) else ((spec_l1Once.f s0_0 t182 t183 9).bind fun bt195 => (if bt195.1 = true then ((spec_l1PickInt.f s0_0 bt195.2.1 bt195.2.2 (([0, 1, 5, 65535] : List Int))).bind fun bt201 => (if x3_1.length < 17592186044416 then (spec_l9DrawMem.l0 k1 (x3_1 ++ [bt201.1]) (wrap64 (x4_1 + 1)) s0_0 bt201.2.1 bt201.2.2) else (none))) else (if x3_1.length < 17592186044416 then (spec_l9DrawMem.l0 k1 (x3_1 ++ [bt184.1]) (wrap64 (x4_1 + 1)) s0_0 bt195.2.1 bt195.2.2) else (none)))))) = some (r1, r2, r3) := H
   have A5 := Aside0.mk A50
   clear A50
   replace H := Option.bind_eq_some_iff.mp H
   obtain ⟨⟨t184, t185⟩, A60, H⟩ := H
   replace H : (if x4_1 > 15 then ((spec_l1PickInt.f s0_0 t182 t183 (([0, 1, 5, 65535] : List Int))).bind fun bt189 => (if x3_1.length < 17592186044416 then (spec_l9DrawMem.l0 k1 (x3_1 ++ [bt189.1]) (wrap64 (x4_1 + 1)) s0_0 bt189.2.1 bt189.2.2) else (none))) else ((spec_l1Once.f s0_0 t182 t183 9).bind fun bt195 => (if bt195.1 = true then ((spec_l1PickInt.f s0_0 bt195.2.1 bt195.2.2 (([0, 1, 5, 65535] : List Int))).bind fun bt201 => (if x3_1.length < 17592186044416 then (spec_l9DrawMem.l0 k1 (x3_1 ++ [bt201.1]) (wrap64 (x4_1 + 1)) s0_0 bt201.2.1 bt201.2.2) else (none))) else (if x3_1.length < 17592186044416 then (spec_l9DrawMem.l0 k1 (x3_1 ++ [t184]) (wrap64 (x4_1 + 1)) s0_0 bt195.2.1 bt195.2.2) else (none))))) = some (r1, r2, r3) := H
   have A6 := Aside0.mk A60
   clear A60
   by_cases c7 : x4_1 > 15
   ·rw [if_pos c7] at H
    have c7b0 : decide (15 < x4_1) = true := decide_eq_true c7
    clear c7
    obtain ⟨y186, hy186⟩ : ∃ y_ : List Int, y_ = (([0, 1, 5, 65535] : List Int)) := ⟨_, rfl⟩
    replace H : ((spec_l1PickInt.f s0_0 t182 t183 y186).bind fun bt189 => (if x3_1.length < 17592186044416 then (spec_l9DrawMem.l0 k1 (x3_1 ++ [bt189.1]) (wrap64 (x4_1 + 1)) s0_0 bt189.2.1 bt189.2.2) else (none))) = some (r1, r2, r3) := by first | (rw [hy186]; with_reducible exact H) | (have H2_ := (Option.bind_some _ _).symm.trans H; rw [hy186]; with_reducible exact H2_) | (have H2_ := (Option.bind_some _ _).symm.trans H; with_reducible exact H2_) | with_reducible exact H | (rw [hy186]; exact H) | exact H
    have Ny186 := Aside0.mk hy186
    clear hy186
    replace H := Option.bind_eq_some_iff.mp H
    obtain ⟨⟨t189, t190, t191⟩, A80, H⟩ := H
    replace H : (if x3_1.length < 17592186044416 then (spec_l9DrawMem.l0 k1 (x3_1 ++ [t189]) (wrap64 (x4_1 + 1)) s0_0 t190 t191) else (none)) = some (r1, r2, r3) := H
    have A8 := Aside0.mk A80
    clear A80
    by_cases c9 : x3_1.length < 17592186044416
    rotate_left
    ·rw [if_neg c9] at H
     exact absurd H (by simp)
    rw [if_pos c9] at H
    have LMc9 := Aside0.mk c9
    clear c9
    obtain ⟨y192, hy192⟩ : ∃ y_ : List Int, y_ = (x3_1 ++ [t189]) := ⟨_, rfl⟩
    replace H : (spec_l9DrawMem.l0 k1 y192 (wrap64 (x4_1 + 1)) s0_0 t190 t191) = some (r1, r2, r3) := by first | (rw [hy192]; with_reducible exact H) | (have H2_ := (Option.bind_some _ _).symm.trans H; rw [hy192]; with_reducible exact H2_) | (have H2_ := (Option.bind_some _ _).symm.trans H; with_reducible exact H2_) | with_reducible exact H | (rw [hy192]; exact H) | exact H
    have Ny192 := Aside0.mk hy192
    clear hy192
    have H' := Aside0.mk H
    clear H
    go_wp2_with (first | ((with_reducible refine gate_callee (f := 156) rfl ?_); refine goesL_ (some 18) rfl rfl Try.func156 (by kernel_rfl) rfl #[.pointer (some ⟨g, 0, none⟩)] rfl zT2 ?_; (with_reducible refine (spec_l8DrawIns.calls k1 g s0_0 x1001_1 x1002_1 t177 t178 t179 t180 t181 t182 t183 w0 _ ?side1 ?side2 A5.out).mono ?_); (case side1 => repeat (first | (with_reducible first | exact HI0.out | apply IsS161.alloc | apply IsS161.drewN | apply IsS161.drew | apply IsS161.set_1 | apply IsS161.set_2) | exact HI0.out)); (case side2 => repeat (first | (with_reducible first | exact HB.out | apply below_alloc | apply pw_below_drewN | apply below_drew1 | refine below_set ?_ (IsS161.ge HI0.out)) | exact HB.out)); rintro e w10 ⟨rfl, hi, hb, hk⟩; refine ⟨_, rfl, ?_⟩; have n0_ := Aside0.mk (Kd.R_mono (Kd.R_keep (IsS161.apart (show IsS161 w0 _ g s0_0 x1001_1 x1002_1 from zB2_0) (zR2 HO_3.out) (by decide)) hk (fun _ h => h.2)) (fun _ h => h.1)); have n1_ := Aside0.mk (KeepBut.trans (zB2_1) hk (.inl rfl)); have n2_ := Aside0.mk (hb); have n3_ := Aside0.mk (hi); clear HO_3; clear HK; clear HB; clear HI0; have HO_3 := n0_; have HK := n1_; have HB := n2_; have HI0 := n3_; clear n0_ n1_ n2_ n3_; (try clear hb); (try clear hb2); (try clear hk); (try clear hi)) | ((with_reducible refine gate_callee (f := 103) rfl ?_); refine goesL_ (some 19) rfl rfl Try.func103 (by kernel_rfl) rfl #[.agg #[.int .i64 t177, .int .i64 t178, .int .i64 t179, .int .i64 t180, .int .i64 t181]] rfl zT2 ?_; (with_reducible refine (spec_Code.calls t177 t178 t179 t180 t181 t184 t185 _ A6.out).mono ?_); rintro e w11 ⟨rfl, hb⟩; refine ⟨_, rfl, ?_⟩; have n0_ := Aside0.mk (Kd.R_below (zR2 HO_3.out) hb); have n1_ := Aside0.mk (IsS161.below (zB2_0) hb); have n2_ := Aside0.mk (KeepBut.trans (zB2_1) (KeepBut.of_below hb g none) (.inl rfl)); have n3_ := Aside0.mk (below_step (zB2_2) hb); clear HO_3; clear HI0; clear HK; clear HB; have HO_3 := n0_; have HI0 := n1_; have HK := n2_; have HB := n3_; clear n0_ n1_ n2_ n3_; (try clear hb); (try clear hb2); (try clear hk); (try clear hi)) | ((with_reducible refine gate_dst (N := 29) rfl ?_); refine Kd.R_lit (Kd.int .i64) _ 3 ?hg (N := 29) ?hd (xs := ([0, 1, 5, 65535] : List Int)) (inner := [.int .i64 0, .int .i64 1, .int .i64 5, .int .i64 65535]) (ok := fun _ => True) (okp := fun _ => True) ?hr ?hp (fun _ hk => hk) trivial (Below.refl _ _) (Nat.le_refl _) (by simp) ?_; (case hd => rfl); (case hg => rfl); (case hr => first | (go_simp; done) | (go_simp; rfl)); (case hp => exact (Reps.one (show Kd.M (Kd.int .i64) _ _ _ 0 [.int .i64 0] from rfl) (Reps.one (show Kd.M (Kd.int .i64) _ _ _ 1 [.int .i64 1] from rfl) (Reps.one (show Kd.M (Kd.int .i64) _ _ _ 5 [.int .i64 5] from rfl) (Reps.one (show Kd.M (Kd.int .i64) _ _ _ 65535 [.int .i64 65535] from rfl) (Reps.none _ _)))))); intro v187 w12 ho13 hb hg_ hnew_; clear hg_ hnew_; (first | rw [← Ny186.out] at ho13 | (simp only [Int.reduceToNat] at ho13; rw [← Ny186.out] at ho13)); have n0_ := Aside0.mk (Kd.R_elder' (zR2 HO_3.out) (Kd.R_base ho13) hb); have n1_ := Aside0.mk (Kd.R_lower (Kd.R_new' ho13 (Kd.R_lt (zR2 HO_3.out))) (keep_size (w := w) (g := g) (row := none) (zB2_1))); have n2_ := Aside0.mk (IsS161.below (zB2_0) hb); have n3_ := Aside0.mk (KeepBut.trans (zB2_1) (KeepBut.of_below hb g none) (.inl rfl)); have n4_ := Aside0.mk (below_step (zB2_2) hb); clear HO_3; clear HI0; clear HK; clear HB; have HO_3 := n0_; have HO188 := n1_; have HI0 := n2_; have HK := n3_; have HB := n4_; clear n0_ n1_ n2_ n3_ n4_; clear hb ho13; obtain ⟨Ao14, co14, eo14⟩ := Kd.R_slice HO188.out; subst eo14) | ((with_reducible refine gate_callee (f := 117) rfl ?_); refine goesL_ (some 30) rfl rfl Try.func117 (by kernel_rfl) rfl #[.pointer (some ⟨g, 0, none⟩), .slice Ao14 y186.length co14] rfl zT2 ?_; (with_reducible refine (spec_l1PickInt.calls g s0_0 t182 t183 _ _ y186 t189 t190 t191 w0 _ ?side1 ?side2 ?side3 ?side4 ?side5 A8.out).mono ?_); (case side1 => repeat (first | (with_reducible first | exact HI0.out | apply IsS161.alloc | apply IsS161.drewN | apply IsS161.drew | apply IsS161.set_1 | apply IsS161.set_2) | exact HI0.out)); (case side2 => repeat (first | (with_reducible first | exact HB.out | apply below_alloc | apply pw_below_drewN | apply below_drew1 | refine below_set ?_ (IsS161.ge HI0.out)) | exact HB.out)); (case side3 => exact zC2 (Kd.R_reads' HO188.out).2.2); (case side4 => exact (Kd.R_reads' HO188.out).2.1); (case side5 => exact far_slice (IsS161.own_ne HI0.out HO188.out (by decide))); rintro e w15 ⟨rfl, hi, hb, hk⟩; refine ⟨_, rfl, ?_⟩; have n0_ := Aside0.mk (Kd.R_mono (Kd.R_keep (IsS161.apart (show IsS161 w0 _ g s0_0 t182 t183 from zB2_0) (zR2 HO_3.out) (by decide)) hk (fun _ h => h.2)) (fun _ h => h.1)); have n1_ := Aside0.mk (Kd.R_mono (Kd.R_keep (IsS161.apart (show IsS161 w0 _ g s0_0 t182 t183 from zB2_0) (zR2 HO188.out) (by decide)) hk (fun _ h => h.2)) (fun _ h => h.1)); have n2_ := Aside0.mk (KeepBut.trans (zB2_1) hk (.inl rfl)); have n3_ := Aside0.mk (hb); have n4_ := Aside0.mk (hi); clear HO_3; clear HO188; clear HK; clear HB; clear HI0; have HO_3 := n0_; have HO188 := n1_; have HK := n2_; have HB := n3_; have HI0 := n4_; clear n0_ n1_ n2_ n3_ n4_; (try clear hb); (try clear hb2); (try clear hk); (try clear hi)) | ((with_reducible refine gate_builtin (b := .append) (xs := #[.tmp 31, .tmp 33]) rfl ?_); at_builtin; refine Kd.R_append (Kd.int .i64) w.heap.size rfl (.tmp 31) (.tmp 33) 22 3 (.int .i64 0) 8 rfl Try.underlying22 info3 rfl (by decide) (by omega) u3 x3_1 t189 [.int .i64 t189] (fun k_ => some k_ ≠ (.slice Ao14 y186.length co14 : Value).ownBlock) (fun _ => False) rfl rfl ?aP (fun _ hk => hk.elim) ?aF ?aO (Below.refl _ _) ?aS ?aL ?_; (case aP => exact rfl); (case aF => exact (fun k_ hk => Kd.fresh' (Kd.R_lt (zR2 HO188.out)) k_ hk)); (case aO => exact (by (with_reducible repeat (first | apply Kd.R_alloc | apply Kd.R_drewN | apply Kd.R_drew)); exact Kd.R_mono HO_3.out (fun _ hk => hk.2))); (case aS => exact (keep_size (w := w) (g := g) (row := none) (zB2_1))); (case aL => have := LMc9.out; omega); intro v193 w16 ho hb hg hat; rw [← Ny192.out] at ho; have n0_ := Aside0.mk (IsS161.grown (show IsS161 w0 _ g s0_0 t190 t191 from zB2_0) hg (IsS161.own_ne HI0.out HO_3.out (by decide))); have n1_ := Aside0.mk (Kd.R_after (ok := (fun _ => True)) (zR2 HO188.out) hg hat); have n2_ := Aside0.mk (below_weaken (zB2_2) HL.out hb); have n3_ := Aside0.mk (KeepBut.trans (zB2_1) (KeepBut.of_grown hg g) (Kd.R_base2 HO_3.out)); have n4_ := Aside0.mk (ho); clear HI0; clear HO188; clear HB; clear HK; clear HO_3; have HI0 := n0_; have HO188 := n1_; have HB := n2_; have HK := n3_; have HO194 := n4_; clear n0_ n1_ n2_ n3_ n4_; clear ho hb hg hat))
    go_roundg k1
    case measure => have := HK1.out; omega
    case rel => exact ⟨(y192), (wrap64 (x4_1 + 1)), (t190), (t191), (by first | rfl | (simp; done) | (simp [*]; done)), H', ⟨by have := HK1.out; omega⟩, ⟨by (with_reducible repeat (first | apply Kd.R_alloc | apply Kd.R_drewN | apply Kd.R_drew)); exact Kd.R_mono HO194.out (fun _ hk => trivial)⟩, ⟨zB2_0⟩, ⟨zB2_1⟩, ⟨zB2_2⟩⟩
   rw [if_neg c7] at H
   have c7b0 : decide (15 < x4_1) = false := decide_eq_false c7
   clear c7
   replace H := Option.bind_eq_some_iff.mp H
   obtain ⟨⟨t195, t196, t197⟩, A170, H⟩ := H
   replace H : (if t195 = true then ((spec_l1PickInt.f s0_0 t196 t197 (([0, 1, 5, 65535] : List Int))).bind fun bt201 => (if x3_1.length < 17592186044416 then (spec_l9DrawMem.l0 k1 (x3_1 ++ [bt201.1]) (wrap64 (x4_1 + 1)) s0_0 bt201.2.1 bt201.2.2) else (none))) else (if x3_1.length < 17592186044416 then (spec_l9DrawMem.l0 k1 (x3_1 ++ [t184]) (wrap64 (x4_1 + 1)) s0_0 t196 t197) else (none))) = some (r1, r2, r3) := H
   have A17 := Aside0.mk A170
   clear A170
   by_cases c18 : t195 = true
   rotate_left
   ·replace c18 := Bool.eq_false_iff.mpr c18
    subst c18
    have H1 : (if x3_1.length < 17592186044416 then (spec_l9DrawMem.l0 k1 (x3_1 ++ [t184]) (wrap64 (x4_1 + 1)) s0_0 t196 t197) else (none)) = some (r1, r2, r3) := by rw [if_neg (show ¬ (false = true) by decide)] at H; exact H
    clear H
    have H := H1
    clear H1
    by_cases c29 : x3_1.length < 17592186044416
    rotate_left
    ·rw [if_neg c29] at H
     exact absurd H (by simp)
    rw [if_pos c29] at H
    have LMc29 := Aside0.mk c29
    clear c29
    obtain ⟨y207, hy207⟩ : ∃ y_ : List Int, y_ = (x3_1 ++ [t184]) := ⟨_, rfl⟩
    replace H : (spec_l9DrawMem.l0 k1 y207 (wrap64 (x4_1 + 1)) s0_0 t196 t197) = some (r1, r2, r3) := by first | (rw [hy207]; with_reducible exact H) | (have H2_ := (Option.bind_some _ _).symm.trans H; rw [hy207]; with_reducible exact H2_) | (have H2_ := (Option.bind_some _ _).symm.trans H; with_reducible exact H2_) | with_reducible exact H | (rw [hy207]; exact H) | exact H
    have Ny207 := Aside0.mk hy207
    clear hy207
    have H' := Aside0.mk H
    clear H
    go_wp2_with (first | ((with_reducible refine gate_callee (f := 156) rfl ?_); refine goesL_ (some 18) rfl rfl Try.func156 (by kernel_rfl) rfl #[.pointer (some ⟨g, 0, none⟩)] rfl zT2 ?_; (with_reducible refine (spec_l8DrawIns.calls k1 g s0_0 x1001_1 x1002_1 t177 t178 t179 t180 t181 t182 t183 w0 _ ?side1 ?side2 A5.out).mono ?_); (case side1 => repeat (first | (with_reducible first | exact HI0.out | apply IsS161.alloc | apply IsS161.drewN | apply IsS161.drew | apply IsS161.set_1 | apply IsS161.set_2) | exact HI0.out)); (case side2 => repeat (first | (with_reducible first | exact HB.out | apply below_alloc | apply pw_below_drewN | apply below_drew1 | refine below_set ?_ (IsS161.ge HI0.out)) | exact HB.out)); rintro e w30 ⟨rfl, hi, hb, hk⟩; refine ⟨_, rfl, ?_⟩; have n0_ := Aside0.mk (Kd.R_mono (Kd.R_keep (IsS161.apart (show IsS161 w0 _ g s0_0 x1001_1 x1002_1 from zB2_0) (zR2 HO_3.out) (by decide)) hk (fun _ h => h.2)) (fun _ h => h.1)); have n1_ := Aside0.mk (KeepBut.trans (zB2_1) hk (.inl rfl)); have n2_ := Aside0.mk (hb); have n3_ := Aside0.mk (hi); clear HO_3; clear HK; clear HB; clear HI0; have HO_3 := n0_; have HK := n1_; have HB := n2_; have HI0 := n3_; clear n0_ n1_ n2_ n3_; (try clear hb); (try clear hb2); (try clear hk); (try clear hi)) | ((with_reducible refine gate_callee (f := 103) rfl ?_); refine goesL_ (some 19) rfl rfl Try.func103 (by kernel_rfl) rfl #[.agg #[.int .i64 t177, .int .i64 t178, .int .i64 t179, .int .i64 t180, .int .i64 t181]] rfl zT2 ?_; (with_reducible refine (spec_Code.calls t177 t178 t179 t180 t181 t184 t185 _ A6.out).mono ?_); rintro e w31 ⟨rfl, hb⟩; refine ⟨_, rfl, ?_⟩; have n0_ := Aside0.mk (Kd.R_below (zR2 HO_3.out) hb); have n1_ := Aside0.mk (IsS161.below (zB2_0) hb); have n2_ := Aside0.mk (KeepBut.trans (zB2_1) (KeepBut.of_below hb g none) (.inl rfl)); have n3_ := Aside0.mk (below_step (zB2_2) hb); clear HO_3; clear HI0; clear HK; clear HB; have HO_3 := n0_; have HI0 := n1_; have HK := n2_; have HB := n3_; clear n0_ n1_ n2_ n3_; (try clear hb); (try clear hb2); (try clear hk); (try clear hi)) | (go_at_call 122; (with_reducible refine (spec_l1Once.calls g s0_0 t182 t183 9 false t196 t197 w0 _ ?side1 ?side2 A17.out).mono ?_); (case side1 => repeat (first | (with_reducible first | exact HI0.out | apply IsS161.alloc | apply IsS161.drewN | apply IsS161.drew | apply IsS161.set_1 | apply IsS161.set_2) | exact HI0.out)); (case side2 => repeat (first | (with_reducible first | exact HB.out | apply below_alloc | apply pw_below_drewN | apply below_drew1 | refine below_set ?_ (IsS161.ge HI0.out)) | exact HB.out)); rintro e w32 ⟨rfl, hi, hb, hk⟩; have n0_ := Aside0.mk (Kd.R_mono (Kd.R_keep (IsS161.apart (show IsS161 w0 _ g s0_0 t182 t183 from zB2_0) (zR2 HO_3.out) (by decide)) hk (fun _ h => h.2)) (fun _ h => h.1)); have n1_ := Aside0.mk (KeepBut.trans (zB2_1) hk (.inl rfl)); have n2_ := Aside0.mk (hb); have n3_ := Aside0.mk (hi); clear HO_3; clear HK; clear HB; clear HI0; have HO_3 := n0_; have HK := n1_; have HB := n2_; have HI0 := n3_; clear n0_ n1_ n2_ n3_; (try clear hb); (try clear hb2); (try clear hk); (try clear hi)) | ((with_reducible refine gate_builtin (b := .append) (xs := #[.tmp 31, .tmp 33]) rfl ?_); at_builtin; refine Kd.R_append (Kd.int .i64) w.heap.size rfl (.tmp 31) (.tmp 33) 22 3 (.int .i64 0) 8 rfl Try.underlying22 info3 rfl (by decide) (by omega) u3 x3_1 t184 [.int .i64 t184] (fun _ => True) (fun _ => False) rfl rfl ?aP (fun _ hk => hk.elim) ?aF ?aO (Below.refl _ _) ?aS ?aL ?_; (case aP => exact rfl); (case aF => exact (fun _ _ => trivial)); (case aO => exact (zR2 HO_3.out)); (case aS => exact (keep_size (w := w) (g := g) (row := none) (zB2_1))); (case aL => have := LMc29.out; omega); intro v208 w33 ho hb hg hat; rw [← Ny207.out] at ho; have n0_ := Aside0.mk (IsS161.grown (show IsS161 w0 _ g s0_0 t196 t197 from zB2_0) hg (IsS161.own_ne HI0.out HO_3.out (by decide))); have n1_ := Aside0.mk (below_weaken (zB2_2) HL.out hb); have n2_ := Aside0.mk (KeepBut.trans (zB2_1) (KeepBut.of_grown hg g) (Kd.R_base2 HO_3.out)); have n3_ := Aside0.mk (ho); clear HI0; clear HB; clear HK; clear HO_3; have HI0 := n0_; have HB := n1_; have HK := n2_; have HO209 := n3_; clear n0_ n1_ n2_ n3_; clear ho hb hg hat))
    go_roundg k1
    case measure => have := HK1.out; omega
    case rel => exact ⟨(y207), (wrap64 (x4_1 + 1)), (t196), (t197), (by first | rfl | (simp; done) | (simp [*]; done)), H', ⟨by have := HK1.out; omega⟩, ⟨zR2 HO209.out⟩, ⟨zB2_0⟩, ⟨zB2_1⟩, ⟨zB2_2⟩⟩
   subst c18
   have H1 : ((spec_l1PickInt.f s0_0 t196 t197 (([0, 1, 5, 65535] : List Int))).bind fun bt201 => (if x3_1.length < 17592186044416 then (spec_l9DrawMem.l0 k1 (x3_1 ++ [bt201.1]) (wrap64 (x4_1 + 1)) s0_0 bt201.2.1 bt201.2.2) else (none))) = some (r1, r2, r3) := by rw [if_pos rfl] at H; exact H
   clear H
   have H := H1
   clear H1
   obtain ⟨y198, hy198⟩ : ∃ y_ : List Int, y_ = (([0, 1, 5, 65535] : List Int)) := ⟨_, rfl⟩
   replace H : ((spec_l1PickInt.f s0_0 t196 t197 y198).bind fun bt201 => (if x3_1.length < 17592186044416 then (spec_l9DrawMem.l0 k1 (x3_1 ++ [bt201.1]) (wrap64 (x4_1 + 1)) s0_0 bt201.2.1 bt201.2.2) else (none))) = some (r1, r2, r3) := by first | (rw [hy198]; with_reducible exact H) | (have H2_ := (Option.bind_some _ _).symm.trans H; rw [hy198]; with_reducible exact H2_) | (have H2_ := (Option.bind_some _ _).symm.trans H; with_reducible exact H2_) | with_reducible exact H | (rw [hy198]; exact H) | exact H
   have Ny198 := Aside0.mk hy198
   clear hy198
   replace H := Option.bind_eq_some_iff.mp H
   obtain ⟨⟨t201, t202, t203⟩, A190, H⟩ := H
   replace H : (if x3_1.length < 17592186044416 then (spec_l9DrawMem.l0 k1 (x3_1 ++ [t201]) (wrap64 (x4_1 + 1)) s0_0 t202 t203) else (none)) = some (r1, r2, r3) := H
   have A19 := Aside0.mk A190
   clear A190
   by_cases c20 : x3_1.length < 17592186044416
   rotate_left
   ·rw [if_neg c20] at H
    exact absurd H (by simp)
   rw [if_pos c20] at H
   have LMc20 := Aside0.mk c20
   clear c20
   obtain ⟨y204, hy204⟩ : ∃ y_ : List Int, y_ = (x3_1 ++ [t201]) := ⟨_, rfl⟩
   replace H : (spec_l9DrawMem.l0 k1 y204 (wrap64 (x4_1 + 1)) s0_0 t202 t203) = some (r1, r2, r3) := by first | (rw [hy204]; with_reducible exact H) | (have H2_ := (Option.bind_some _ _).symm.trans H; rw [hy204]; with_reducible exact H2_) | (have H2_ := (Option.bind_some _ _).symm.trans H; with_reducible exact H2_) | with_reducible exact H | (rw [hy204]; exact H) | exact H
   have Ny204 := Aside0.mk hy204
   clear hy204
   have H' := Aside0.mk H
   clear H
   go_wp2_with (first | ((with_reducible refine gate_callee (f := 156) rfl ?_); refine goesL_ (some 18) rfl rfl Try.func156 (by kernel_rfl) rfl #[.pointer (some ⟨g, 0, none⟩)] rfl zT2 ?_; (with_reducible refine (spec_l8DrawIns.calls k1 g s0_0 x1001_1 x1002_1 t177 t178 t179 t180 t181 t182 t183 w0 _ ?side1 ?side2 A5.out).mono ?_); (case side1 => repeat (first | (with_reducible first | exact HI0.out | apply IsS161.alloc | apply IsS161.drewN | apply IsS161.drew | apply IsS161.set_1 | apply IsS161.set_2) | exact HI0.out)); (case side2 => repeat (first | (with_reducible first | exact HB.out | apply below_alloc | apply pw_below_drewN | apply below_drew1 | refine below_set ?_ (IsS161.ge HI0.out)) | exact HB.out)); rintro e w21 ⟨rfl, hi, hb, hk⟩; refine ⟨_, rfl, ?_⟩; have n0_ := Aside0.mk (Kd.R_mono (Kd.R_keep (IsS161.apart (show IsS161 w0 _ g s0_0 x1001_1 x1002_1 from zB2_0) (zR2 HO_3.out) (by decide)) hk (fun _ h => h.2)) (fun _ h => h.1)); have n1_ := Aside0.mk (KeepBut.trans (zB2_1) hk (.inl rfl)); have n2_ := Aside0.mk (hb); have n3_ := Aside0.mk (hi); clear HO_3; clear HK; clear HB; clear HI0; have HO_3 := n0_; have HK := n1_; have HB := n2_; have HI0 := n3_; clear n0_ n1_ n2_ n3_; (try clear hb); (try clear hb2); (try clear hk); (try clear hi)) | ((with_reducible refine gate_callee (f := 103) rfl ?_); refine goesL_ (some 19) rfl rfl Try.func103 (by kernel_rfl) rfl #[.agg #[.int .i64 t177, .int .i64 t178, .int .i64 t179, .int .i64 t180, .int .i64 t181]] rfl zT2 ?_; (with_reducible refine (spec_Code.calls t177 t178 t179 t180 t181 t184 t185 _ A6.out).mono ?_); rintro e w22 ⟨rfl, hb⟩; refine ⟨_, rfl, ?_⟩; have n0_ := Aside0.mk (Kd.R_below (zR2 HO_3.out) hb); have n1_ := Aside0.mk (IsS161.below (zB2_0) hb); have n2_ := Aside0.mk (KeepBut.trans (zB2_1) (KeepBut.of_below hb g none) (.inl rfl)); have n3_ := Aside0.mk (below_step (zB2_2) hb); clear HO_3; clear HI0; clear HK; clear HB; have HO_3 := n0_; have HI0 := n1_; have HK := n2_; have HB := n3_; clear n0_ n1_ n2_ n3_; (try clear hb); (try clear hb2); (try clear hk); (try clear hi)) | (go_at_call 122; (with_reducible refine (spec_l1Once.calls g s0_0 t182 t183 9 true t196 t197 w0 _ ?side1 ?side2 A17.out).mono ?_); (case side1 => repeat (first | (with_reducible first | exact HI0.out | apply IsS161.alloc | apply IsS161.drewN | apply IsS161.drew | apply IsS161.set_1 | apply IsS161.set_2) | exact HI0.out)); (case side2 => repeat (first | (with_reducible first | exact HB.out | apply below_alloc | apply pw_below_drewN | apply below_drew1 | refine below_set ?_ (IsS161.ge HI0.out)) | exact HB.out)); rintro e w23 ⟨rfl, hi, hb, hk⟩; have n0_ := Aside0.mk (Kd.R_mono (Kd.R_keep (IsS161.apart (show IsS161 w0 _ g s0_0 t182 t183 from zB2_0) (zR2 HO_3.out) (by decide)) hk (fun _ h => h.2)) (fun _ h => h.1)); have n1_ := Aside0.mk (KeepBut.trans (zB2_1) hk (.inl rfl)); have n2_ := Aside0.mk (hb); have n3_ := Aside0.mk (hi); clear HO_3; clear HK; clear HB; clear HI0; have HO_3 := n0_; have HK := n1_; have HB := n2_; have HI0 := n3_; clear n0_ n1_ n2_ n3_; (try clear hb); (try clear hb2); (try clear hk); (try clear hi)) | ((with_reducible refine gate_dst (N := 29) rfl ?_); refine Kd.R_lit (Kd.int .i64) _ 3 ?hg (N := 29) ?hd (xs := ([0, 1, 5, 65535] : List Int)) (inner := [.int .i64 0, .int .i64 1, .int .i64 5, .int .i64 65535]) (ok := fun _ => True) (okp := fun _ => True) ?hr ?hp (fun _ hk => hk) trivial (Below.refl _ _) (Nat.le_refl _) (by simp) ?_; (case hd => rfl); (case hg => rfl); (case hr => first | (go_simp; done) | (go_simp; rfl)); (case hp => exact (Reps.one (show Kd.M (Kd.int .i64) _ _ _ 0 [.int .i64 0] from rfl) (Reps.one (show Kd.M (Kd.int .i64) _ _ _ 1 [.int .i64 1] from rfl) (Reps.one (show Kd.M (Kd.int .i64) _ _ _ 5 [.int .i64 5] from rfl) (Reps.one (show Kd.M (Kd.int .i64) _ _ _ 65535 [.int .i64 65535] from rfl) (Reps.none _ _)))))); intro v199 w24 ho25 hb hg_ hnew_; clear hg_ hnew_; (first | rw [← Ny198.out] at ho25 | (simp only [Int.reduceToNat] at ho25; rw [← Ny198.out] at ho25)); have n0_ := Aside0.mk (Kd.R_elder' (zR2 HO_3.out) (Kd.R_base ho25) hb); have n1_ := Aside0.mk (Kd.R_lower (Kd.R_new' ho25 (Kd.R_lt (zR2 HO_3.out))) (keep_size (w := w) (g := g) (row := none) (zB2_1))); have n2_ := Aside0.mk (IsS161.below (zB2_0) hb); have n3_ := Aside0.mk (KeepBut.trans (zB2_1) (KeepBut.of_below hb g none) (.inl rfl)); have n4_ := Aside0.mk (below_step (zB2_2) hb); clear HO_3; clear HI0; clear HK; clear HB; have HO_3 := n0_; have HO200 := n1_; have HI0 := n2_; have HK := n3_; have HB := n4_; clear n0_ n1_ n2_ n3_ n4_; clear hb ho25; obtain ⟨Ao26, co26, eo26⟩ := Kd.R_slice HO200.out; subst eo26) | ((with_reducible refine gate_callee (f := 117) rfl ?_); refine goesL_ (some 30) rfl rfl Try.func117 (by kernel_rfl) rfl #[.pointer (some ⟨g, 0, none⟩), .slice Ao26 y198.length co26] rfl zT2 ?_; (with_reducible refine (spec_l1PickInt.calls g s0_0 t196 t197 _ _ y198 t201 t202 t203 w0 _ ?side1 ?side2 ?side3 ?side4 ?side5 A19.out).mono ?_); (case side1 => repeat (first | (with_reducible first | exact HI0.out | apply IsS161.alloc | apply IsS161.drewN | apply IsS161.drew | apply IsS161.set_1 | apply IsS161.set_2) | exact HI0.out)); (case side2 => repeat (first | (with_reducible first | exact HB.out | apply below_alloc | apply pw_below_drewN | apply below_drew1 | refine below_set ?_ (IsS161.ge HI0.out)) | exact HB.out)); (case side3 => exact zC2 (Kd.R_reads' HO200.out).2.2); (case side4 => exact (Kd.R_reads' HO200.out).2.1); (case side5 => exact far_slice (IsS161.own_ne HI0.out HO200.out (by decide))); rintro e w27 ⟨rfl, hi, hb, hk⟩; refine ⟨_, rfl, ?_⟩; have n0_ := Aside0.mk (Kd.R_mono (Kd.R_keep (IsS161.apart (show IsS161 w0 _ g s0_0 t196 t197 from zB2_0) (zR2 HO_3.out) (by decide)) hk (fun _ h => h.2)) (fun _ h => h.1)); have n1_ := Aside0.mk (Kd.R_mono (Kd.R_keep (IsS161.apart (show IsS161 w0 _ g s0_0 t196 t197 from zB2_0) (zR2 HO200.out) (by decide)) hk (fun _ h => h.2)) (fun _ h => h.1)); have n2_ := Aside0.mk (KeepBut.trans (zB2_1) hk (.inl rfl)); have n3_ := Aside0.mk (hb); have n4_ := Aside0.mk (hi); clear HO_3; clear HO200; clear HK; clear HB; clear HI0; have HO_3 := n0_; have HO200 := n1_; have HK := n2_; have HB := n3_; have HI0 := n4_; clear n0_ n1_ n2_ n3_ n4_; (try clear hb); (try clear hb2); (try clear hk); (try clear hi)) | ((with_reducible refine gate_builtin (b := .append) (xs := #[.tmp 31, .tmp 33]) rfl ?_); at_builtin; refine Kd.R_append (Kd.int .i64) w.heap.size rfl (.tmp 31) (.tmp 33) 22 3 (.int .i64 0) 8 rfl Try.underlying22 info3 rfl (by decide) (by omega) u3 x3_1 t201 [.int .i64 t201] (fun k_ => some k_ ≠ (.slice Ao26 y198.length co26 : Value).ownBlock) (fun _ => False) rfl rfl ?aP (fun _ hk => hk.elim) ?aF ?aO (Below.refl _ _) ?aS ?aL ?_; (case aP => exact rfl); (case aF => exact (fun k_ hk => Kd.fresh' (Kd.R_lt (zR2 HO200.out)) k_ hk)); (case aO => exact (by (with_reducible repeat (first | apply Kd.R_alloc | apply Kd.R_drewN | apply Kd.R_drew)); exact Kd.R_mono HO_3.out (fun _ hk => hk.2))); (case aS => exact (keep_size (w := w) (g := g) (row := none) (zB2_1))); (case aL => have := LMc20.out; omega); intro v205 w28 ho hb hg hat; rw [← Ny204.out] at ho; have n0_ := Aside0.mk (IsS161.grown (show IsS161 w0 _ g s0_0 t202 t203 from zB2_0) hg (IsS161.own_ne HI0.out HO_3.out (by decide))); have n1_ := Aside0.mk (Kd.R_after (ok := (fun _ => True)) (zR2 HO200.out) hg hat); have n2_ := Aside0.mk (below_weaken (zB2_2) HL.out hb); have n3_ := Aside0.mk (KeepBut.trans (zB2_1) (KeepBut.of_grown hg g) (Kd.R_base2 HO_3.out)); have n4_ := Aside0.mk (ho); clear HI0; clear HO200; clear HB; clear HK; clear HO_3; have HI0 := n0_; have HO200 := n1_; have HB := n2_; have HK := n3_; have HO206 := n4_; clear n0_ n1_ n2_ n3_ n4_; clear ho hb hg hat))
   go_roundg k1
   case measure => have := HK1.out; omega
   case rel => exact ⟨(y204), (wrap64 (x4_1 + 1)), (t202), (t203), (by first | rfl | (simp; done) | (simp [*]; done)), H', ⟨by have := HK1.out; omega⟩, ⟨by (with_reducible repeat (first | apply Kd.R_alloc | apply Kd.R_drewN | apply Kd.R_drew)); exact Kd.R_mono HO206.out (fun _ hk => trivial)⟩, ⟨zB2_0⟩, ⟨zB2_1⟩, ⟨zB2_2⟩⟩

end Go.Proofs.Ytnekcbajadnldaa.PFnMemTexts
