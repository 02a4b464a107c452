-- made by wip/tools/myprint.py out of the seat's translation
import Derived.Test.YtajhfpeijagpnaaPFnResumesx0
import Derived.Test.YtajhfpeijagpnaaPFnResumesx2
import Derived.Test.YtajhfpeijagpnaaPFnResumesx3
namespace Go.Proofs.Ytajhfpeijagpnaa.PFnResumes
open Go.RowKit Go.Proofs.YtajhfpeijagpnaaW.PrintWords Go.Proofs.YtajhfpeijagpnaaW.PrintLast Go.Proofs.YtajhfpeijagpnaaW.PrintMore
attribute [local go_sem] max2_int min2_int max_two min_two max_three min_three max_four min_four   -- for this text's walks alone
set_option linter.unusedVariables false
set_option linter.unusedSimpArgs false
theorem zc4_5 {w : World} {g : Nat} {a0 a1 a2 a3 a4 : Value} {t : TypeId} (h : w.heap[g]? = some (.cells #[a0, a1, a2, a3, a4] t (0, 0))) : w.cell? ⟨g, 0, none⟩ = some a0 ∧ w.cell? ⟨g, 1, none⟩ = some a1 ∧ w.cell? ⟨g, 2, none⟩ = some a2 ∧ w.cell? ⟨g, 3, none⟩ = some a3 ∧ w.cell? ⟨g, 4, none⟩ = some a4 ∧ w.frozen? ⟨g, 0, none⟩ = false ∧ w.frozen? ⟨g, 1, none⟩ = false ∧ w.frozen? ⟨g, 2, none⟩ = false ∧ w.frozen? ⟨g, 3, none⟩ = false ∧ w.frozen? ⟨g, 4, none⟩ = false := ⟨(blk_cell h 0).trans rfl, (blk_cell h 1).trans rfl, (blk_cell h 2).trans rfl, (blk_cell h 3).trans rfl, (blk_cell h 4).trans rfl, blk_frozen h 0, blk_frozen h 1, blk_frozen h 2, blk_frozen h 3, blk_frozen h 4⟩
theorem zR4 {p q : Prop} (x : q) (h : q → p := by intro h; (with_reducible repeat (first | apply Kd.R_alloc | apply Kd.R_drewN | apply Kd.R_drew)); exact h) : p := h x
theorem zK4 {p q : Prop} (x : q) (h : q → p := by intro h; (with_reducible repeat (first | refine blk_drewN ?_ _ | refine blk_drew ?_ | refine blk_alloc ?_ _)); exact h) : p := h x
theorem zA4 {p : Prop} [Decidable p] (h : decide p = true := by first | (with_reducible assumption) | assumption) : p := of_decide_eq_true h
theorem zT4 {p : Prop} (h : p := by (try simp only [List.map_toArray, List.map_cons, List.map_nil]); first | done | rfl | (simp only [List.length_drop, List.length_take]; rfl)) : p := h
theorem zC4 {p q : Prop} (x : q) (h : q → p := by intro h; repeat (first | exact h | (with_reducible refine Kd.C_alloc ?_ _) | (with_reducible refine Kd.C_drewN ?_ _) | (with_reducible refine Kd.C_drew ?_))) : p := h x
theorem zb4 {W w w1 : World} {g : Nat} {o : Obj} (x : W.heap[g]? = some o) (hb : Below w.heap.size w w1) (h : W.heap[g]? = some o → w.heap[g]? = some o := by intro h; (with_reducible repeat (first | refine blk_drewN ?_ _ | refine blk_drew ?_ | refine blk_alloc ?_ _)); exact h) : w1.heap[g]? = some o := blk_below (h x) hb
theorem zh4 {W w w1 : World} {g g' : Nat} {o : Obj} (hk : KeepBut w w1 g none) (x : W.heap[g']? = some o) (hn : g' ≠ g) (h : W.heap[g']? = some o → w.heap[g']? = some o := by intro h; (with_reducible repeat (first | refine blk_drewN ?_ _ | refine blk_drew ?_ | refine blk_alloc ?_ _)); exact h) : w1.heap[g']? = some o := KeepBut.blk hk (h x) hn (by simp)
theorem zn4 {W w : World} {g g' : Nat} {o : Obj} (x : W.heap[g]? = some o) (hg : g' = w.heap.size) (h : W.heap[g]? = some o → w.heap[g]? = some o := by intro h; (with_reducible repeat (first | refine blk_drewN ?_ _ | refine blk_drew ?_ | refine blk_alloc ?_ _)); exact h) : g ≠ g' := by rw [hg]; exact Nat.ne_of_lt (blk_lt (h x))
theorem zm4 {W w : World} {g g' : Nat} {o : Obj} (x : W.heap[g]? = some o) (hg : g' = w.heap.size) (h : W.heap[g]? = some o → w.heap[g]? = some o := by intro h; (with_reducible repeat (first | refine blk_drewN ?_ _ | refine blk_drew ?_ | refine blk_alloc ?_ _)); exact h) : g' ≠ g := by rw [hg]; exact Nat.ne_of_gt (blk_lt (h x))
theorem zP4 {p q : Prop} (x : q) (h : q → p := by intro h; (with_reducible repeat (first | refine blk_drewN ?_ _ | refine blk_drew ?_ | refine blk_alloc ?_ _)); exact h) : p := h x
theorem zE4 {p : Prop} (h : p := by first | rfl | (simp [errW_none, errW_some] <;> rfl) | (simp [*, errW_none, errW_some] <;> rfl)) : p := h
theorem zB4_0 {p : Prop} (h : p := by repeat (first | (with_reducible first | exact HI0.out | apply IsS90.alloc | apply IsS90.drewN | apply IsS90.drew | apply IsS90.set_1 | apply IsS90.set_2) | exact HI0.out)) : p := h
theorem zB4_1 {p : Prop} (h : p := by repeat (first | (with_reducible first | exact HK.out | apply KeepBut.set_ | apply keep_drewN | apply keep_drew | apply keep_alloc) | exact HK.out)) : p := h
theorem zB4_2 {p : Prop} (h : p := by repeat (first | (with_reducible first | exact HB.out | apply below_alloc | apply pw_below_drewN | apply below_drew1 | refine below_set ?_ (IsS90.ge HI0.out)) | exact HB.out)) : p := h
theorem zB4_3 {p : Prop} (h : p := by repeat (first | (with_reducible first | exact HK.out | apply KeepBut.set_ | apply keep_drewN | apply keep_drew | apply keep_alloc | refine keep_far ?_ GW185.out _) | exact HK.out)) : p := h
theorem zB4_4 {p : Prop} (h : p := by repeat (first | (with_reducible first | exact HI0.out | apply IsS90.alloc | apply IsS90.drewN | apply IsS90.drew | apply IsS90.set_1 | apply IsS90.set_2 | refine IsS90.far ?_ NB0_185.out _) | exact HI0.out)) : p := h
theorem zB4_5 {p : Prop} (h : p := by repeat (first | (with_reducible first | exact HB.out | apply below_alloc | apply pw_below_drewN | apply below_drew1 | refine below_set ?_ (IsS90.ge HI0.out) | refine below_set ?_ GE185.out) | exact HB.out)) : p := h
theorem zB4_6 {p : Prop} (h : p := by repeat (first | (with_reducible first | exact HI0.out | apply IsS90.alloc | apply IsS90.drewN | apply IsS90.drew | apply IsS90.set_1 | apply IsS90.set_2 | refine IsS90.far ?_ NB0_185.out _ | refine IsS90.far ?_ NB0_192.out _) | exact HI0.out)) : p := h
theorem zB4_7 {p : Prop} (h : p := by repeat (first | (with_reducible first | exact HK.out | apply KeepBut.set_ | apply keep_drewN | apply keep_drew | apply keep_alloc | refine keep_far ?_ GW185.out _ | refine keep_far ?_ GW192.out _) | exact HK.out)) : p := h
theorem zB4_8 {p : Prop} (h : p := by repeat (first | (with_reducible first | exact HB.out | apply below_alloc | apply pw_below_drewN | apply below_drew1 | refine below_set ?_ (IsS90.ge HI0.out) | refine below_set ?_ GE185.out | refine below_set ?_ GE192.out) | exact HB.out)) : p := h

/-! ### spec_l8DrawIns: function 101 -/
mutual
def spec_l8DrawIns.j0 : Nat → Int → List Int → Int → Int → Int → Int → Int → Int → Int → Option (Int × Int × Int × Int × Int × Int × Int)
 | 0, _, _, _, _, _, _, _, _, _ => none
 | k + 1, x4, x1000, x1001, x1002, x193000, x193001, x193002, x193003, x193004 => if (Go.bits .and .i64 x4 2) = 0 then (spec_l8DrawIns.j1 k x4 x1000 x1001 x1002 x193000 x193001 x193002 x193003 x193004) else ((spec_l1Below.f x1000 x1001 x1002 4).bind fun bt197 => (spec_l8DrawIns.j1 k x4 x1000 bt197.2.1 bt197.2.2 x193000 x193001 bt197.1 x193003 x193004))
def spec_l8DrawIns.j1 : Nat → Int → List Int → Int → Int → Int → Int → Int → Int → Int → Option (Int × Int × Int × Int × Int × Int × Int)
 | 0, _, _, _, _, _, _, _, _, _ => none
 | k + 1, x4, x1000, x1001, x1002, x193000, x193001, x193002, x193003, x193004 => if (Go.bits .and .i64 x4 4) = 0 then (if (Go.bits .and .i64 x4 8) = 0 then (some (x193000, x193001, x193002, x193003, x193004, x1001, x1002)) else ((spec_l1PickInt.f x1000 x1001 x1002 (([0, 1, 2, 4, 8, 9, 12, 20, 23] : List Int))).bind fun bt203 => (some (x193000, x193001, x193002, x193003, bt203.1, bt203.2.1, bt203.2.2)))) else ((spec_l1Below.f x1000 x1001 x1002 4).bind fun bt206 => (if (Go.bits .and .i64 x4 8) = 0 then (some (x193000, x193001, x193002, bt206.1, x193004, bt206.2.1, bt206.2.2)) else ((spec_l1PickInt.f x1000 bt206.2.1 bt206.2.2 (([0, 1, 2, 4, 8, 9, 12, 20, 23] : List Int))).bind fun bt212 => (some (x193000, x193001, x193002, bt206.1, bt212.1, bt212.2.1, bt212.2.2)))))
end
def spec_l8DrawIns.f (k : Nat) (s0_0 : List Int) (s0_1 : Int) (s0_2 : Int) : Option (Int × Int × Int × Int × Int × Int × Int) := (spec_l1PickInt.f s0_0 s0_1 s0_2 (([1, 1, 2, 3, 3, 4, 4, 5, 5, 5, 6, 6, 7, 8, 9, 10] : List Int))).bind fun bt189 => ((spec_l8Has.f bt189.1).bind fun t193 => (if (Go.bits .and .i64 t193 1) = 0 then (spec_l8DrawIns.j0 k t193 s0_0 bt189.2.1 bt189.2.2 bt189.1 0 0 0 0) else ((spec_l1Below.f s0_0 bt189.2.1 bt189.2.2 4).bind fun bt194 => (spec_l8DrawIns.j0 k t193 s0_0 bt194.2.1 bt194.2.2 bt189.1 bt194.1 0 0 0))))
theorem spec_l8DrawIns.mono_l : ∀ k, (∀ y0 y1 y2 y3 y4 y5 y6 y7 y8, LeO (spec_l8DrawIns.j0 k y0 y1 y2 y3 y4 y5 y6 y7 y8) (spec_l8DrawIns.j0 (k + 1) y0 y1 y2 y3 y4 y5 y6 y7 y8)) ∧ (∀ y0 y1 y2 y3 y4 y5 y6 y7 y8, LeO (spec_l8DrawIns.j1 k y0 y1 y2 y3 y4 y5 y6 y7 y8) (spec_l8DrawIns.j1 (k + 1) y0 y1 y2 y3 y4 y5 y6 y7 y8))
 | 0 => ⟨fun _ _ _ _ _ _ _ _ _ r h => by simp [spec_l8DrawIns.j0] at h, fun _ _ _ _ _ _ _ _ _ r h => by simp [spec_l8DrawIns.j1] at h⟩
 | k + 1 => by
  obtain ⟨ih0, ih1⟩ := spec_l8DrawIns.mono_l k
  refine ⟨?_, ?_⟩
  ·intro y0 y1 y2 y3 y4 y5 y6 y7 y8
   unfold spec_l8DrawIns.j0
   repeat' first
   | (with_reducible exact ih0 _ _ _ _ _ _ _ _ _)
   | (with_reducible exact ih1 _ _ _ _ _ _ _ _ _)
   | (with_reducible exact LeO.refl _)
   | (with_reducible exact LeO.none _)
   | (with_reducible refine LeO.ite ?_ ?_)
   | (with_reducible refine LeO.bind ?_ (fun _ => ?_))
   | exact ih0 _ _ _ _ _ _ _ _ _
   | exact ih1 _ _ _ _ _ _ _ _ _
   | exact LeO.none _
   | refine LeO.ite ?_ ?_
   | refine LeO.bind ?_ (fun _ => ?_)
  ·intro y0 y1 y2 y3 y4 y5 y6 y7 y8
   unfold spec_l8DrawIns.j1
   repeat' first
   | (with_reducible exact ih0 _ _ _ _ _ _ _ _ _)
   | (with_reducible exact ih1 _ _ _ _ _ _ _ _ _)
   | (with_reducible exact LeO.refl _)
   | (with_reducible exact LeO.none _)
   | (with_reducible refine LeO.ite ?_ ?_)
   | (with_reducible refine LeO.bind ?_ (fun _ => ?_))
   | exact ih0 _ _ _ _ _ _ _ _ _
   | exact ih1 _ _ _ _ _ _ _ _ _
   | exact LeO.none _
   | refine LeO.ite ?_ ?_
   | refine LeO.bind ?_ (fun _ => ?_)
theorem spec_l8DrawIns.mono : ∀ a0 a1 a2 k, LeO (spec_l8DrawIns.f k a0 a1 a2) (spec_l8DrawIns.f (k + 1) a0 a1 a2) := by
 intro a0 a1 a2 k
 obtain ⟨ih0, ih1⟩ := spec_l8DrawIns.mono_l k
 unfold spec_l8DrawIns.f
 repeat' first
   | (with_reducible exact ih0 _ _ _ _ _ _ _ _ _)
   | (with_reducible exact ih1 _ _ _ _ _ _ _ _ _)
   | (with_reducible exact LeO.refl _)
   | (with_reducible exact LeO.none _)
   | (with_reducible refine LeO.ite ?_ ?_)
   | (with_reducible refine LeO.bind ?_ (fun _ => ?_))
   | exact ih0 _ _ _ _ _ _ _ _ _
   | exact ih1 _ _ _ _ _ _ _ _ _
   | exact LeO.none _
   | refine LeO.ite ?_ ?_
   | refine LeO.bind ?_ (fun _ => ?_)
set_option maxHeartbeats 8000000 in
set_option maxRecDepth 100000 in
theorem spec_l8DrawIns.calls (k : Nat) (g : Nat) (s0_0 : List Int) (s0_1 : Int) (s0_2 : Int) (r1 : Int) (r2 : Int) (r3 : Int) (r4 : Int) (r5 : Int) (r6 : Int) (r7 : Int) (w0 w : World) (hI : IsS90 w0 w g s0_0 s0_1 s0_2) (hB : Below w0.heap.size w0 w) (h : spec_l8DrawIns.f k s0_0 s0_1 s0_2 = some (r1, r2, r3, r4, r5, r6, r7)) :
  Calls Try.prog 101 #[.pointer (some ⟨g, 0, none⟩)] w fun e w' => e = .returned (.agg #[.int .i64 r1, .int .i64 r2, .int .i64 r3, .int .i64 r4, .int .i64 r5]) ∧ IsS90 w0 w' g s0_0 r6 r7 ∧ Below w0.heap.size w0 w' ∧ KeepBut w w' g none := by
 have hu66 := Try.underlying66
 have HI0 := Aside0.mk hI
 have HK := Aside0.mk (KeepBut.refl w g none)
 have HL := Aside0.mk hB.size
 clear hI
 have HW0 := Aside0.mk hB.size
 have HB := Aside0.mk hB
 clear hB
 have H : ((spec_l1PickInt.f s0_0 s0_1 s0_2 (([1, 1, 2, 3, 3, 4, 4, 5, 5, 5, 6, 6, 7, 8, 9, 10] : List Int))).bind fun bt189 => ((spec_l8Has.f bt189.1).bind fun t193 => (if (Go.bits .and .i64 t193 1) = 0 then (spec_l8DrawIns.j0 k t193 s0_0 bt189.2.1 bt189.2.2 bt189.1 0 0 0 0) else ((spec_l1Below.f s0_0 bt189.2.1 bt189.2.2 4).bind fun bt194 => (spec_l8DrawIns.j0 k t193 s0_0 bt194.2.1 bt194.2.2 bt189.1 bt194.1 0 0 0))))) = some (r1, r2, r3, r4, r5, r6, r7) := h
 clear h
 obtain ⟨y186, hy186⟩ : ∃ y_ : List Int, y_ = (([1, 1, 2, 3, 3, 4, 4, 5, 5, 5, 6, 6, 7, 8, 9, 10] : List Int)) := ⟨_, rfl⟩
 replace H : ((spec_l1PickInt.f s0_0 s0_1 s0_2 y186).bind fun bt189 => ((spec_l8Has.f bt189.1).bind fun t193 => (if (Go.bits .and .i64 t193 1) = 0 then (spec_l8DrawIns.j0 k t193 s0_0 bt189.2.1 bt189.2.2 bt189.1 0 0 0 0) else ((spec_l1Below.f s0_0 bt189.2.1 bt189.2.2 4).bind fun bt194 => (spec_l8DrawIns.j0 k t193 s0_0 bt194.2.1 bt194.2.2 bt189.1 bt194.1 0 0 0))))) = some (r1, r2, r3, r4, r5, r6, r7) := by first | (rw [hy186]; with_reducible exact H) | (have H2_ := (Option.bind_some _ _).symm.trans H; rw [hy186]; with_reducible exact H2_) | (have H2_ := (Option.bind_some _ _).symm.trans H; with_reducible exact H2_) | with_reducible exact H | (rw [hy186]; exact H) | exact H
 have Ny186 := Aside0.mk hy186
 clear hy186
 replace H := Option.bind_eq_some_iff.mp H
 obtain ⟨⟨t189, t190, t191⟩, A20, H⟩ := H
 replace H : ((spec_l8Has.f t189).bind fun t193 => (if (Go.bits .and .i64 t193 1) = 0 then (spec_l8DrawIns.j0 k t193 s0_0 t190 t191 t189 0 0 0 0) else ((spec_l1Below.f s0_0 t190 t191 4).bind fun bt194 => (spec_l8DrawIns.j0 k t193 s0_0 bt194.2.1 bt194.2.2 t189 bt194.1 0 0 0)))) = some (r1, r2, r3, r4, r5, r6, r7) := H
 have A2 := Aside0.mk A20
 clear A20
 replace H := Option.bind_eq_some_iff.mp H
 obtain ⟨t193, A30, H⟩ := H
 replace H : (if (Go.bits .and .i64 t193 1) = 0 then (spec_l8DrawIns.j0 k t193 s0_0 t190 t191 t189 0 0 0 0) else ((spec_l1Below.f s0_0 t190 t191 4).bind fun bt194 => (spec_l8DrawIns.j0 k t193 s0_0 bt194.2.1 bt194.2.2 t189 bt194.1 0 0 0))) = some (r1, r2, r3, r4, r5, r6, r7) := H
 have A3 := Aside0.mk A30
 clear A30
 have HC4 := Aside0.mk H
 clear H
 go_enter Try.func101, Try.ntmps101
 go_upto_if 14 with (first | ((with_reducible refine gate_dst (N := 2) rfl ?_); refine box_event ?hg (N := 2) ?hd (cs := #[.int .i64 0, .int .i64 0, .int .i64 0, .int .i64 0, .int .i64 0]) (t := 66) ?hr ?_; (case hd => rfl); (case hg => rfl); (case hr => first | (go_simp; done) | (go_simp; rfl)); intro gb185 hg w5 hbox hb; have n0_ := Aside0.mk (IsS90.below (zB4_0) hb); have n1_ := Aside0.mk (KeepBut.trans (zB4_1) (KeepBut.of_below hb g none) (.inl rfl)); have n2_ := Aside0.mk (below_step (zB4_2) hb); have n3_ := Aside0.mk (hbox); have n4_ := Aside0.mk ((by rw [hg]; exact (keep_size (w := w) (g := g) (row := none) (zB4_1)) : w.heap.size ≤ gb185)); have n5_ := Aside0.mk ((Nat.le_trans HW0.out (by rw [hg]; exact (keep_size (w := w) (g := g) (row := none) (zB4_1)) : w.heap.size ≤ gb185) : w0.heap.size ≤ gb185)); have n6_ := Aside0.mk ((by rw [hg]; exact Nat.ne_of_lt (IsS90.lt (show IsS90 w0 _ g s0_0 s0_1 s0_2 from zB4_0)) : g ≠ gb185)); have n7_ := Aside0.mk ((by rw [hg]; exact Nat.ne_of_gt (IsS90.lt (show IsS90 w0 _ g s0_0 s0_1 s0_2 from zB4_0)) : gb185 ≠ g)); clear HI0; clear HK; clear HB; have HI0 := n0_; have HK := n1_; have HB := n2_; have BK185 := n3_; have GW185 := n4_; have GE185 := n5_; have NB0_185 := n6_; have NB185_0 := n7_; clear n0_ n1_ n2_ n3_ n4_ n5_ n6_ n7_; clear hb hbox hg) | ((with_reducible refine gate_dst (N := 6) rfl ?_); refine Kd.R_lit (Kd.int .i64) _ 3 ?hg (N := 6) ?hd (xs := ([1, 1, 2, 3, 3, 4, 4, 5, 5, 5, 6, 6, 7, 8, 9, 10] : List Int)) (inner := [.int .i64 1, .int .i64 1, .int .i64 2, .int .i64 3, .int .i64 3, .int .i64 4, .int .i64 4, .int .i64 5, .int .i64 5, .int .i64 5, .int .i64 6, .int .i64 6, .int .i64 7, .int .i64 8, .int .i64 9, .int .i64 10]) (ok := fun _ => True) (okp := fun _ => True) ?hr ?hp (fun _ hk => hk) trivial (Below.refl _ _) (Nat.le_refl _) (by simp) ?_; (case hd => rfl); (case hg => rfl); (case hr => first | (go_simp; done) | (go_simp; rfl)); (case hp => exact (Reps.one (show Kd.M (Kd.int .i64) _ _ _ 1 [.int .i64 1] from rfl) (Reps.one (show Kd.M (Kd.int .i64) _ _ _ 1 [.int .i64 1] from rfl) (Reps.one (show Kd.M (Kd.int .i64) _ _ _ 2 [.int .i64 2] from rfl) (Reps.one (show Kd.M (Kd.int .i64) _ _ _ 3 [.int .i64 3] from rfl) (Reps.one (show Kd.M (Kd.int .i64) _ _ _ 3 [.int .i64 3] from rfl) (Reps.one (show Kd.M (Kd.int .i64) _ _ _ 4 [.int .i64 4] from rfl) (Reps.one (show Kd.M (Kd.int .i64) _ _ _ 4 [.int .i64 4] from rfl) (Reps.one (show Kd.M (Kd.int .i64) _ _ _ 5 [.int .i64 5] from rfl) (Reps.one (show Kd.M (Kd.int .i64) _ _ _ 5 [.int .i64 5] from rfl) (Reps.one (show Kd.M (Kd.int .i64) _ _ _ 5 [.int .i64 5] from rfl) (Reps.one (show Kd.M (Kd.int .i64) _ _ _ 6 [.int .i64 6] from rfl) (Reps.one (show Kd.M (Kd.int .i64) _ _ _ 6 [.int .i64 6] from rfl) (Reps.one (show Kd.M (Kd.int .i64) _ _ _ 7 [.int .i64 7] from rfl) (Reps.one (show Kd.M (Kd.int .i64) _ _ _ 8 [.int .i64 8] from rfl) (Reps.one (show Kd.M (Kd.int .i64) _ _ _ 9 [.int .i64 9] from rfl) (Reps.one (show Kd.M (Kd.int .i64) _ _ _ 10 [.int .i64 10] from rfl) (Reps.none _ _)))))))))))))))))); intro v187 w6 ho7 hb hg_ hnew_; clear hg_ hnew_; (first | rw [← Ny186.out] at ho7 | (simp only [Int.reduceToNat] at ho7; rw [← Ny186.out] at ho7)); have n0_ := Aside0.mk (Kd.R_lower ho7 (keep_size (w := w) (g := g) (row := none) (zB4_3))); have n1_ := Aside0.mk (IsS90.below (zB4_4) hb); have n2_ := Aside0.mk (zb4 BK185.out hb); have n3_ := Aside0.mk (KeepBut.trans (zB4_3) (KeepBut.of_below hb g none) (.inl rfl)); have n4_ := Aside0.mk (below_step (zB4_5) hb); clear HI0; clear BK185; clear HK; clear HB; have HO188 := n0_; have HI0 := n1_; have BK185 := n2_; have HK := n3_; have HB := n4_; clear n0_ n1_ n2_ n3_ n4_; clear hb ho7; obtain ⟨Ao8, co8, eo8⟩ := Kd.R_slice HO188.out; subst eo8) | ((with_reducible refine gate_callee (f := 81) rfl ?_); refine goesL_ (some 7) rfl rfl Try.func81 (by kernel_rfl) rfl #[.pointer (some ⟨g, 0, none⟩), .slice Ao8 y186.length co8] rfl zT4 ?_; (with_reducible refine (spec_l1PickInt.calls g s0_0 s0_1 s0_2 _ _ y186 t189 t190 t191 w0 _ ?side1 ?side2 ?side3 ?side4 ?side5 A2.out).mono ?_); (case side1 => exact zB4_4); (case side2 => exact zB4_5); (case side3 => exact zC4 (Kd.R_reads' HO188.out).2.2); (case side4 => exact (Kd.R_reads' HO188.out).2.1); (case side5 => exact far_slice (IsS90.own_ne HI0.out HO188.out (by decide))); rintro e w9 ⟨rfl, hi, hb, hk⟩; refine ⟨_, rfl, ?_⟩; have n0_ := Aside0.mk (zh4 hk BK185.out NB185_0.out); have n1_ := Aside0.mk (Kd.R_mono (Kd.R_keep (IsS90.apart (show IsS90 w0 _ g s0_0 s0_1 s0_2 from zB4_4) (zR4 HO188.out) (by decide)) hk (fun _ h => h.2)) (fun _ h => h.1)); have n2_ := Aside0.mk (KeepBut.trans (zB4_3) hk (.inl rfl)); have n3_ := Aside0.mk (hb); have n4_ := Aside0.mk (hi); clear BK185; clear HO188; clear HK; clear HB; clear HI0; have BK185 := n0_; have HO188 := n1_; have HK := n2_; have HB := n3_; have HI0 := n4_; clear n0_ n1_ n2_ n3_ n4_; (try clear hb); (try clear hb2); (try clear hk); (try clear hi)) | ((with_reducible refine gate_dst (N := 3) rfl ?_); refine box_event ?hg (N := 3) ?hd (cs := #[.int .i64 0, .int .i64 0, .int .i64 0, .int .i64 0, .int .i64 0]) (t := 66) ?hr ?_; (case hd => rfl); (case hg => rfl); (case hr => first | (go_simp; done) | (go_simp; rfl)); intro gb192 hg w10 hbox hb; have n0_ := Aside0.mk (Kd.R_below (zR4 HO188.out) hb); have n1_ := Aside0.mk (IsS90.below (zB4_4) hb); have n2_ := Aside0.mk (zb4 BK185.out hb); have n3_ := Aside0.mk (KeepBut.trans (zB4_3) (KeepBut.of_below hb g none) (.inl rfl)); have n4_ := Aside0.mk (below_step (zB4_5) hb); have n5_ := Aside0.mk (hbox); have n6_ := Aside0.mk ((by rw [hg]; exact (keep_size (w := w) (g := g) (row := none) (zB4_3)) : w.heap.size ≤ gb192)); have n7_ := Aside0.mk ((Nat.le_trans HW0.out (by rw [hg]; exact (keep_size (w := w) (g := g) (row := none) (zB4_3)) : w.heap.size ≤ gb192) : w0.heap.size ≤ gb192)); have n8_ := Aside0.mk ((zn4 BK185.out hg : gb185 ≠ gb192)); have n9_ := Aside0.mk ((zm4 BK185.out hg : gb192 ≠ gb185)); have n10_ := Aside0.mk ((by rw [hg]; exact Nat.ne_of_lt (IsS90.lt (show IsS90 w0 _ g s0_0 t190 t191 from zB4_4)) : g ≠ gb192)); have n11_ := Aside0.mk ((by rw [hg]; exact Nat.ne_of_gt (IsS90.lt (show IsS90 w0 _ g s0_0 t190 t191 from zB4_4)) : gb192 ≠ g)); clear HO188; clear HI0; clear BK185; clear HK; clear HB; have HO188 := n0_; have HI0 := n1_; have BK185 := n2_; have HK := n3_; have HB := n4_; have BK192 := n5_; have GW192 := n6_; have GE192 := n7_; have NB185_192 := n8_; have NB192_185 := n9_; have NB0_192 := n10_; have NB192_0 := n11_; clear n0_ n1_ n2_ n3_ n4_ n5_ n6_ n7_ n8_ n9_ n10_ n11_; clear hb hbox hg; have hnb11 := NB192_185.out; have hnc11 := NB185_192.out; have hnb12 := NB192_0.out; have hnc12 := NB0_192.out; obtain ⟨hcz13_0, hcz13_1, hcz13_2, hcz13_3, hcz13_4, hfz13_0, hfz13_1, hfz13_2, hfz13_3, hfz13_4⟩ := zc4_5 (w := w10) BK192.out) | ((with_reducible refine gate_callee (f := 116) rfl ?_); refine goesL_ (some 11) rfl rfl Try.func116 (by kernel_rfl) rfl #[.int .i64 t189] rfl zT4 ?_; (with_reducible refine (spec_l8Has.calls t189 t193 _ A3.out).mono ?_); rintro e w14 ⟨rfl, hb⟩; refine ⟨_, rfl, ?_⟩; have n0_ := Aside0.mk (Kd.R_below (by (with_reducible repeat (first | apply Kd.R_alloc | apply Kd.R_drewN | apply Kd.R_drew)); exact (Kd.R_mono (Kd.R_far (p := ⟨gb192, 4, none⟩) (Kd.R_far (p := ⟨gb192, 3, none⟩) (Kd.R_far (p := ⟨gb192, 2, none⟩) (Kd.R_far (p := ⟨gb192, 1, none⟩) (Kd.R_far (p := ⟨gb192, 0, none⟩) (Kd.R_types HO188.out BK192.out (by decide)) (fun _ hk => hk.2) (.int .i64 t189)) (fun _ hk => hk.2) (.int .i64 0)) (fun _ hk => hk.2) (.int .i64 0)) (fun _ hk => hk.2) (.int .i64 0)) (fun _ hk => hk.2) (.int .i64 0)) (fun _ h_ => h_.1))) hb); have n1_ := Aside0.mk (IsS90.below (show IsS90 w0 (((((w10.setCell ⟨gb192, 0, none⟩ (.int .i64 t189)).setCell ⟨gb192, 1, none⟩ (.int .i64 0)).setCell ⟨gb192, 2, none⟩ (.int .i64 0)).setCell ⟨gb192, 3, none⟩ (.int .i64 0)).setCell ⟨gb192, 4, none⟩ (.int .i64 0)) g s0_0 t190 t191 from zB4_6) hb); have n2_ := Aside0.mk (blk_below (g := gb185) (o := .cells #[.int .i64 0, .int .i64 0, .int .i64 0, .int .i64 0, .int .i64 0] 66 (0, 0)) (by refine zP4 ?_; refine blk_far ?_ NB185_192.out _; refine zP4 ?_; refine blk_far ?_ NB185_192.out _; refine zP4 ?_; refine blk_far ?_ NB185_192.out _; refine zP4 ?_; refine blk_far ?_ NB185_192.out _; refine zP4 ?_; refine blk_far ?_ NB185_192.out _; refine zP4 ?_; exact BK185.out) hb); have n3_ := Aside0.mk (blk_below (g := gb192) (o := .cells #[.int .i64 t189, .int .i64 0, .int .i64 0, .int .i64 0, .int .i64 0] 66 (0, 0)) (by refine zP4 ?_; refine blk_put (cs := #[.int .i64 t189, .int .i64 0, .int .i64 0, .int .i64 0, .int .i64 0]) ?_ 4 _ rfl; refine zP4 ?_; refine blk_put (cs := #[.int .i64 t189, .int .i64 0, .int .i64 0, .int .i64 0, .int .i64 0]) ?_ 3 _ rfl; refine zP4 ?_; refine blk_put (cs := #[.int .i64 t189, .int .i64 0, .int .i64 0, .int .i64 0, .int .i64 0]) ?_ 2 _ rfl; refine zP4 ?_; refine blk_put (cs := #[.int .i64 t189, .int .i64 0, .int .i64 0, .int .i64 0, .int .i64 0]) ?_ 1 _ rfl; refine zP4 ?_; refine blk_put (cs := #[.int .i64 0, .int .i64 0, .int .i64 0, .int .i64 0, .int .i64 0]) ?_ 0 _ rfl; refine zP4 ?_; exact BK192.out) hb); have n4_ := Aside0.mk (KeepBut.trans (zB4_7) (KeepBut.of_below hb g none) (.inl rfl)); have n5_ := Aside0.mk (below_step (zB4_8) hb); clear HO188; clear HI0; clear BK185; clear BK192; clear HK; clear HB; have HO188 := n0_; have HI0 := n1_; have BK185 := n2_; have BK192 := n3_; have HK := n4_; have HB := n5_; clear n0_ n1_ n2_ n3_ n4_ n5_; (try clear hb); (try clear hb2); (try clear hk); (try clear hi)))
 (try simp only [Act.put, List.setIfInBounds_toArray, List.set_cons_zero, List.set_cons_succ])
 go_cut [] (fun wc => ∃ (kq : Nat) (x1001_3 : Int) (x1002_3 : Int) (x193001_3 : Int), Aside0 (spec_l8DrawIns.j0 kq t193 s0_0 x1001_3 x1002_3 t189 x193001_3 0 0 0 = some (r1, r2, r3, r4, r5, r6, r7)) ∧ Aside0 (kq ≤ k) ∧ Aside0 (wc.heap[gb185]? = some (.cells #[.int .i64 0, .int .i64 0, .int .i64 0, .int .i64 0, .int .i64 0] 66 (0, 0))) ∧ Aside0 (wc.heap[gb192]? = some (.cells #[.int .i64 t189, .int .i64 x193001_3, .int .i64 0, .int .i64 0, .int .i64 0] 66 (0, 0))) ∧ Aside0 (IsS90 w0 wc g s0_0 x1001_3 x1002_3) ∧ Aside0 (KeepBut w wc g none) ∧ Aside0 (Below w0.heap.size w0 wc))
 case first =>
  have H := HC4.out
  clear HC4
  by_cases c15 : (Go.bits .and .i64 t193 1) = 0
  ·rw [if_pos c15] at H
   have c15b0 : ((Go.bits .and .i64 t193 1) == 0) = true := beq_iff_eq.mpr c15
   have c15b1 : ((Go.bits .and .i64 t193 1) != 0) = false := bne_eq_false_iff_eq.mpr c15
   clear c15
   (first | rw [c15b0] | (simp only [i64_w, i32_w]; rw [c15b0]) | skip)
   have H' := Aside0.mk H
   clear H
   go_wp2
   go_meet
   case rel => exact ⟨_, (t190), (t191), (0), H', ⟨by first | omega | exact Nat.le_refl _⟩, ⟨zK4 BK185.out⟩, ⟨zK4 BK192.out⟩, ⟨zB4_6⟩, ⟨zB4_7⟩, ⟨zB4_8⟩⟩
  rw [if_neg c15] at H
  have c15b0 : ((Go.bits .and .i64 t193 1) == 0) = false := beq_eq_false_iff_ne.mpr c15
  have c15b1 : ((Go.bits .and .i64 t193 1) != 0) = true := bne_iff_ne.mpr c15
  (first | rw [c15b0] | (simp only [i64_w, i32_w]; rw [c15b0]) | skip)
  replace H := Option.bind_eq_some_iff.mp H
  obtain ⟨⟨t194, t195, t196⟩, A160, H⟩ := H
  replace H : (spec_l8DrawIns.j0 k t193 s0_0 t195 t196 t189 t194 0 0 0) = some (r1, r2, r3, r4, r5, r6, r7) := H
  have A16 := Aside0.mk A160
  clear A160
  have H' := Aside0.mk H
  clear H
  go_wp2_with (first | ((with_reducible refine gate_callee (f := 52) rfl ?_); refine goesL_ (some 16) rfl rfl Try.func52 (by kernel_rfl) rfl #[.pointer (some ⟨g, 0, none⟩), .int .i64 4] rfl zT4 ?_; (with_reducible refine (spec_l1Below.calls g s0_0 t190 t191 4 t194 t195 t196 w0 _ ?side1 ?side2 A16.out).mono ?_); (case side1 => exact zB4_6); (case side2 => exact zB4_8); rintro e w17 ⟨rfl, hi, hb, hk⟩; refine ⟨_, rfl, ?_⟩; have n0_ := Aside0.mk (zh4 hk BK185.out NB185_0.out); have n1_ := Aside0.mk (Kd.R_mono (Kd.R_keep (IsS90.apart (show IsS90 w0 _ g s0_0 t190 t191 from zB4_6) (zR4 HO188.out) (by decide)) hk (fun _ h => h.2)) (fun _ h => h.1)); have n2_ := Aside0.mk (zh4 hk BK192.out NB192_0.out); have n3_ := Aside0.mk (KeepBut.trans (zB4_7) hk (.inl rfl)); have n4_ := Aside0.mk (hb); have n5_ := Aside0.mk (hi); clear BK185; clear HO188; clear BK192; clear HK; clear HB; clear HI0; have BK185 := n0_; have HO188 := n1_; have BK192 := n2_; have HK := n3_; have HB := n4_; have HI0 := n5_; clear n0_ n1_ n2_ n3_ n4_ n5_; (try clear hb); (try clear hb2); (try clear hk); (try clear hi); have hnb18 := NB192_185.out; have hnc18 := NB185_192.out; have hnb19 := NB192_0.out; have hnc19 := NB0_192.out; obtain ⟨hcz20_0, hcz20_1, hcz20_2, hcz20_3, hcz20_4, hfz20_0, hfz20_1, hfz20_2, hfz20_3, hfz20_4⟩ := zc4_5 (w := w17) BK192.out))
  go_meet
  case rel => exact ⟨_, (t195), (t196), (t194), H', ⟨by first | omega | exact Nat.le_refl _⟩, ⟨by refine zP4 ?_; refine blk_far ?_ NB185_192.out _; refine zP4 ?_; exact BK185.out⟩, ⟨by refine zP4 ?_; refine blk_put (cs := #[.int .i64 t189, .int .i64 0, .int .i64 0, .int .i64 0, .int .i64 0]) ?_ 1 _ rfl; refine zP4 ?_; exact BK192.out⟩, ⟨zB4_6⟩, ⟨zB4_7⟩, ⟨zB4_8⟩⟩
 case rest =>
  clear HC4
  try clear c1
  try clear p2
  try clear c5
  try clear c8
  try clear c10
  try clear c11
  try clear c12
  try clear c15
  try clear c15b0
  try clear c15b1
  try clear c18
  try clear c19
  try clear hcz13_0
  try clear hcz13_1
  try clear hcz13_2
  try clear hcz13_3
  try clear hcz13_4
  try clear hcz20_0
  try clear hcz20_1
  try clear hcz20_2
  try clear hcz20_3
  try clear hcz20_4
  try clear hfz13_0
  try clear hfz13_1
  try clear hfz13_2
  try clear hfz13_3
  try clear hfz13_4
  try clear hfz20_0
  try clear hfz20_1
  try clear hfz20_2
  try clear hfz20_3
  try clear hfz20_4
  obtain ⟨kq, x1001_3, x1002_3, x193001_3, HA, HJ3, BK185, BK192, HI0, HK, HB⟩ := hcut
  cases kq with
  | zero => exact absurd HA.out (by simp [spec_l8DrawIns.j0])
  | succ kj3 =>
   have H := HA.out
   clear HA
   simp only [spec_l8DrawIns.j0] at H
   have HC21 := Aside0.mk H
   clear H
   go_upto_if 20 with (fail)
   go_cut [] (fun wc => ∃ (kq : Nat) (x1001_20 : Int) (x1002_20 : Int) (x193002_20 : Int), Aside0 (spec_l8DrawIns.j1 kq t193 s0_0 x1001_20 x1002_20 t189 x193001_3 x193002_20 0 0 = some (r1, r2, r3, r4, r5, r6, r7)) ∧ Aside0 (kq ≤ kj3) ∧ Aside0 (wc.heap[gb185]? = some (.cells #[.int .i64 0, .int .i64 0, .int .i64 0, .int .i64 0, .int .i64 0] 66 (0, 0))) ∧ Aside0 (wc.heap[gb192]? = some (.cells #[.int .i64 t189, .int .i64 x193001_3, .int .i64 x193002_20, .int .i64 0, .int .i64 0] 66 (0, 0))) ∧ Aside0 (IsS90 w0 wc g s0_0 x1001_20 x1002_20) ∧ Aside0 (KeepBut w wc g none) ∧ Aside0 (Below w0.heap.size w0 wc))
   case first =>
    have H := HC21.out
    clear HC21
    by_cases c22 : (Go.bits .and .i64 t193 2) = 0
    ·rw [if_pos c22] at H
     have c22b0 : ((Go.bits .and .i64 t193 2) == 0) = true := beq_iff_eq.mpr c22
     have c22b1 : ((Go.bits .and .i64 t193 2) != 0) = false := bne_eq_false_iff_eq.mpr c22
     clear c22
     (first | rw [c22b0] | (simp only [i64_w, i32_w]; rw [c22b0]) | skip)
     have H' := Aside0.mk H
     clear H
     go_wp2
     go_meet
     case rel => exact ⟨_, (x1001_3), (x1002_3), (0), H', ⟨by have := HJ3.out; first | omega | exact Nat.le_refl _⟩, ⟨zK4 BK185.out⟩, ⟨zK4 BK192.out⟩, ⟨zB4_6⟩, ⟨zB4_7⟩, ⟨zB4_8⟩⟩
    rw [if_neg c22] at H
    have c22b0 : ((Go.bits .and .i64 t193 2) == 0) = false := beq_eq_false_iff_ne.mpr c22
    have c22b1 : ((Go.bits .and .i64 t193 2) != 0) = true := bne_iff_ne.mpr c22
    (first | rw [c22b0] | (simp only [i64_w, i32_w]; rw [c22b0]) | skip)
    replace H := Option.bind_eq_some_iff.mp H
    obtain ⟨⟨t197, t198, t199⟩, A230, H⟩ := H
    replace H : (spec_l8DrawIns.j1 kj3 t193 s0_0 t198 t199 t189 x193001_3 t197 0 0) = some (r1, r2, r3, r4, r5, r6, r7) := H
    have A23 := Aside0.mk A230
    clear A230
    have H' := Aside0.mk H
    clear H
    go_wp2_with (first | ((with_reducible refine gate_callee (f := 52) rfl ?_); refine goesL_ (some 22) rfl rfl Try.func52 (by kernel_rfl) rfl #[.pointer (some ⟨g, 0, none⟩), .int .i64 4] rfl zT4 ?_; (with_reducible refine (spec_l1Below.calls g s0_0 x1001_3 x1002_3 4 t197 t198 t199 w0 _ ?side1 ?side2 A23.out).mono ?_); (case side1 => exact zB4_6); (case side2 => exact zB4_8); rintro e w24 ⟨rfl, hi, hb, hk⟩; refine ⟨_, rfl, ?_⟩; have n0_ := Aside0.mk (zh4 hk BK185.out NB185_0.out); have n1_ := Aside0.mk (zh4 hk BK192.out NB192_0.out); have n2_ := Aside0.mk (KeepBut.trans (zB4_7) hk (.inl rfl)); have n3_ := Aside0.mk (hb); have n4_ := Aside0.mk (hi); clear BK185; clear BK192; clear HK; clear HB; clear HI0; have BK185 := n0_; have BK192 := n1_; have HK := n2_; have HB := n3_; have HI0 := n4_; clear n0_ n1_ n2_ n3_ n4_; (try clear hb); (try clear hb2); (try clear hk); (try clear hi); have hnb25 := NB192_185.out; have hnc25 := NB185_192.out; have hnb26 := NB192_0.out; have hnc26 := NB0_192.out; obtain ⟨hcz27_0, hcz27_1, hcz27_2, hcz27_3, hcz27_4, hfz27_0, hfz27_1, hfz27_2, hfz27_3, hfz27_4⟩ := zc4_5 (w := w24) BK192.out))
    go_meet
    case rel => exact ⟨_, (t198), (t199), (t197), H', ⟨by have := HJ3.out; first | omega | exact Nat.le_refl _⟩, ⟨by refine zP4 ?_; refine blk_far ?_ NB185_192.out _; refine zP4 ?_; exact BK185.out⟩, ⟨by refine zP4 ?_; refine blk_put (cs := #[.int .i64 t189, .int .i64 x193001_3, .int .i64 0, .int .i64 0, .int .i64 0]) ?_ 2 _ rfl; refine zP4 ?_; exact BK192.out⟩, ⟨zB4_6⟩, ⟨zB4_7⟩, ⟨zB4_8⟩⟩
   case rest =>
    clear HC21
    try clear c1
    try clear c2
    try clear p2
    try clear c5
    try clear c8
    try clear c10
    try clear c11
    try clear c12
    try clear c15
    try clear c15b0
    try clear c15b1
    try clear c18
    try clear c19
    try clear c22
    try clear c22b0
    try clear c22b1
    try clear c25
    try clear c26
    try clear hcz13_0
    try clear hcz13_1
    try clear hcz13_2
    try clear hcz13_3
    try clear hcz13_4
    try clear hcz20_0
    try clear hcz20_1
    try clear hcz20_2
    try clear hcz20_3
    try clear hcz20_4
    try clear hcz27_0
    try clear hcz27_1
    try clear hcz27_2
    try clear hcz27_3
    try clear hcz27_4
    try clear hfz13_0
    try clear hfz13_1
    try clear hfz13_2
    try clear hfz13_3
    try clear hfz13_4
    try clear hfz20_0
    try clear hfz20_1
    try clear hfz20_2
    try clear hfz20_3
    try clear hfz20_4
    try clear hfz27_0
    try clear hfz27_1
    try clear hfz27_2
    try clear hfz27_3
    try clear hfz27_4
    try clear p2
    obtain ⟨kq, x1001_20, x1002_20, x193002_20, HA, HJ20, BK185, BK192, HI0, HK, HB⟩ := hcut
    cases kq with
    | zero => exact absurd HA.out (by simp [spec_l8DrawIns.j1])
    | succ kj20 =>
     have H := HA.out
     clear HA
     simp only [spec_l8DrawIns.j1] at H
     by_cases c28 : (Go.bits .and .i64 t193 4) = 0
     ·rw [if_pos c28] at H
      have c28b0 : ((Go.bits .and .i64 t193 4) == 0) = true := beq_iff_eq.mpr c28
      have c28b1 : ((Go.bits .and .i64 t193 4) != 0) = false := bne_eq_false_iff_eq.mpr c28
      clear c28
      by_cases c29 : (Go.bits .and .i64 t193 8) = 0
      ·rw [if_pos c29] at H
       have c29b0 : ((Go.bits .and .i64 t193 8) == 0) = true := beq_iff_eq.mpr c29
       have c29b1 : ((Go.bits .and .i64 t193 8) != 0) = false := bne_eq_false_iff_eq.mpr c29
       clear c29
       simp only [Option.some.injEq, Prod.mk.injEq] at H
       obtain ⟨rfl, rfl, rfl, rfl, rfl, rfl, rfl⟩ := H
       have hnb30 := NB192_185.out
       have hnc30 := NB185_192.out
       have hnb31 := NB192_0.out
       have hnc31 := NB0_192.out
       obtain ⟨hcz32_0, hcz32_1, hcz32_2, hcz32_3, hcz32_4, hfz32_0, hfz32_1, hfz32_2, hfz32_3, hfz32_4⟩ := zc4_5 (w := wc) BK192.out
       have hnb33 := NB185_0.out
       have hnc33 := NB0_185.out
       obtain ⟨hcz34_0, hcz34_1, hcz34_2, hcz34_3, hcz34_4, hfz34_0, hfz34_1, hfz34_2, hfz34_3, hfz34_4⟩ := zc4_5 (w := wc) BK185.out
       go_wp2
       refine bodyPost_ret (results_cell_row rfl _ _ gb185 66 #[.int .i64 t189, .int .i64 x193001_3, .int .i64 x193002_20, .int .i64 0, .int .i64 0] (0, 0) _ rfl (by refine zP4 ?_; refine blk_put (cs := #[.int .i64 t189, .int .i64 x193001_3, .int .i64 x193002_20, .int .i64 0, .int .i64 0]) ?_ 4 _ rfl; refine zP4 ?_; refine blk_put (cs := #[.int .i64 t189, .int .i64 x193001_3, .int .i64 x193002_20, .int .i64 0, .int .i64 0]) ?_ 3 _ rfl; refine zP4 ?_; refine blk_put (cs := #[.int .i64 t189, .int .i64 x193001_3, .int .i64 0, .int .i64 0, .int .i64 0]) ?_ 2 _ rfl; refine zP4 ?_; refine blk_put (cs := #[.int .i64 t189, .int .i64 0, .int .i64 0, .int .i64 0, .int .i64 0]) ?_ 1 _ rfl; refine zP4 ?_; refine blk_put (cs := #[.int .i64 0, .int .i64 0, .int .i64 0, .int .i64 0, .int .i64 0]) ?_ 0 _ rfl; refine zP4 ?_; exact BK185.out) Try.underlying66 rfl (by kernel_rfl)) rfl ?_
       exact ⟨zE4, zB4_6, zB4_8, zB4_7⟩
      rw [if_neg c29] at H
      have c29b0 : ((Go.bits .and .i64 t193 8) == 0) = false := beq_eq_false_iff_ne.mpr c29
      have c29b1 : ((Go.bits .and .i64 t193 8) != 0) = true := bne_iff_ne.mpr c29
      obtain ⟨y200, hy200⟩ : ∃ y_ : List Int, y_ = (([0, 1, 2, 4, 8, 9, 12, 20, 23] : List Int)) := ⟨_, rfl⟩
      replace H : ((spec_l1PickInt.f s0_0 x1001_20 x1002_20 y200).bind fun bt203 => (some (t189, x193001_3, x193002_20, 0, bt203.1, bt203.2.1, bt203.2.2))) = some (r1, r2, r3, r4, r5, r6, r7) := by first | (rw [hy200]; with_reducible exact H) | (have H2_ := (Option.bind_some _ _).symm.trans H; rw [hy200]; with_reducible exact H2_) | (have H2_ := (Option.bind_some _ _).symm.trans H; with_reducible exact H2_) | with_reducible exact H | (rw [hy200]; exact H) | exact H
      have Ny200 := Aside0.mk hy200
      clear hy200
      replace H := Option.bind_eq_some_iff.mp H
      obtain ⟨⟨t203, t204, t205⟩, A350, H⟩ := H
      replace H : (some (t189, x193001_3, x193002_20, 0, t203, t204, t205)) = some (r1, r2, r3, r4, r5, r6, r7) := H
      have A35 := Aside0.mk A350
      clear A350
      simp only [Option.some.injEq, Prod.mk.injEq] at H
      obtain ⟨rfl, rfl, rfl, rfl, rfl, rfl, rfl⟩ := H
      go_wp2_with (first | ((with_reducible refine gate_dst (N := 34) rfl ?_); refine Kd.R_lit (Kd.int .i64) _ 3 ?hg (N := 34) ?hd (xs := ([0, 1, 2, 4, 8, 9, 12, 20, 23] : List Int)) (inner := [.int .i64 0, .int .i64 1, .int .i64 2, .int .i64 4, .int .i64 8, .int .i64 9, .int .i64 12, .int .i64 20, .int .i64 23]) (ok := fun _ => True) (okp := fun _ => True) ?hr ?hp (fun _ hk => hk) trivial (Below.refl _ _) (Nat.le_refl _) (by simp) ?_; (case hd => rfl); (case hg => rfl); (case hr => first | (go_simp; done) | (go_simp; rfl)); (case hp => exact (Reps.one (show Kd.M (Kd.int .i64) _ _ _ 0 [.int .i64 0] from rfl) (Reps.one (show Kd.M (Kd.int .i64) _ _ _ 1 [.int .i64 1] from rfl) (Reps.one (show Kd.M (Kd.int .i64) _ _ _ 2 [.int .i64 2] from rfl) (Reps.one (show Kd.M (Kd.int .i64) _ _ _ 4 [.int .i64 4] from rfl) (Reps.one (show Kd.M (Kd.int .i64) _ _ _ 8 [.int .i64 8] from rfl) (Reps.one (show Kd.M (Kd.int .i64) _ _ _ 9 [.int .i64 9] from rfl) (Reps.one (show Kd.M (Kd.int .i64) _ _ _ 12 [.int .i64 12] from rfl) (Reps.one (show Kd.M (Kd.int .i64) _ _ _ 20 [.int .i64 20] from rfl) (Reps.one (show Kd.M (Kd.int .i64) _ _ _ 23 [.int .i64 23] from rfl) (Reps.none _ _))))))))))); intro v201 w36 ho37 hb hg_ hnew_; clear hg_ hnew_; (first | rw [← Ny200.out] at ho37 | (simp only [Int.reduceToNat] at ho37; rw [← Ny200.out] at ho37)); have n0_ := Aside0.mk (Kd.R_lower ho37 (keep_size (w := w) (g := g) (row := none) (zB4_7))); have n1_ := Aside0.mk (zb4 BK185.out hb); have n2_ := Aside0.mk (zb4 BK192.out hb); have n3_ := Aside0.mk (IsS90.below (zB4_6) hb); have n4_ := Aside0.mk (KeepBut.trans (zB4_7) (KeepBut.of_below hb g none) (.inl rfl)); have n5_ := Aside0.mk (below_step (zB4_8) hb); clear BK185; clear BK192; clear HI0; clear HK; clear HB; have HO202 := n0_; have BK185 := n1_; have BK192 := n2_; have HI0 := n3_; have HK := n4_; have HB := n5_; clear n0_ n1_ n2_ n3_ n4_ n5_; clear hb ho37; obtain ⟨Ao38, co38, eo38⟩ := Kd.R_slice HO202.out; subst eo38) | ((with_reducible refine gate_callee (f := 81) rfl ?_); refine goesL_ (some 35) rfl rfl Try.func81 (by kernel_rfl) rfl #[.pointer (some ⟨g, 0, none⟩), .slice Ao38 y200.length co38] rfl zT4 ?_; (with_reducible refine (spec_l1PickInt.calls g s0_0 x1001_20 x1002_20 _ _ y200 t203 t204 t205 w0 _ ?side1 ?side2 ?side3 ?side4 ?side5 A35.out).mono ?_); (case side1 => exact zB4_6); (case side2 => exact zB4_8); (case side3 => exact zC4 (Kd.R_reads' HO202.out).2.2); (case side4 => exact (Kd.R_reads' HO202.out).2.1); (case side5 => exact far_slice (IsS90.own_ne HI0.out HO202.out (by decide))); rintro e w39 ⟨rfl, hi, hb, hk⟩; refine ⟨_, rfl, ?_⟩; have n0_ := Aside0.mk (zh4 hk BK185.out NB185_0.out); have n1_ := Aside0.mk (zh4 hk BK192.out NB192_0.out); have n2_ := Aside0.mk (Kd.R_mono (Kd.R_keep (IsS90.apart (show IsS90 w0 _ g s0_0 x1001_20 x1002_20 from zB4_6) (zR4 HO202.out) (by decide)) hk (fun _ h => h.2)) (fun _ h => h.1)); have n3_ := Aside0.mk (KeepBut.trans (zB4_7) hk (.inl rfl)); have n4_ := Aside0.mk (hb); have n5_ := Aside0.mk (hi); clear BK185; clear BK192; clear HO202; clear HK; clear HB; clear HI0; have BK185 := n0_; have BK192 := n1_; have HO202 := n2_; have HK := n3_; have HB := n4_; have HI0 := n5_; clear n0_ n1_ n2_ n3_ n4_ n5_; (try clear hb); (try clear hb2); (try clear hk); (try clear hi); have hnb40 := NB192_185.out; have hnc40 := NB185_192.out; have hnb41 := NB192_0.out; have hnc41 := NB0_192.out; obtain ⟨hcz42_0, hcz42_1, hcz42_2, hcz42_3, hcz42_4, hfz42_0, hfz42_1, hfz42_2, hfz42_3, hfz42_4⟩ := zc4_5 (w := w39) BK192.out; have hnb43 := NB185_0.out; have hnc43 := NB0_185.out; obtain ⟨hcz44_0, hcz44_1, hcz44_2, hcz44_3, hcz44_4, hfz44_0, hfz44_1, hfz44_2, hfz44_3, hfz44_4⟩ := zc4_5 (w := w39) BK185.out))
      refine bodyPost_ret (results_cell_row rfl _ _ gb185 66 #[.int .i64 t189, .int .i64 x193001_3, .int .i64 x193002_20, .int .i64 0, .int .i64 t203] (0, 0) _ rfl (by refine zP4 ?_; refine blk_put (cs := #[.int .i64 t189, .int .i64 x193001_3, .int .i64 x193002_20, .int .i64 0, .int .i64 0]) ?_ 4 _ rfl; refine zP4 ?_; refine blk_put (cs := #[.int .i64 t189, .int .i64 x193001_3, .int .i64 x193002_20, .int .i64 0, .int .i64 0]) ?_ 3 _ rfl; refine zP4 ?_; refine blk_put (cs := #[.int .i64 t189, .int .i64 x193001_3, .int .i64 0, .int .i64 0, .int .i64 0]) ?_ 2 _ rfl; refine zP4 ?_; refine blk_put (cs := #[.int .i64 t189, .int .i64 0, .int .i64 0, .int .i64 0, .int .i64 0]) ?_ 1 _ rfl; refine zP4 ?_; refine blk_put (cs := #[.int .i64 0, .int .i64 0, .int .i64 0, .int .i64 0, .int .i64 0]) ?_ 0 _ rfl; refine zP4 ?_; refine blk_far ?_ NB185_192.out _; refine zP4 ?_; exact BK185.out) Try.underlying66 rfl (by kernel_rfl)) rfl ?_
      exact ⟨zE4, zB4_6, zB4_8, zB4_7⟩
     rw [if_neg c28] at H
     have c28b0 : ((Go.bits .and .i64 t193 4) == 0) = false := beq_eq_false_iff_ne.mpr c28
     have c28b1 : ((Go.bits .and .i64 t193 4) != 0) = true := bne_iff_ne.mpr c28
     replace H := Option.bind_eq_some_iff.mp H
     obtain ⟨⟨t206, t207, t208⟩, A450, H⟩ := H
     replace H : (if (Go.bits .and .i64 t193 8) = 0 then (some (t189, x193001_3, x193002_20, t206, 0, t207, t208)) else ((spec_l1PickInt.f s0_0 t207 t208 (([0, 1, 2, 4, 8, 9, 12, 20, 23] : List Int))).bind fun bt212 => (some (t189, x193001_3, x193002_20, t206, bt212.1, bt212.2.1, bt212.2.2)))) = some (r1, r2, r3, r4, r5, r6, r7) := H
     have A45 := Aside0.mk A450
     clear A450
     by_cases c46 : (Go.bits .and .i64 t193 8) = 0
     ·rw [if_pos c46] at H
      have c46b0 : ((Go.bits .and .i64 t193 8) == 0) = true := beq_iff_eq.mpr c46
      have c46b1 : ((Go.bits .and .i64 t193 8) != 0) = false := bne_eq_false_iff_eq.mpr c46
      clear c46
      simp only [Option.some.injEq, Prod.mk.injEq] at H
      obtain ⟨rfl, rfl, rfl, rfl, rfl, rfl, rfl⟩ := H
      go_wp2_with (first | ((with_reducible refine gate_callee (f := 52) rfl ?_); refine goesL_ (some 28) rfl rfl Try.func52 (by kernel_rfl) rfl #[.pointer (some ⟨g, 0, none⟩), .int .i64 4] rfl zT4 ?_; (with_reducible refine (spec_l1Below.calls g s0_0 x1001_20 x1002_20 4 t206 t207 t208 w0 _ ?side1 ?side2 A45.out).mono ?_); (case side1 => exact zB4_6); (case side2 => exact zB4_8); rintro e w47 ⟨rfl, hi, hb, hk⟩; refine ⟨_, rfl, ?_⟩; have n0_ := Aside0.mk (zh4 hk BK185.out NB185_0.out); have n1_ := Aside0.mk (zh4 hk BK192.out NB192_0.out); have n2_ := Aside0.mk (KeepBut.trans (zB4_7) hk (.inl rfl)); have n3_ := Aside0.mk (hb); have n4_ := Aside0.mk (hi); clear BK185; clear BK192; clear HK; clear HB; clear HI0; have BK185 := n0_; have BK192 := n1_; have HK := n2_; have HB := n3_; have HI0 := n4_; clear n0_ n1_ n2_ n3_ n4_; (try clear hb); (try clear hb2); (try clear hk); (try clear hi); have hnb48 := NB192_185.out; have hnc48 := NB185_192.out; have hnb49 := NB192_0.out; have hnc49 := NB0_192.out; obtain ⟨hcz50_0, hcz50_1, hcz50_2, hcz50_3, hcz50_4, hfz50_0, hfz50_1, hfz50_2, hfz50_3, hfz50_4⟩ := zc4_5 (w := w47) BK192.out; have hnb51 := NB185_0.out; have hnc51 := NB0_185.out; obtain ⟨hcz52_0, hcz52_1, hcz52_2, hcz52_3, hcz52_4, hfz52_0, hfz52_1, hfz52_2, hfz52_3, hfz52_4⟩ := zc4_5 (w := w47) BK185.out))
      refine bodyPost_ret (results_cell_row rfl _ _ gb185 66 #[.int .i64 t189, .int .i64 x193001_3, .int .i64 x193002_20, .int .i64 t206, .int .i64 0] (0, 0) _ rfl (by refine zP4 ?_; refine blk_put (cs := #[.int .i64 t189, .int .i64 x193001_3, .int .i64 x193002_20, .int .i64 t206, .int .i64 0]) ?_ 4 _ rfl; refine zP4 ?_; refine blk_put (cs := #[.int .i64 t189, .int .i64 x193001_3, .int .i64 x193002_20, .int .i64 0, .int .i64 0]) ?_ 3 _ rfl; refine zP4 ?_; refine blk_put (cs := #[.int .i64 t189, .int .i64 x193001_3, .int .i64 0, .int .i64 0, .int .i64 0]) ?_ 2 _ rfl; refine zP4 ?_; refine blk_put (cs := #[.int .i64 t189, .int .i64 0, .int .i64 0, .int .i64 0, .int .i64 0]) ?_ 1 _ rfl; refine zP4 ?_; refine blk_put (cs := #[.int .i64 0, .int .i64 0, .int .i64 0, .int .i64 0, .int .i64 0]) ?_ 0 _ rfl; refine zP4 ?_; refine blk_far ?_ NB185_192.out _; refine zP4 ?_; exact BK185.out) Try.underlying66 rfl (by kernel_rfl)) rfl ?_
      exact ⟨zE4, zB4_6, zB4_8, zB4_7⟩
     rw [if_neg c46] at H
     have c46b0 : ((Go.bits .and .i64 t193 8) == 0) = false := beq_eq_false_iff_ne.mpr c46
     have c46b1 : ((Go.bits .and .i64 t193 8) != 0) = true := bne_iff_ne.mpr c46
     obtain ⟨y209, hy209⟩ : ∃ y_ : List Int, y_ = (([0, 1, 2, 4, 8, 9, 12, 20, 23] : List Int)) := ⟨_, rfl⟩
     replace H : ((spec_l1PickInt.f s0_0 t207 t208 y209).bind fun bt212 => (some (t189, x193001_3, x193002_20, t206, bt212.1, bt212.2.1, bt212.2.2))) = some (r1, r2, r3, r4, r5, r6, r7) := by first | (rw [hy209]; with_reducible exact H) | (have H2_ := (Option.bind_some _ _).symm.trans H; rw [hy209]; with_reducible exact H2_) | (have H2_ := (Option.bind_some _ _).symm.trans H; with_reducible exact H2_) | with_reducible exact H | (rw [hy209]; exact H) | exact H
     have Ny209 := Aside0.mk hy209
     clear hy209
     replace H := Option.bind_eq_some_iff.mp H
     obtain ⟨⟨t212, t213, t214⟩, A530, H⟩ := H
     replace H : (some (t189, x193001_3, x193002_20, t206, t212, t213, t214)) = some (r1, r2, r3, r4, r5, r6, r7) := H
     have A53 := Aside0.mk A530
     clear A530
     simp only [Option.some.injEq, Prod.mk.injEq] at H
     obtain ⟨rfl, rfl, rfl, rfl, rfl, rfl, rfl⟩ := H
     go_wp2_with (first | ((with_reducible refine gate_callee (f := 52) rfl ?_); refine goesL_ (some 28) rfl rfl Try.func52 (by kernel_rfl) rfl #[.pointer (some ⟨g, 0, none⟩), .int .i64 4] rfl zT4 ?_; (with_reducible refine (spec_l1Below.calls g s0_0 x1001_20 x1002_20 4 t206 t207 t208 w0 _ ?side1 ?side2 A45.out).mono ?_); (case side1 => exact zB4_6); (case side2 => exact zB4_8); rintro e w54 ⟨rfl, hi, hb, hk⟩; refine ⟨_, rfl, ?_⟩; have n0_ := Aside0.mk (zh4 hk BK185.out NB185_0.out); have n1_ := Aside0.mk (zh4 hk BK192.out NB192_0.out); have n2_ := Aside0.mk (KeepBut.trans (zB4_7) hk (.inl rfl)); have n3_ := Aside0.mk (hb); have n4_ := Aside0.mk (hi); clear BK185; clear BK192; clear HK; clear HB; clear HI0; have BK185 := n0_; have BK192 := n1_; have HK := n2_; have HB := n3_; have HI0 := n4_; clear n0_ n1_ n2_ n3_ n4_; (try clear hb); (try clear hb2); (try clear hk); (try clear hi); have hnb55 := NB192_185.out; have hnc55 := NB185_192.out; have hnb56 := NB192_0.out; have hnc56 := NB0_192.out; obtain ⟨hcz57_0, hcz57_1, hcz57_2, hcz57_3, hcz57_4, hfz57_0, hfz57_1, hfz57_2, hfz57_3, hfz57_4⟩ := zc4_5 (w := w54) BK192.out) | ((with_reducible refine gate_dst (N := 34) rfl ?_); refine Kd.R_lit (Kd.int .i64) _ 3 ?hg (N := 34) ?hd (xs := ([0, 1, 2, 4, 8, 9, 12, 20, 23] : List Int)) (inner := [.int .i64 0, .int .i64 1, .int .i64 2, .int .i64 4, .int .i64 8, .int .i64 9, .int .i64 12, .int .i64 20, .int .i64 23]) (ok := fun _ => True) (okp := fun _ => True) ?hr ?hp (fun _ hk => hk) trivial (Below.refl _ _) (Nat.le_refl _) (by simp) ?_; (case hd => rfl); (case hg => rfl); (case hr => first | (go_simp; done) | (go_simp; rfl)); (case hp => exact (Reps.one (show Kd.M (Kd.int .i64) _ _ _ 0 [.int .i64 0] from rfl) (Reps.one (show Kd.M (Kd.int .i64) _ _ _ 1 [.int .i64 1] from rfl) (Reps.one (show Kd.M (Kd.int .i64) _ _ _ 2 [.int .i64 2] from rfl) (Reps.one (show Kd.M (Kd.int .i64) _ _ _ 4 [.int .i64 4] from rfl) (Reps.one (show Kd.M (Kd.int .i64) _ _ _ 8 [.int .i64 8] from rfl) (Reps.one (show Kd.M (Kd.int .i64) _ _ _ 9 [.int .i64 9] from rfl) (Reps.one (show Kd.M (Kd.int .i64) _ _ _ 12 [.int .i64 12] from rfl) (Reps.one (show Kd.M (Kd.int .i64) _ _ _ 20 [.int .i64 20] from rfl) (Reps.one (show Kd.M (Kd.int .i64) _ _ _ 23 [.int .i64 23] from rfl) (Reps.none _ _))))))))))); intro v210 w58 ho59 hb hg_ hnew_; clear hg_ hnew_; (first | rw [← Ny209.out] at ho59 | (simp only [Int.reduceToNat] at ho59; rw [← Ny209.out] at ho59)); have n0_ := Aside0.mk (Kd.R_lower ho59 (keep_size (w := w) (g := g) (row := none) (zB4_7))); have n1_ := Aside0.mk (blk_below (g := gb185) (o := .cells #[.int .i64 0, .int .i64 0, .int .i64 0, .int .i64 0, .int .i64 0] 66 (0, 0)) (by refine zP4 ?_; refine blk_far ?_ NB185_192.out _; refine zP4 ?_; exact BK185.out) hb); have n2_ := Aside0.mk (blk_below (g := gb192) (o := .cells #[.int .i64 t189, .int .i64 x193001_3, .int .i64 x193002_20, .int .i64 t206, .int .i64 0] 66 (0, 0)) (by refine zP4 ?_; refine blk_put (cs := #[.int .i64 t189, .int .i64 x193001_3, .int .i64 x193002_20, .int .i64 0, .int .i64 0]) ?_ 3 _ rfl; refine zP4 ?_; exact BK192.out) hb); have n3_ := Aside0.mk (IsS90.below (show IsS90 w0 (w54.setCell ⟨gb192, 3, none⟩ (.int .i64 t206)) g s0_0 t207 t208 from zB4_6) hb); have n4_ := Aside0.mk (KeepBut.trans (zB4_7) (KeepBut.of_below hb g none) (.inl rfl)); have n5_ := Aside0.mk (below_step (zB4_8) hb); clear BK185; clear BK192; clear HI0; clear HK; clear HB; have HO211 := n0_; have BK185 := n1_; have BK192 := n2_; have HI0 := n3_; have HK := n4_; have HB := n5_; clear n0_ n1_ n2_ n3_ n4_ n5_; clear hb ho59; obtain ⟨Ao60, co60, eo60⟩ := Kd.R_slice HO211.out; subst eo60) | ((with_reducible refine gate_callee (f := 81) rfl ?_); refine goesL_ (some 35) rfl rfl Try.func81 (by kernel_rfl) rfl #[.pointer (some ⟨g, 0, none⟩), .slice Ao60 y209.length co60] rfl zT4 ?_; (with_reducible refine (spec_l1PickInt.calls g s0_0 t207 t208 _ _ y209 t212 t213 t214 w0 _ ?side1 ?side2 ?side3 ?side4 ?side5 A53.out).mono ?_); (case side1 => exact zB4_6); (case side2 => exact zB4_8); (case side3 => exact zC4 (Kd.R_reads' HO211.out).2.2); (case side4 => exact (Kd.R_reads' HO211.out).2.1); (case side5 => exact far_slice (IsS90.own_ne HI0.out HO211.out (by decide))); rintro e w61 ⟨rfl, hi, hb, hk⟩; refine ⟨_, rfl, ?_⟩; have n0_ := Aside0.mk (zh4 hk BK185.out NB185_0.out); have n1_ := Aside0.mk (zh4 hk BK192.out NB192_0.out); have n2_ := Aside0.mk (Kd.R_mono (Kd.R_keep (IsS90.apart (show IsS90 w0 _ g s0_0 t207 t208 from zB4_6) (zR4 HO211.out) (by decide)) hk (fun _ h => h.2)) (fun _ h => h.1)); have n3_ := Aside0.mk (KeepBut.trans (zB4_7) hk (.inl rfl)); have n4_ := Aside0.mk (hb); have n5_ := Aside0.mk (hi); clear BK185; clear BK192; clear HO211; clear HK; clear HB; clear HI0; have BK185 := n0_; have BK192 := n1_; have HO211 := n2_; have HK := n3_; have HB := n4_; have HI0 := n5_; clear n0_ n1_ n2_ n3_ n4_ n5_; (try clear hb); (try clear hb2); (try clear hk); (try clear hi); obtain ⟨hcz62_0, hcz62_1, hcz62_2, hcz62_3, hcz62_4, hfz62_0, hfz62_1, hfz62_2, hfz62_3, hfz62_4⟩ := zc4_5 (w := w61) BK192.out; have hnb63 := NB185_0.out; have hnc63 := NB0_185.out; obtain ⟨hcz64_0, hcz64_1, hcz64_2, hcz64_3, hcz64_4, hfz64_0, hfz64_1, hfz64_2, hfz64_3, hfz64_4⟩ := zc4_5 (w := w61) BK185.out))
     refine bodyPost_ret (results_cell_row rfl _ _ gb185 66 #[.int .i64 t189, .int .i64 x193001_3, .int .i64 x193002_20, .int .i64 t206, .int .i64 t212] (0, 0) _ rfl (by refine zP4 ?_; refine blk_put (cs := #[.int .i64 t189, .int .i64 x193001_3, .int .i64 x193002_20, .int .i64 t206, .int .i64 0]) ?_ 4 _ rfl; refine zP4 ?_; refine blk_put (cs := #[.int .i64 t189, .int .i64 x193001_3, .int .i64 x193002_20, .int .i64 0, .int .i64 0]) ?_ 3 _ rfl; refine zP4 ?_; refine blk_put (cs := #[.int .i64 t189, .int .i64 x193001_3, .int .i64 0, .int .i64 0, .int .i64 0]) ?_ 2 _ rfl; refine zP4 ?_; refine blk_put (cs := #[.int .i64 t189, .int .i64 0, .int .i64 0, .int .i64 0, .int .i64 0]) ?_ 1 _ rfl; refine zP4 ?_; refine blk_put (cs := #[.int .i64 0, .int .i64 0, .int .i64 0, .int .i64 0, .int .i64 0]) ?_ 0 _ rfl; refine zP4 ?_; refine blk_far ?_ NB185_192.out _; refine zP4 ?_; exact BK185.out) Try.underlying66 rfl (by kernel_rfl)) rfl ?_
     exact ⟨zE4, zB4_6, zB4_8, zB4_7⟩

/-! ### spec_l9DrawMem: function 80 -/
mutual
def spec_l9DrawMem.l0 : Nat → List Int → Int → List Int → Int → Int → Option (List Int × Int × Int)
 | 0, _, _, _, _, _ => none
 | k + 1, x3, x4, x1000, x1001, x1002 => if x4 < 24 then ((spec_l8DrawIns.f k x1000 x1001 x1002).bind fun bt218 => ((spec_Code.f bt218.1 bt218.2.1 bt218.2.2.1 bt218.2.2.2.1 bt218.2.2.2.2.1).bind fun bt225 => (if x4 > 15 then ((spec_l1PickInt.f x1000 bt218.2.2.2.2.2.1 bt218.2.2.2.2.2.2 (([0, 1, 5, 65535] : List Int))).bind fun bt230 => (if x3.length < 17592186044416 then (spec_l9DrawMem.l0 k (x3 ++ [bt230.1]) (wrap64 (x4 + 1)) x1000 bt230.2.1 bt230.2.2) else (none))) else ((spec_l1Once.f x1000 bt218.2.2.2.2.2.1 bt218.2.2.2.2.2.2 9).bind fun bt236 => (if bt236.1 = true then ((spec_l1PickInt.f x1000 bt236.2.1 bt236.2.2 (([0, 1, 5, 65535] : List Int))).bind fun bt242 => (if x3.length < 17592186044416 then (spec_l9DrawMem.l0 k (x3 ++ [bt242.1]) (wrap64 (x4 + 1)) x1000 bt242.2.1 bt242.2.2) else (none))) else (if x3.length < 17592186044416 then (spec_l9DrawMem.l0 k (x3 ++ [bt225.1]) (wrap64 (x4 + 1)) x1000 bt236.2.1 bt236.2.2) else (none))))))) else ((spec_l1Below.f x1000 x1001 x1002 4).bind fun bt251 => (if bt251.1 = 0 then (spec_l9DrawMem.l1 k x3 (([(⟨1, 1, 0, 0, 1⟩ : S66), (⟨6, 2, 0, 1, 20⟩ : S66), (⟨10, 3, 2, 1, 0⟩ : S66), (⟨8, 0, 0, 0, 1⟩ : S66)] : List (S66))) 0 x1000 bt251.2.1 bt251.2.2) else (if bt251.1 = 1 then (spec_l9DrawMem.l2 k x3 (([(⟨4, 1, 0, 0, 8⟩ : S66), (⟨3, 1, 1, 0, 1⟩ : S66), (⟨5, 0, 0, 1, 8⟩ : S66), (⟨8, 0, 0, 0, 8⟩ : S66)] : List (S66))) 0 x1000 bt251.2.1 bt251.2.2) else (some (x3, bt251.2.1, bt251.2.2)))))
def spec_l9DrawMem.l1 : Nat → List Int → List (S66) → Int → List Int → Int → Int → Option (List Int × Int × Int)
 | 0, _, _, _, _, _, _ => none
 | k + 1, x3, x7, x8, x1000, x1001, x1002 => if x8 < (x7.length : Int) then (if 0 ≤ x8 then ((spec_Code.f ((rd_T66 x7 x8).f0) ((rd_T66 x7 x8).f1) ((rd_T66 x7 x8).f2) ((rd_T66 x7 x8).f3) ((rd_T66 x7 x8).f4)).bind fun bt258 => (if x8 < (x3.length : Int) then (spec_l9DrawMem.l1 k (x3.set (x8 : Int).toNat bt258.1) x7 (wrap64 (x8 + 1)) x1000 x1001 x1002) else (none))) else (none)) else (some (x3, x1001, x1002))
def spec_l9DrawMem.l2 : Nat → List Int → List (S66) → Int → List Int → Int → Int → Option (List Int × Int × Int)
 | 0, _, _, _, _, _, _ => none
 | k + 1, x3, x9, x10, x1000, x1001, x1002 => if x10 < (x9.length : Int) then (if 0 ≤ x10 then ((spec_Code.f ((rd_T66 x9 x10).f0) ((rd_T66 x9 x10).f1) ((rd_T66 x9 x10).f2) ((rd_T66 x9 x10).f3) ((rd_T66 x9 x10).f4)).bind fun bt265 => (if x10 < (x3.length : Int) then (spec_l9DrawMem.l2 k (x3.set (x10 : Int).toNat bt265.1) x9 (wrap64 (x10 + 1)) x1000 x1001 x1002) else (none))) else (none)) else (some (x3, x1001, x1002))
end
def spec_l9DrawMem.f (k : Nat) (s0_0 : List Int) (s0_1 : Int) (s0_2 : Int) : Option (List Int × Int × Int) := spec_l9DrawMem.l0 k (([] : List Int)) 0 s0_0 s0_1 s0_2
theorem spec_l9DrawMem.mono_l : ∀ k, (∀ y0 y1 y2 y3 y4, LeO (spec_l9DrawMem.l0 k y0 y1 y2 y3 y4) (spec_l9DrawMem.l0 (k + 1) y0 y1 y2 y3 y4)) ∧ (∀ y0 y1 y2 y3 y4 y5, LeO (spec_l9DrawMem.l1 k y0 y1 y2 y3 y4 y5) (spec_l9DrawMem.l1 (k + 1) y0 y1 y2 y3 y4 y5)) ∧ (∀ y0 y1 y2 y3 y4 y5, LeO (spec_l9DrawMem.l2 k y0 y1 y2 y3 y4 y5) (spec_l9DrawMem.l2 (k + 1) y0 y1 y2 y3 y4 y5))
 | 0 => ⟨fun _ _ _ _ _ r h => by simp [spec_l9DrawMem.l0] at h, fun _ _ _ _ _ _ r h => by simp [spec_l9DrawMem.l1] at h, fun _ _ _ _ _ _ r h => by simp [spec_l9DrawMem.l2] at h⟩
 | k + 1 => by
  obtain ⟨ih0, ih1, ih2⟩ := spec_l9DrawMem.mono_l k
  refine ⟨?_, ?_, ?_⟩
  ·intro y0 y1 y2 y3 y4
   unfold spec_l9DrawMem.l0
   repeat' first
   | (with_reducible exact ih0 _ _ _ _ _)
   | (with_reducible exact ih1 _ _ _ _ _ _)
   | (with_reducible exact ih2 _ _ _ _ _ _)
   | (with_reducible exact spec_l8DrawIns.mono _ _ _ _)
   | (with_reducible exact LeO.refl _)
   | (with_reducible exact LeO.none _)
   | (with_reducible refine LeO.ite ?_ ?_)
   | (with_reducible refine LeO.bind ?_ (fun _ => ?_))
   | exact ih0 _ _ _ _ _
   | exact ih1 _ _ _ _ _ _
   | exact ih2 _ _ _ _ _ _
   | exact spec_l8DrawIns.mono _ _ _ _
   | exact LeO.none _
   | refine LeO.ite ?_ ?_
   | refine LeO.bind ?_ (fun _ => ?_)
  ·intro y0 y1 y2 y3 y4 y5
   unfold spec_l9DrawMem.l1
   repeat' first
   | (with_reducible exact ih0 _ _ _ _ _)
   | (with_reducible exact ih1 _ _ _ _ _ _)
   | (with_reducible exact ih2 _ _ _ _ _ _)
   | (with_reducible exact spec_l8DrawIns.mono _ _ _ _)
   | (with_reducible exact LeO.refl _)
   | (with_reducible exact LeO.none _)
   | (with_reducible refine LeO.ite ?_ ?_)
   | (with_reducible refine LeO.bind ?_ (fun _ => ?_))
   | exact ih0 _ _ _ _ _
   | exact ih1 _ _ _ _ _ _
   | exact ih2 _ _ _ _ _ _
   | exact spec_l8DrawIns.mono _ _ _ _
   | exact LeO.none _
   | refine LeO.ite ?_ ?_
   | refine LeO.bind ?_ (fun _ => ?_)
  ·intro y0 y1 y2 y3 y4 y5
   unfold spec_l9DrawMem.l2
   repeat' first
   | (with_reducible exact ih0 _ _ _ _ _)
   | (with_reducible exact ih1 _ _ _ _ _ _)
   | (with_reducible exact ih2 _ _ _ _ _ _)
   | (with_reducible exact spec_l8DrawIns.mono _ _ _ _)
   | (with_reducible exact LeO.refl _)
   | (with_reducible exact LeO.none _)
   | (with_reducible refine LeO.ite ?_ ?_)
   | (with_reducible refine LeO.bind ?_ (fun _ => ?_))
   | exact ih0 _ _ _ _ _
   | exact ih1 _ _ _ _ _ _
   | exact ih2 _ _ _ _ _ _
   | exact spec_l8DrawIns.mono _ _ _ _
   | exact LeO.none _
   | refine LeO.ite ?_ ?_
   | refine LeO.bind ?_ (fun _ => ?_)
theorem spec_l9DrawMem.mono : ∀ a0 a1 a2 k, LeO (spec_l9DrawMem.f k a0 a1 a2) (spec_l9DrawMem.f (k + 1) a0 a1 a2) := by
 intro a0 a1 a2 k
 obtain ⟨ih0, ih1, ih2⟩ := spec_l9DrawMem.mono_l k
 unfold spec_l9DrawMem.f
 repeat' first
   | (with_reducible exact ih0 _ _ _ _ _)
   | (with_reducible exact ih1 _ _ _ _ _ _)
   | (with_reducible exact ih2 _ _ _ _ _ _)
   | (with_reducible exact spec_l8DrawIns.mono _ _ _ _)
   | (with_reducible exact LeO.refl _)
   | (with_reducible exact LeO.none _)
   | (with_reducible refine LeO.ite ?_ ?_)
   | (with_reducible refine LeO.bind ?_ (fun _ => ?_))
   | exact ih0 _ _ _ _ _
   | exact ih1 _ _ _ _ _ _
   | exact ih2 _ _ _ _ _ _
   | exact spec_l8DrawIns.mono _ _ _ _
   | exact LeO.none _
   | refine LeO.ite ?_ ?_
   | refine LeO.bind ?_ (fun _ => ?_)
set_option maxHeartbeats 8000000 in
set_option maxRecDepth 100000 in
theorem spec_l9DrawMem.calls (k : Nat) (g : Nat) (s0_0 : List Int) (s0_1 : Int) (s0_2 : Int) (r1 : List Int) (r2 : Int) (r3 : Int) (w0 w : World) (hI : IsS90 w0 w g s0_0 s0_1 s0_2) (hB : Below w0.heap.size w0 w) (h : spec_l9DrawMem.f k s0_0 s0_1 s0_2 = some (r1, r2, r3)) :
  Calls Try.prog 80 #[.pointer (some ⟨g, 0, none⟩)] w fun e w' => ∃ v0_ : Value, e = .returned (v0_) ∧ Kd.R (Kd.int .i64) 3 w' w.heap.size (fun _ => True) v0_ r1 ∧ IsS90 w0 w' g s0_0 r2 r3 ∧ Below w0.heap.size w0 w' ∧ KeepBut w w' g none := by
 have hu66 := Try.underlying66
 have HI0 := Aside0.mk hI
 have HK := Aside0.mk (KeepBut.refl w g none)
 have HL := Aside0.mk hB.size
 clear hI
 have HW0 := Aside0.mk hB.size
 have HB := Aside0.mk hB
 clear hB
 have H : (spec_l9DrawMem.l0 k (([] : List Int)) 0 s0_0 s0_1 s0_2) = some (r1, r2, r3) := h
 clear h
 obtain ⟨y215, hy215⟩ : ∃ y_ : List Int, y_ = (([] : List Int)) := ⟨_, rfl⟩
 replace H : (spec_l9DrawMem.l0 k y215 0 s0_0 s0_1 s0_2) = some (r1, r2, r3) := by first | (rw [hy215]; with_reducible exact H) | (have H2_ := (Option.bind_some _ _).symm.trans H; rw [hy215]; with_reducible exact H2_) | (have H2_ := (Option.bind_some _ _).symm.trans H; with_reducible exact H2_) | with_reducible exact H | (rw [hy215]; exact H) | exact H
 have Ny215 := Aside0.mk hy215
 clear hy215
 have H' := Aside0.mk H
 clear H
 go_enter Try.func80, Try.ntmps80
 go_wp2_with (first | ((with_reducible refine gate_dst (N := 11) rfl ?_); refine Kd.R_lit (Kd.int .i64) _ 3 ?hg (N := 11) ?hd (xs := ([] : List Int)) (inner := []) (ok := fun _ => True) (okp := fun _ => True) ?hr ?hp (fun _ hk => hk) trivial (Below.refl _ _) (Nat.le_refl _) (by simp) ?_; (case hd => rfl); (case hg => rfl); (case hr => first | (go_simp; done) | (go_simp; rfl)); (case hp => exact (Reps.none _ _)); intro v216 w2 ho3 hb hg_ hnew_; clear hg_ hnew_; (first | rw [← Ny215.out] at ho3 | (simp only [Int.reduceToNat] at ho3; rw [← Ny215.out] at ho3)); have n0_ := Aside0.mk (Kd.R_lower ho3 (keep_size (w := w) (g := g) (row := none) (zB4_1))); have n1_ := Aside0.mk (IsS90.below (zB4_0) hb); have n2_ := Aside0.mk (KeepBut.trans (zB4_1) (KeepBut.of_below hb g none) (.inl rfl)); have n3_ := Aside0.mk (below_step (zB4_2) hb); clear HI0; clear HK; clear HB; have HO217 := n0_; have HI0 := n1_; have HK := n2_; have HB := n3_; clear n0_ n1_ n2_ n3_; clear hb ho3))
 go_loopg [3, 4] k (fun kq v3 v4 w' => ∃ (x3_1 : List Int) (x4_1 : Int) (x1001_1 : Int) (x1002_1 : Int), v4 = .int .i64 x4_1 ∧ Aside0 (spec_l9DrawMem.l0 kq x3_1 x4_1 s0_0 x1001_1 x1002_1 = some (r1, r2, r3)) ∧ Aside0 (kq ≤ k) ∧ Aside0 (Kd.R (Kd.int .i64) 3 w' w.heap.size (fun _ => True) v3 x3_1) ∧ Aside0 (IsS90 w0 w' g s0_0 x1001_1 x1002_1) ∧ Aside0 (KeepBut w w' g none) ∧ Aside0 (Below w0.heap.size w0 w'))
 case atStart => exact ⟨(y215), (0), (s0_1), (s0_2), (by first | rfl | (simp; done) | (simp [*]; done)), H', ⟨Nat.le_refl _⟩, ⟨zR4 HO217.out⟩, ⟨zB4_0⟩, ⟨zB4_1⟩, ⟨zB4_2⟩⟩
 case round =>
  clear H'
  try clear p2
  obtain ⟨x3_1, x4_1, x1001_1, x1002_1, rfl, HA, HK1, HO_3, HI0, HK, HB⟩ := hrel
  cases gk with
  | zero => exact absurd HA.out (by simp [spec_l9DrawMem.l0])
  | succ k1 =>
   have H := HA.out
   clear HA
   simp only [spec_l9DrawMem.l0] at H
   by_cases c4 : x4_1 < 24
   ·rw [if_pos c4] at H
    have c4b0 : decide (x4_1 < 24) = true := decide_eq_true c4
    clear c4
    replace H := Option.bind_eq_some_iff.mp H
    obtain ⟨⟨t218, t219, t220, t221, t222, t223, t224⟩, A50, H⟩ := H
    replace H : ((spec_Code.f t218 t219 t220 t221 t222).bind fun bt225 => (if x4_1 > 15 then ((spec_l1PickInt.f s0_0 t223 t224 (([0, 1, 5, 65535] : List Int))).bind fun bt230 => (if x3_1.length < 17592186044416 then (spec_l9DrawMem.l0 k1 (x3_1 ++ [bt230.1]) (wrap64 (x4_1 + 1)) s0_0 bt230.2.1 bt230.2.2) else (none))) else ((spec_l1Once.f s0_0 t223 t224 9).bind fun bt236 => (if bt236.1 = true then ((spec_l1PickInt.f s0_0 bt236.2.1 bt236.2.2 (([0, 1, 5, 65535] : List Int))).bind fun bt242 => (if x3_1.length < 17592186044416 then (spec_l9DrawMem.l0 k1 (x3_1 ++ [bt242.1]) (wrap64 (x4_1 + 1)) s0_0 bt242.2.1 bt242.2.2) else (none))) else (if x3_1.length < 17592186044416 then (spec_l9DrawMem.l0 k1 (x3_1 ++ [bt225.1]) (wrap64 (x4_1 + 1)) s0_0 bt236.2.1 bt236.2.2) else (none)))))) = some (r1, r2, r3) := H
    have A5 := Aside0.mk A50
    clear A50
    replace H := Option.bind_eq_some_iff.mp H
    obtain ⟨⟨t225, t226⟩, A60, H⟩ := H
    replace H : (if x4_1 > 15 then ((spec_l1PickInt.f s0_0 t223 t224 (([0, 1, 5, 65535] : List Int))).bind fun bt230 => (if x3_1.length < 17592186044416 then (spec_l9DrawMem.l0 k1 (x3_1 ++ [bt230.1]) (wrap64 (x4_1 + 1)) s0_0 bt230.2.1 bt230.2.2) else (none))) else ((spec_l1Once.f s0_0 t223 t224 9).bind fun bt236 => (if bt236.1 = true then ((spec_l1PickInt.f s0_0 bt236.2.1 bt236.2.2 (([0, 1, 5, 65535] : List Int))).bind fun bt242 => (if x3_1.length < 17592186044416 then (spec_l9DrawMem.l0 k1 (x3_1 ++ [bt242.1]) (wrap64 (x4_1 + 1)) s0_0 bt242.2.1 bt242.2.2) else (none))) else (if x3_1.length < 17592186044416 then (spec_l9DrawMem.l0 k1 (x3_1 ++ [t225]) (wrap64 (x4_1 + 1)) s0_0 bt236.2.1 bt236.2.2) else (none))))) = some (r1, r2, r3) := H
    have A6 := Aside0.mk A60
    clear A60
    by_cases c7 : x4_1 > 15
    ·rw [if_pos c7] at H
     have c7b0 : decide (15 < x4_1) = true := decide_eq_true c7
     clear c7
     obtain ⟨y227, hy227⟩ : ∃ y_ : List Int, y_ = (([0, 1, 5, 65535] : List Int)) := ⟨_, rfl⟩
     replace H : ((spec_l1PickInt.f s0_0 t223 t224 y227).bind fun bt230 => (if x3_1.length < 17592186044416 then (spec_l9DrawMem.l0 k1 (x3_1 ++ [bt230.1]) (wrap64 (x4_1 + 1)) s0_0 bt230.2.1 bt230.2.2) else (none))) = some (r1, r2, r3) := by first | (rw [hy227]; with_reducible exact H) | (have H2_ := (Option.bind_some _ _).symm.trans H; rw [hy227]; with_reducible exact H2_) | (have H2_ := (Option.bind_some _ _).symm.trans H; with_reducible exact H2_) | with_reducible exact H | (rw [hy227]; exact H) | exact H
     have Ny227 := Aside0.mk hy227
     clear hy227
     replace H := Option.bind_eq_some_iff.mp H
     obtain ⟨⟨t230, t231, t232⟩, A80, H⟩ := H
     replace H : (if x3_1.length < 17592186044416 then (spec_l9DrawMem.l0 k1 (x3_1 ++ [t230]) (wrap64 (x4_1 + 1)) s0_0 t231 t232) else (none)) = some (r1, r2, r3) := H
     have A8 := Aside0.mk A80
     clear A80
     by_cases c9 : x3_1.length < 17592186044416
     rotate_left
     ·rw [if_neg c9] at H
      exact absurd H (by simp)
     rw [if_pos c9] at H
     have LMc9 := Aside0.mk c9
     clear c9
     obtain ⟨y233, hy233⟩ : ∃ y_ : List Int, y_ = (x3_1 ++ [t230]) := ⟨_, rfl⟩
     replace H : (spec_l9DrawMem.l0 k1 y233 (wrap64 (x4_1 + 1)) s0_0 t231 t232) = some (r1, r2, r3) := by first | (rw [hy233]; with_reducible exact H) | (have H2_ := (Option.bind_some _ _).symm.trans H; rw [hy233]; with_reducible exact H2_) | (have H2_ := (Option.bind_some _ _).symm.trans H; with_reducible exact H2_) | with_reducible exact H | (rw [hy233]; exact H) | exact H
     have Ny233 := Aside0.mk hy233
     clear hy233
     have H' := Aside0.mk H
     clear H
     go_wp2_with (first | ((with_reducible refine gate_callee (f := 101) rfl ?_); refine goesL_ (some 18) rfl rfl Try.func101 (by kernel_rfl) rfl #[.pointer (some ⟨g, 0, none⟩)] rfl zT4 ?_; (with_reducible refine (spec_l8DrawIns.calls k1 g s0_0 x1001_1 x1002_1 t218 t219 t220 t221 t222 t223 t224 w0 _ ?side1 ?side2 A5.out).mono ?_); (case side1 => exact zB4_0); (case side2 => exact zB4_2); rintro e w10 ⟨rfl, hi, hb, hk⟩; refine ⟨_, rfl, ?_⟩; have n0_ := Aside0.mk (Kd.R_mono (Kd.R_keep (IsS90.apart (show IsS90 w0 _ g s0_0 x1001_1 x1002_1 from zB4_0) (zR4 HO_3.out) (by decide)) hk (fun _ h => h.2)) (fun _ h => h.1)); have n1_ := Aside0.mk (KeepBut.trans (zB4_1) hk (.inl rfl)); have n2_ := Aside0.mk (hb); have n3_ := Aside0.mk (hi); clear HO_3; clear HK; clear HB; clear HI0; have HO_3 := n0_; have HK := n1_; have HB := n2_; have HI0 := n3_; clear n0_ n1_ n2_ n3_; (try clear hb); (try clear hb2); (try clear hk); (try clear hi)) | ((with_reducible refine gate_callee (f := 100) rfl ?_); refine goesL_ (some 19) rfl rfl Try.func100 (by kernel_rfl) rfl #[.agg #[.int .i64 t218, .int .i64 t219, .int .i64 t220, .int .i64 t221, .int .i64 t222]] rfl zT4 ?_; (with_reducible refine (spec_Code.calls t218 t219 t220 t221 t222 t225 t226 _ A6.out).mono ?_); rintro e w11 ⟨rfl, hb⟩; refine ⟨_, rfl, ?_⟩; have n0_ := Aside0.mk (Kd.R_below (zR4 HO_3.out) hb); have n1_ := Aside0.mk (IsS90.below (zB4_0) hb); have n2_ := Aside0.mk (KeepBut.trans (zB4_1) (KeepBut.of_below hb g none) (.inl rfl)); have n3_ := Aside0.mk (below_step (zB4_2) hb); clear HO_3; clear HI0; clear HK; clear HB; have HO_3 := n0_; have HI0 := n1_; have HK := n2_; have HB := n3_; clear n0_ n1_ n2_ n3_; (try clear hb); (try clear hb2); (try clear hk); (try clear hi)) | ((with_reducible refine gate_dst (N := 29) rfl ?_); refine Kd.R_lit (Kd.int .i64) _ 3 ?hg (N := 29) ?hd (xs := ([0, 1, 5, 65535] : List Int)) (inner := [.int .i64 0, .int .i64 1, .int .i64 5, .int .i64 65535]) (ok := fun _ => True) (okp := fun _ => True) ?hr ?hp (fun _ hk => hk) trivial (Below.refl _ _) (Nat.le_refl _) (by simp) ?_; (case hd => rfl); (case hg => rfl); (case hr => first | (go_simp; done) | (go_simp; rfl)); (case hp => exact (Reps.one (show Kd.M (Kd.int .i64) _ _ _ 0 [.int .i64 0] from rfl) (Reps.one (show Kd.M (Kd.int .i64) _ _ _ 1 [.int .i64 1] from rfl) (Reps.one (show Kd.M (Kd.int .i64) _ _ _ 5 [.int .i64 5] from rfl) (Reps.one (show Kd.M (Kd.int .i64) _ _ _ 65535 [.int .i64 65535] from rfl) (Reps.none _ _)))))); intro v228 w12 ho13 hb hg_ hnew_; clear hg_ hnew_; (first | rw [← Ny227.out] at ho13 | (simp only [Int.reduceToNat] at ho13; rw [← Ny227.out] at ho13)); have n0_ := Aside0.mk (Kd.R_elder' (zR4 HO_3.out) (Kd.R_base ho13) hb); have n1_ := Aside0.mk (Kd.R_lower (Kd.R_new' ho13 (Kd.R_lt (zR4 HO_3.out))) (keep_size (w := w) (g := g) (row := none) (zB4_1))); have n2_ := Aside0.mk (IsS90.below (zB4_0) hb); have n3_ := Aside0.mk (KeepBut.trans (zB4_1) (KeepBut.of_below hb g none) (.inl rfl)); have n4_ := Aside0.mk (below_step (zB4_2) hb); clear HO_3; clear HI0; clear HK; clear HB; have HO_3 := n0_; have HO229 := n1_; have HI0 := n2_; have HK := n3_; have HB := n4_; clear n0_ n1_ n2_ n3_ n4_; clear hb ho13; obtain ⟨Ao14, co14, eo14⟩ := Kd.R_slice HO229.out; subst eo14) | ((with_reducible refine gate_callee (f := 81) rfl ?_); refine goesL_ (some 30) rfl rfl Try.func81 (by kernel_rfl) rfl #[.pointer (some ⟨g, 0, none⟩), .slice Ao14 y227.length co14] rfl zT4 ?_; (with_reducible refine (spec_l1PickInt.calls g s0_0 t223 t224 _ _ y227 t230 t231 t232 w0 _ ?side1 ?side2 ?side3 ?side4 ?side5 A8.out).mono ?_); (case side1 => exact zB4_0); (case side2 => exact zB4_2); (case side3 => exact zC4 (Kd.R_reads' HO229.out).2.2); (case side4 => exact (Kd.R_reads' HO229.out).2.1); (case side5 => exact far_slice (IsS90.own_ne HI0.out HO229.out (by decide))); rintro e w15 ⟨rfl, hi, hb, hk⟩; refine ⟨_, rfl, ?_⟩; have n0_ := Aside0.mk (Kd.R_mono (Kd.R_keep (IsS90.apart (show IsS90 w0 _ g s0_0 t223 t224 from zB4_0) (zR4 HO_3.out) (by decide)) hk (fun _ h => h.2)) (fun _ h => h.1)); have n1_ := Aside0.mk (Kd.R_mono (Kd.R_keep (IsS90.apart (show IsS90 w0 _ g s0_0 t223 t224 from zB4_0) (zR4 HO229.out) (by decide)) hk (fun _ h => h.2)) (fun _ h => h.1)); have n2_ := Aside0.mk (KeepBut.trans (zB4_1) hk (.inl rfl)); have n3_ := Aside0.mk (hb); have n4_ := Aside0.mk (hi); clear HO_3; clear HO229; clear HK; clear HB; clear HI0; have HO_3 := n0_; have HO229 := n1_; have HK := n2_; have HB := n3_; have HI0 := n4_; clear n0_ n1_ n2_ n3_ n4_; (try clear hb); (try clear hb2); (try clear hk); (try clear hi)) | ((with_reducible refine gate_builtin (b := .append) (xs := #[.tmp 31, .tmp 33]) rfl ?_); at_builtin; refine Kd.R_append (Kd.int .i64) w.heap.size rfl (.tmp 31) (.tmp 33) 24 3 (.int .i64 0) 8 rfl Try.underlying24 info3 rfl (by decide) (by omega) u3 x3_1 t230 [.int .i64 t230] (fun k_ => some k_ ≠ (.slice Ao14 y227.length co14 : Value).ownBlock) (fun _ => False) rfl rfl ?aP (fun _ hk => hk.elim) ?aF ?aO (Below.refl _ _) ?aS ?aL ?_; (case aP => exact rfl); (case aF => exact (fun k_ hk => Kd.fresh' (Kd.R_lt (zR4 HO229.out)) k_ hk)); (case aO => exact (by (with_reducible repeat (first | apply Kd.R_alloc | apply Kd.R_drewN | apply Kd.R_drew)); exact Kd.R_mono HO_3.out (fun _ hk => hk.2))); (case aS => exact (keep_size (w := w) (g := g) (row := none) (zB4_1))); (case aL => have := LMc9.out; omega); intro v234 w16 ho hb hg hat; rw [← Ny233.out] at ho; have n0_ := Aside0.mk (IsS90.grown (show IsS90 w0 _ g s0_0 t231 t232 from zB4_0) hg (IsS90.own_ne HI0.out HO_3.out (by decide))); have n1_ := Aside0.mk (Kd.R_after (ok := (fun _ => True)) (zR4 HO229.out) hg hat); have n2_ := Aside0.mk (below_weaken (zB4_2) HL.out hb); have n3_ := Aside0.mk (KeepBut.trans (zB4_1) (KeepBut.of_grown hg g) (Kd.R_base2 HO_3.out)); have n4_ := Aside0.mk (ho); clear HI0; clear HO229; clear HB; clear HK; clear HO_3; have HI0 := n0_; have HO229 := n1_; have HB := n2_; have HK := n3_; have HO235 := n4_; clear n0_ n1_ n2_ n3_ n4_; clear ho hb hg hat))
     go_roundg k1
     case measure => have := HK1.out; omega
     case rel => exact ⟨(y233), (wrap64 (x4_1 + 1)), (t231), (t232), (by first | rfl | (simp; done) | (simp [*]; done)), H', ⟨by have := HK1.out; omega⟩, ⟨by (with_reducible repeat (first | apply Kd.R_alloc | apply Kd.R_drewN | apply Kd.R_drew)); exact Kd.R_mono HO235.out (fun _ hk => trivial)⟩, ⟨zB4_0⟩, ⟨zB4_1⟩, ⟨zB4_2⟩⟩
    rw [if_neg c7] at H
    have c7b0 : decide (15 < x4_1) = false := decide_eq_false c7
    clear c7
    replace H := Option.bind_eq_some_iff.mp H
    obtain ⟨⟨t236, t237, t238⟩, A170, H⟩ := H
    replace H : (if t236 = true then ((spec_l1PickInt.f s0_0 t237 t238 (([0, 1, 5, 65535] : List Int))).bind fun bt242 => (if x3_1.length < 17592186044416 then (spec_l9DrawMem.l0 k1 (x3_1 ++ [bt242.1]) (wrap64 (x4_1 + 1)) s0_0 bt242.2.1 bt242.2.2) else (none))) else (if x3_1.length < 17592186044416 then (spec_l9DrawMem.l0 k1 (x3_1 ++ [t225]) (wrap64 (x4_1 + 1)) s0_0 t237 t238) else (none))) = some (r1, r2, r3) := H
    have A17 := Aside0.mk A170
    clear A170
    by_cases c18 : t236 = true
    rotate_left
    ·replace c18 := Bool.eq_false_iff.mpr c18
     subst c18
     have H1 : (if x3_1.length < 17592186044416 then (spec_l9DrawMem.l0 k1 (x3_1 ++ [t225]) (wrap64 (x4_1 + 1)) s0_0 t237 t238) else (none)) = some (r1, r2, r3) := by rw [if_neg (show ¬ (false = true) by decide)] at H; exact H
     clear H
     have H := H1
     clear H1
     by_cases c29 : x3_1.length < 17592186044416
     rotate_left
     ·rw [if_neg c29] at H
      exact absurd H (by simp)
     rw [if_pos c29] at H
     have LMc29 := Aside0.mk c29
     clear c29
     obtain ⟨y248, hy248⟩ : ∃ y_ : List Int, y_ = (x3_1 ++ [t225]) := ⟨_, rfl⟩
     replace H : (spec_l9DrawMem.l0 k1 y248 (wrap64 (x4_1 + 1)) s0_0 t237 t238) = some (r1, r2, r3) := by first | (rw [hy248]; with_reducible exact H) | (have H2_ := (Option.bind_some _ _).symm.trans H; rw [hy248]; with_reducible exact H2_) | (have H2_ := (Option.bind_some _ _).symm.trans H; with_reducible exact H2_) | with_reducible exact H | (rw [hy248]; exact H) | exact H
     have Ny248 := Aside0.mk hy248
     clear hy248
     have H' := Aside0.mk H
     clear H
     go_wp2_with (first | ((with_reducible refine gate_callee (f := 101) rfl ?_); refine goesL_ (some 18) rfl rfl Try.func101 (by kernel_rfl) rfl #[.pointer (some ⟨g, 0, none⟩)] rfl zT4 ?_; (with_reducible refine (spec_l8DrawIns.calls k1 g s0_0 x1001_1 x1002_1 t218 t219 t220 t221 t222 t223 t224 w0 _ ?side1 ?side2 A5.out).mono ?_); (case side1 => exact zB4_0); (case side2 => exact zB4_2); rintro e w30 ⟨rfl, hi, hb, hk⟩; refine ⟨_, rfl, ?_⟩; have n0_ := Aside0.mk (Kd.R_mono (Kd.R_keep (IsS90.apart (show IsS90 w0 _ g s0_0 x1001_1 x1002_1 from zB4_0) (zR4 HO_3.out) (by decide)) hk (fun _ h => h.2)) (fun _ h => h.1)); have n1_ := Aside0.mk (KeepBut.trans (zB4_1) hk (.inl rfl)); have n2_ := Aside0.mk (hb); have n3_ := Aside0.mk (hi); clear HO_3; clear HK; clear HB; clear HI0; have HO_3 := n0_; have HK := n1_; have HB := n2_; have HI0 := n3_; clear n0_ n1_ n2_ n3_; (try clear hb); (try clear hb2); (try clear hk); (try clear hi)) | ((with_reducible refine gate_callee (f := 100) rfl ?_); refine goesL_ (some 19) rfl rfl Try.func100 (by kernel_rfl) rfl #[.agg #[.int .i64 t218, .int .i64 t219, .int .i64 t220, .int .i64 t221, .int .i64 t222]] rfl zT4 ?_; (with_reducible refine (spec_Code.calls t218 t219 t220 t221 t222 t225 t226 _ A6.out).mono ?_); rintro e w31 ⟨rfl, hb⟩; refine ⟨_, rfl, ?_⟩; have n0_ := Aside0.mk (Kd.R_below (zR4 HO_3.out) hb); have n1_ := Aside0.mk (IsS90.below (zB4_0) hb); have n2_ := Aside0.mk (KeepBut.trans (zB4_1) (KeepBut.of_below hb g none) (.inl rfl)); have n3_ := Aside0.mk (below_step (zB4_2) hb); clear HO_3; clear HI0; clear HK; clear HB; have HO_3 := n0_; have HI0 := n1_; have HK := n2_; have HB := n3_; clear n0_ n1_ n2_ n3_; (try clear hb); (try clear hb2); (try clear hk); (try clear hi)) | (go_at_call 76; (with_reducible refine (spec_l1Once.calls g s0_0 t223 t224 9 false t237 t238 w0 _ ?side1 ?side2 A17.out).mono ?_); (case side1 => exact zB4_0); (case side2 => exact zB4_2); rintro e w32 ⟨rfl, hi, hb, hk⟩; have n0_ := Aside0.mk (Kd.R_mono (Kd.R_keep (IsS90.apart (show IsS90 w0 _ g s0_0 t223 t224 from zB4_0) (zR4 HO_3.out) (by decide)) hk (fun _ h => h.2)) (fun _ h => h.1)); have n1_ := Aside0.mk (KeepBut.trans (zB4_1) hk (.inl rfl)); have n2_ := Aside0.mk (hb); have n3_ := Aside0.mk (hi); clear HO_3; clear HK; clear HB; clear HI0; have HO_3 := n0_; have HK := n1_; have HB := n2_; have HI0 := n3_; clear n0_ n1_ n2_ n3_; (try clear hb); (try clear hb2); (try clear hk); (try clear hi)) | ((with_reducible refine gate_builtin (b := .append) (xs := #[.tmp 31, .tmp 33]) rfl ?_); at_builtin; refine Kd.R_append (Kd.int .i64) w.heap.size rfl (.tmp 31) (.tmp 33) 24 3 (.int .i64 0) 8 rfl Try.underlying24 info3 rfl (by decide) (by omega) u3 x3_1 t225 [.int .i64 t225] (fun _ => True) (fun _ => False) rfl rfl ?aP (fun _ hk => hk.elim) ?aF ?aO (Below.refl _ _) ?aS ?aL ?_; (case aP => exact rfl); (case aF => exact (fun _ _ => trivial)); (case aO => exact (zR4 HO_3.out)); (case aS => exact (keep_size (w := w) (g := g) (row := none) (zB4_1))); (case aL => have := LMc29.out; omega); intro v249 w33 ho hb hg hat; rw [← Ny248.out] at ho; have n0_ := Aside0.mk (IsS90.grown (show IsS90 w0 _ g s0_0 t237 t238 from zB4_0) hg (IsS90.own_ne HI0.out HO_3.out (by decide))); have n1_ := Aside0.mk (below_weaken (zB4_2) HL.out hb); have n2_ := Aside0.mk (KeepBut.trans (zB4_1) (KeepBut.of_grown hg g) (Kd.R_base2 HO_3.out)); have n3_ := Aside0.mk (ho); clear HI0; clear HB; clear HK; clear HO_3; have HI0 := n0_; have HB := n1_; have HK := n2_; have HO250 := n3_; clear n0_ n1_ n2_ n3_; clear ho hb hg hat))
     go_roundg k1
     case measure => have := HK1.out; omega
     case rel => exact ⟨(y248), (wrap64 (x4_1 + 1)), (t237), (t238), (by first | rfl | (simp; done) | (simp [*]; done)), H', ⟨by have := HK1.out; omega⟩, ⟨zR4 HO250.out⟩, ⟨zB4_0⟩, ⟨zB4_1⟩, ⟨zB4_2⟩⟩
    subst c18
    have H1 : ((spec_l1PickInt.f s0_0 t237 t238 (([0, 1, 5, 65535] : List Int))).bind fun bt242 => (if x3_1.length < 17592186044416 then (spec_l9DrawMem.l0 k1 (x3_1 ++ [bt242.1]) (wrap64 (x4_1 + 1)) s0_0 bt242.2.1 bt242.2.2) else (none))) = some (r1, r2, r3) := by rw [if_pos rfl] at H; exact H
    clear H
    have H := H1
    clear H1
    obtain ⟨y239, hy239⟩ : ∃ y_ : List Int, y_ = (([0, 1, 5, 65535] : List Int)) := ⟨_, rfl⟩
    replace H : ((spec_l1PickInt.f s0_0 t237 t238 y239).bind fun bt242 => (if x3_1.length < 17592186044416 then (spec_l9DrawMem.l0 k1 (x3_1 ++ [bt242.1]) (wrap64 (x4_1 + 1)) s0_0 bt242.2.1 bt242.2.2) else (none))) = some (r1, r2, r3) := by first | (rw [hy239]; with_reducible exact H) | (have H2_ := (Option.bind_some _ _).symm.trans H; rw [hy239]; with_reducible exact H2_) | (have H2_ := (Option.bind_some _ _).symm.trans H; with_reducible exact H2_) | with_reducible exact H | (rw [hy239]; exact H) | exact H
    have Ny239 := Aside0.mk hy239
    clear hy239
    replace H := Option.bind_eq_some_iff.mp H
    obtain ⟨⟨t242, t243, t244⟩, A190, H⟩ := H
    replace H : (if x3_1.length < 17592186044416 then (spec_l9DrawMem.l0 k1 (x3_1 ++ [t242]) (wrap64 (x4_1 + 1)) s0_0 t243 t244) else (none)) = some (r1, r2, r3) := H
    have A19 := Aside0.mk A190
    clear A190
    by_cases c20 : x3_1.length < 17592186044416
    rotate_left
    ·rw [if_neg c20] at H
     exact absurd H (by simp)
    rw [if_pos c20] at H
    have LMc20 := Aside0.mk c20
    clear c20
    obtain ⟨y245, hy245⟩ : ∃ y_ : List Int, y_ = (x3_1 ++ [t242]) := ⟨_, rfl⟩
    replace H : (spec_l9DrawMem.l0 k1 y245 (wrap64 (x4_1 + 1)) s0_0 t243 t244) = some (r1, r2, r3) := by first | (rw [hy245]; with_reducible exact H) | (have H2_ := (Option.bind_some _ _).symm.trans H; rw [hy245]; with_reducible exact H2_) | (have H2_ := (Option.bind_some _ _).symm.trans H; with_reducible exact H2_) | with_reducible exact H | (rw [hy245]; exact H) | exact H
    have Ny245 := Aside0.mk hy245
    clear hy245
    have H' := Aside0.mk H
    clear H
    go_wp2_with (first | ((with_reducible refine gate_callee (f := 101) rfl ?_); refine goesL_ (some 18) rfl rfl Try.func101 (by kernel_rfl) rfl #[.pointer (some ⟨g, 0, none⟩)] rfl zT4 ?_; (with_reducible refine (spec_l8DrawIns.calls k1 g s0_0 x1001_1 x1002_1 t218 t219 t220 t221 t222 t223 t224 w0 _ ?side1 ?side2 A5.out).mono ?_); (case side1 => exact zB4_0); (case side2 => exact zB4_2); rintro e w21 ⟨rfl, hi, hb, hk⟩; refine ⟨_, rfl, ?_⟩; have n0_ := Aside0.mk (Kd.R_mono (Kd.R_keep (IsS90.apart (show IsS90 w0 _ g s0_0 x1001_1 x1002_1 from zB4_0) (zR4 HO_3.out) (by decide)) hk (fun _ h => h.2)) (fun _ h => h.1)); have n1_ := Aside0.mk (KeepBut.trans (zB4_1) hk (.inl rfl)); have n2_ := Aside0.mk (hb); have n3_ := Aside0.mk (hi); clear HO_3; clear HK; clear HB; clear HI0; have HO_3 := n0_; have HK := n1_; have HB := n2_; have HI0 := n3_; clear n0_ n1_ n2_ n3_; (try clear hb); (try clear hb2); (try clear hk); (try clear hi)) | ((with_reducible refine gate_callee (f := 100) rfl ?_); refine goesL_ (some 19) rfl rfl Try.func100 (by kernel_rfl) rfl #[.agg #[.int .i64 t218, .int .i64 t219, .int .i64 t220, .int .i64 t221, .int .i64 t222]] rfl zT4 ?_; (with_reducible refine (spec_Code.calls t218 t219 t220 t221 t222 t225 t226 _ A6.out).mono ?_); rintro e w22 ⟨rfl, hb⟩; refine ⟨_, rfl, ?_⟩; have n0_ := Aside0.mk (Kd.R_below (zR4 HO_3.out) hb); have n1_ := Aside0.mk (IsS90.below (zB4_0) hb); have n2_ := Aside0.mk (KeepBut.trans (zB4_1) (KeepBut.of_below hb g none) (.inl rfl)); have n3_ := Aside0.mk (below_step (zB4_2) hb); clear HO_3; clear HI0; clear HK; clear HB; have HO_3 := n0_; have HI0 := n1_; have HK := n2_; have HB := n3_; clear n0_ n1_ n2_ n3_; (try clear hb); (try clear hb2); (try clear hk); (try clear hi)) | (go_at_call 76; (with_reducible refine (spec_l1Once.calls g s0_0 t223 t224 9 true t237 t238 w0 _ ?side1 ?side2 A17.out).mono ?_); (case side1 => exact zB4_0); (case side2 => exact zB4_2); rintro e w23 ⟨rfl, hi, hb, hk⟩; have n0_ := Aside0.mk (Kd.R_mono (Kd.R_keep (IsS90.apart (show IsS90 w0 _ g s0_0 t223 t224 from zB4_0) (zR4 HO_3.out) (by decide)) hk (fun _ h => h.2)) (fun _ h => h.1)); have n1_ := Aside0.mk (KeepBut.trans (zB4_1) hk (.inl rfl)); have n2_ := Aside0.mk (hb); have n3_ := Aside0.mk (hi); clear HO_3; clear HK; clear HB; clear HI0; have HO_3 := n0_; have HK := n1_; have HB := n2_; have HI0 := n3_; clear n0_ n1_ n2_ n3_; (try clear hb); (try clear hb2); (try clear hk); (try clear hi)) | ((with_reducible refine gate_dst (N := 29) rfl ?_); refine Kd.R_lit (Kd.int .i64) _ 3 ?hg (N := 29) ?hd (xs := ([0, 1, 5, 65535] : List Int)) (inner := [.int .i64 0, .int .i64 1, .int .i64 5, .int .i64 65535]) (ok := fun _ => True) (okp := fun _ => True) ?hr ?hp (fun _ hk => hk) trivial (Below.refl _ _) (Nat.le_refl _) (by simp) ?_; (case hd => rfl); (case hg => rfl); (case hr => first | (go_simp; done) | (go_simp; rfl)); (case hp => exact (Reps.one (show Kd.M (Kd.int .i64) _ _ _ 0 [.int .i64 0] from rfl) (Reps.one (show Kd.M (Kd.int .i64) _ _ _ 1 [.int .i64 1] from rfl) (Reps.one (show Kd.M (Kd.int .i64) _ _ _ 5 [.int .i64 5] from rfl) (Reps.one (show Kd.M (Kd.int .i64) _ _ _ 65535 [.int .i64 65535] from rfl) (Reps.none _ _)))))); intro v240 w24 ho25 hb hg_ hnew_; clear hg_ hnew_; (first | rw [← Ny239.out] at ho25 | (simp only [Int.reduceToNat] at ho25; rw [← Ny239.out] at ho25)); have n0_ := Aside0.mk (Kd.R_elder' (zR4 HO_3.out) (Kd.R_base ho25) hb); have n1_ := Aside0.mk (Kd.R_lower (Kd.R_new' ho25 (Kd.R_lt (zR4 HO_3.out))) (keep_size (w := w) (g := g) (row := none) (zB4_1))); have n2_ := Aside0.mk (IsS90.below (zB4_0) hb); have n3_ := Aside0.mk (KeepBut.trans (zB4_1) (KeepBut.of_below hb g none) (.inl rfl)); have n4_ := Aside0.mk (below_step (zB4_2) hb); clear HO_3; clear HI0; clear HK; clear HB; have HO_3 := n0_; have HO241 := n1_; have HI0 := n2_; have HK := n3_; have HB := n4_; clear n0_ n1_ n2_ n3_ n4_; clear hb ho25; obtain ⟨Ao26, co26, eo26⟩ := Kd.R_slice HO241.out; subst eo26) | ((with_reducible refine gate_callee (f := 81) rfl ?_); refine goesL_ (some 30) rfl rfl Try.func81 (by kernel_rfl) rfl #[.pointer (some ⟨g, 0, none⟩), .slice Ao26 y239.length co26] rfl zT4 ?_; (with_reducible refine (spec_l1PickInt.calls g s0_0 t237 t238 _ _ y239 t242 t243 t244 w0 _ ?side1 ?side2 ?side3 ?side4 ?side5 A19.out).mono ?_); (case side1 => exact zB4_0); (case side2 => exact zB4_2); (case side3 => exact zC4 (Kd.R_reads' HO241.out).2.2); (case side4 => exact (Kd.R_reads' HO241.out).2.1); (case side5 => exact far_slice (IsS90.own_ne HI0.out HO241.out (by decide))); rintro e w27 ⟨rfl, hi, hb, hk⟩; refine ⟨_, rfl, ?_⟩; have n0_ := Aside0.mk (Kd.R_mono (Kd.R_keep (IsS90.apart (show IsS90 w0 _ g s0_0 t237 t238 from zB4_0) (zR4 HO_3.out) (by decide)) hk (fun _ h => h.2)) (fun _ h => h.1)); have n1_ := Aside0.mk (Kd.R_mono (Kd.R_keep (IsS90.apart (show IsS90 w0 _ g s0_0 t237 t238 from zB4_0) (zR4 HO241.out) (by decide)) hk (fun _ h => h.2)) (fun _ h => h.1)); have n2_ := Aside0.mk (KeepBut.trans (zB4_1) hk (.inl rfl)); have n3_ := Aside0.mk (hb); have n4_ := Aside0.mk (hi); clear HO_3; clear HO241; clear HK; clear HB; clear HI0; have HO_3 := n0_; have HO241 := n1_; have HK := n2_; have HB := n3_; have HI0 := n4_; clear n0_ n1_ n2_ n3_ n4_; (try clear hb); (try clear hb2); (try clear hk); (try clear hi)) | ((with_reducible refine gate_builtin (b := .append) (xs := #[.tmp 31, .tmp 33]) rfl ?_); at_builtin; refine Kd.R_append (Kd.int .i64) w.heap.size rfl (.tmp 31) (.tmp 33) 24 3 (.int .i64 0) 8 rfl Try.underlying24 info3 rfl (by decide) (by omega) u3 x3_1 t242 [.int .i64 t242] (fun k_ => some k_ ≠ (.slice Ao26 y239.length co26 : Value).ownBlock) (fun _ => False) rfl rfl ?aP (fun _ hk => hk.elim) ?aF ?aO (Below.refl _ _) ?aS ?aL ?_; (case aP => exact rfl); (case aF => exact (fun k_ hk => Kd.fresh' (Kd.R_lt (zR4 HO241.out)) k_ hk)); (case aO => exact (by (with_reducible repeat (first | apply Kd.R_alloc | apply Kd.R_drewN | apply Kd.R_drew)); exact Kd.R_mono HO_3.out (fun _ hk => hk.2))); (case aS => exact (keep_size (w := w) (g := g) (row := none) (zB4_1))); (case aL => have := LMc20.out; omega); intro v246 w28 ho hb hg hat; rw [← Ny245.out] at ho; have n0_ := Aside0.mk (IsS90.grown (show IsS90 w0 _ g s0_0 t243 t244 from zB4_0) hg (IsS90.own_ne HI0.out HO_3.out (by decide))); have n1_ := Aside0.mk (Kd.R_after (ok := (fun _ => True)) (zR4 HO241.out) hg hat); have n2_ := Aside0.mk (below_weaken (zB4_2) HL.out hb); have n3_ := Aside0.mk (KeepBut.trans (zB4_1) (KeepBut.of_grown hg g) (Kd.R_base2 HO_3.out)); have n4_ := Aside0.mk (ho); clear HI0; clear HO241; clear HB; clear HK; clear HO_3; have HI0 := n0_; have HO241 := n1_; have HB := n2_; have HK := n3_; have HO247 := n4_; clear n0_ n1_ n2_ n3_ n4_; clear ho hb hg hat))
    go_roundg k1
    case measure => have := HK1.out; omega
    case rel => exact ⟨(y245), (wrap64 (x4_1 + 1)), (t243), (t244), (by first | rfl | (simp; done) | (simp [*]; done)), H', ⟨by have := HK1.out; omega⟩, ⟨by (with_reducible repeat (first | apply Kd.R_alloc | apply Kd.R_drewN | apply Kd.R_drew)); exact Kd.R_mono HO247.out (fun _ hk => trivial)⟩, ⟨zB4_0⟩, ⟨zB4_1⟩, ⟨zB4_2⟩⟩
   rw [if_neg c4] at H
   have c4b0 : decide (x4_1 < 24) = false := decide_eq_false c4
   clear c4
   replace H := Option.bind_eq_some_iff.mp H
   obtain ⟨⟨t251, t252, t253⟩, A340, H⟩ := H
   replace H : (if t251 = 0 then (spec_l9DrawMem.l1 k1 x3_1 (([(⟨1, 1, 0, 0, 1⟩ : S66), (⟨6, 2, 0, 1, 20⟩ : S66), (⟨10, 3, 2, 1, 0⟩ : S66), (⟨8, 0, 0, 0, 1⟩ : S66)] : List (S66))) 0 s0_0 t252 t253) else (if t251 = 1 then (spec_l9DrawMem.l2 k1 x3_1 (([(⟨4, 1, 0, 0, 8⟩ : S66), (⟨3, 1, 1, 0, 1⟩ : S66), (⟨5, 0, 0, 1, 8⟩ : S66), (⟨8, 0, 0, 0, 8⟩ : S66)] : List (S66))) 0 s0_0 t252 t253) else (some (x3_1, t252, t253)))) = some (r1, r2, r3) := H
   have A34 := Aside0.mk A340
   clear A340
   by_cases c35 : t251 = 0
   ·rw [if_pos c35] at H
    have c35b0 : (t251 == 0) = true := beq_iff_eq.mpr c35
    have c35b1 : (t251 != 0) = false := bne_eq_false_iff_eq.mpr c35
    clear c35
    obtain ⟨y254, hy254⟩ : ∃ y_ : List (S66), y_ = (([(⟨1, 1, 0, 0, 1⟩ : S66), (⟨6, 2, 0, 1, 20⟩ : S66), (⟨10, 3, 2, 1, 0⟩ : S66), (⟨8, 0, 0, 0, 1⟩ : S66)] : List (S66))) := ⟨_, rfl⟩
    replace H : (spec_l9DrawMem.l1 k1 x3_1 y254 0 s0_0 t252 t253) = some (r1, r2, r3) := by first | (rw [hy254]; with_reducible exact H) | (have H2_ := (Option.bind_some _ _).symm.trans H; rw [hy254]; with_reducible exact H2_) | (have H2_ := (Option.bind_some _ _).symm.trans H; with_reducible exact H2_) | with_reducible exact H | (rw [hy254]; exact H) | exact H
    have Ny254 := Aside0.mk hy254
    clear hy254
    have H' := Aside0.mk H
    clear H
    go_wp2_with (first | ((with_reducible refine gate_callee (f := 52) rfl ?_); refine goesL_ (some 36) rfl rfl Try.func52 (by kernel_rfl) rfl #[.pointer (some ⟨g, 0, none⟩), .int .i64 4] rfl zT4 ?_; (with_reducible refine (spec_l1Below.calls g s0_0 x1001_1 x1002_1 4 t251 t252 t253 w0 _ ?side1 ?side2 A34.out).mono ?_); (case side1 => exact zB4_0); (case side2 => exact zB4_2); rintro e w36 ⟨rfl, hi, hb, hk⟩; refine ⟨_, rfl, ?_⟩; have n0_ := Aside0.mk (Kd.R_mono (Kd.R_keep (IsS90.apart (show IsS90 w0 _ g s0_0 x1001_1 x1002_1 from zB4_0) (zR4 HO_3.out) (by decide)) hk (fun _ h => h.2)) (fun _ h => h.1)); have n1_ := Aside0.mk (KeepBut.trans (zB4_1) hk (.inl rfl)); have n2_ := Aside0.mk (hb); have n3_ := Aside0.mk (hi); clear HO_3; clear HK; clear HB; clear HI0; have HO_3 := n0_; have HK := n1_; have HB := n2_; have HI0 := n3_; clear n0_ n1_ n2_ n3_; (try clear hb); (try clear hb2); (try clear hk); (try clear hi)) | ((with_reducible refine gate_dst (N := 43) rfl ?_); refine Kd.R_lit k66 _ 66 ?hg (N := 43) ?hd (xs := ([(⟨1, 1, 0, 0, 1⟩ : S66), (⟨6, 2, 0, 1, 20⟩ : S66), (⟨10, 3, 2, 1, 0⟩ : S66), (⟨8, 0, 0, 0, 1⟩ : S66)] : List (S66))) (inner := [.int .i64 1, .int .i64 1, .int .i64 0, .int .i64 0, .int .i64 1, .int .i64 6, .int .i64 2, .int .i64 0, .int .i64 1, .int .i64 20, .int .i64 10, .int .i64 3, .int .i64 2, .int .i64 1, .int .i64 0, .int .i64 8, .int .i64 0, .int .i64 0, .int .i64 0, .int .i64 1]) (ok := fun _ => True) (okp := fun _ => True) ?hr ?hp (fun _ hk => hk) trivial (Below.refl _ _) (Nat.le_refl _) (by simp) ?_; (case hd => rfl); (case hg => rfl); (case hr => first | (go_simp; done) | (go_simp; rfl)); (case hp => exact (Reps.c5 (show Kd.M k66 _ _ _ (⟨1, 1, 0, 0, 1⟩ : S66) [.int .i64 1, .int .i64 1, .int .i64 0, .int .i64 0, .int .i64 1] from (k66_mkM _ _ _ (⟨1, 1, 0, 0, 1⟩ : S66) )) (Reps.c5 (show Kd.M k66 _ _ _ (⟨6, 2, 0, 1, 20⟩ : S66) [.int .i64 6, .int .i64 2, .int .i64 0, .int .i64 1, .int .i64 20] from (k66_mkM _ _ _ (⟨6, 2, 0, 1, 20⟩ : S66) )) (Reps.c5 (show Kd.M k66 _ _ _ (⟨10, 3, 2, 1, 0⟩ : S66) [.int .i64 10, .int .i64 3, .int .i64 2, .int .i64 1, .int .i64 0] from (k66_mkM _ _ _ (⟨10, 3, 2, 1, 0⟩ : S66) )) (Reps.c5 (show Kd.M k66 _ _ _ (⟨8, 0, 0, 0, 1⟩ : S66) [.int .i64 8, .int .i64 0, .int .i64 0, .int .i64 0, .int .i64 1] from (k66_mkM _ _ _ (⟨8, 0, 0, 0, 1⟩ : S66) )) (Reps.none _ _)))))); intro v255 w37 ho38 hb hg_ hnew_; clear hg_ hnew_; (first | rw [← Ny254.out] at ho38 | (simp only [Int.reduceToNat] at ho38; rw [← Ny254.out] at ho38)); have n0_ := Aside0.mk (Kd.R_below (zR4 HO_3.out) hb); have n1_ := Aside0.mk (Kd.R_lower ho38 (keep_size (w := w) (g := g) (row := none) (zB4_1))); have n2_ := Aside0.mk (IsS90.below (zB4_0) hb); have n3_ := Aside0.mk (KeepBut.trans (zB4_1) (KeepBut.of_below hb g none) (.inl rfl)); have n4_ := Aside0.mk (below_step (zB4_2) hb); clear HO_3; clear HI0; clear HK; clear HB; have HO_3 := n0_; have HO256 := n1_; have HI0 := n2_; have HK := n3_; have HB := n4_; clear n0_ n1_ n2_ n3_ n4_; clear hb ho38))
    go_loopg [8] k1 (fun kq v8 w' => ∃ (x3_2 : List Int) (x8_2 : Int), v8 = .int .i64 x8_2 ∧ Aside0 (spec_l9DrawMem.l1 kq x3_2 y254 x8_2 s0_0 t252 t253 = some (r1, r2, r3)) ∧ Aside0 (kq ≤ k1) ∧ Aside0 (Kd.R (Kd.int .i64) 3 w' w.heap.size (fun _ => True) u3 x3_2) ∧ Aside0 (Kd.R k66 66 w' w.heap.size (fun _ => True) v255 y254) ∧ Aside0 (IsS90 w0 w' g s0_0 t252 t253) ∧ Aside0 (KeepBut w w' g none) ∧ Aside0 (Below w0.heap.size w0 w'))
    case atStart => exact ⟨(x3_1), (0), (by first | rfl | (simp; done) | (simp [*]; done)), H', ⟨Nat.le_refl _⟩, ⟨zR4 HO_3.out⟩, ⟨zR4 HO256.out⟩, ⟨zB4_0⟩, ⟨zB4_1⟩, ⟨zB4_2⟩⟩
    case round =>
     clear H'
     try clear c1
     try clear c2
     try clear p2
     try clear c3
     try clear c4
     try clear c4b0
     try clear c5
     try clear p6
     try clear c7
     try clear c7b0
     try clear c8
     try clear c9
     try clear c10
     try clear c18
     try clear c20
     try clear c29
     try clear c35
     try clear c35b0
     try clear c35b1
     try clear p2
     obtain ⟨x3_2, x8_2, rfl, HA, HK2, HO_3, HO_7, HI0, HK, HB⟩ := hrel
     cases gk with
     | zero => exact absurd HA.out (by simp [spec_l9DrawMem.l1])
     | succ k2 =>
      have H := HA.out
      clear HA
      simp only [spec_l9DrawMem.l1] at H
      by_cases c39 : x8_2 < (y254.length : Int)
      rotate_left
      ·rw [if_neg c39] at H
       have c39b0 : decide (x8_2 < (y254.length : Int)) = false := decide_eq_false c39
       clear c39
       simp only [Option.some.injEq, Prod.mk.injEq] at H
       obtain ⟨rfl, rfl, rfl⟩ := H
       obtain ⟨Ao48, co48, eo48⟩ := Kd.R_slice HO_7.out
       subst eo48
       go_wp2
       go_ret
       exact ⟨_, zE4, zR4 HO_3.out, zB4_0, zB4_2, zB4_1⟩
      rw [if_pos c39] at H
      have c39b0 : decide (x8_2 < (y254.length : Int)) = true := decide_eq_true c39
      clear c39
      by_cases c40 : 0 ≤ x8_2
      rotate_left
      ·rw [if_neg c40] at H
       exact absurd H (by simp)
      rw [if_pos c40] at H
      have c40b0 : decide (0 ≤ x8_2) = true := decide_eq_true c40
      clear c40
      replace H := Option.bind_eq_some_iff.mp H
      obtain ⟨⟨t258, t259⟩, A410, H⟩ := H
      replace H : (if x8_2 < (x3_2.length : Int) then (spec_l9DrawMem.l1 k2 (x3_2.set (x8_2 : Int).toNat t258) y254 (wrap64 (x8_2 + 1)) s0_0 t252 t253) else (none)) = some (r1, r2, r3) := H
      have A41 := Aside0.mk A410
      clear A410
      by_cases c42 : x8_2 < (x3_2.length : Int)
      rotate_left
      ·rw [if_neg c42] at H
       exact absurd H (by simp)
      rw [if_pos c42] at H
      have c42b0 : decide (x8_2 < (x3_2.length : Int)) = true := decide_eq_true c42
      clear c42
      obtain ⟨y260, hy260⟩ : ∃ y_ : List Int, y_ = (x3_2.set (x8_2 : Int).toNat t258) := ⟨_, rfl⟩
      replace H : (spec_l9DrawMem.l1 k2 y260 y254 (wrap64 (x8_2 + 1)) s0_0 t252 t253) = some (r1, r2, r3) := by first | (rw [hy260]; with_reducible exact H) | (have H2_ := (Option.bind_some _ _).symm.trans H; rw [hy260]; with_reducible exact H2_) | (have H2_ := (Option.bind_some _ _).symm.trans H; with_reducible exact H2_) | with_reducible exact H | (rw [hy260]; exact H) | exact H
      have Ny260 := Aside0.mk hy260
      clear hy260
      have H' := Aside0.mk H
      clear H
      obtain ⟨Ao44, co44, eo44⟩ := Kd.R_slice HO_7.out
      subst eo44
      have p257 : 0 ≤ (x8_2 : Int) := zA4
      have q257 : x8_2 < (y254.length : Int) := zA4
      obtain ⟨ad257, e257, hx257_0, hx257_1, hx257_2, hx257_3, hx257_4⟩ := at_T66 (Kd.R_reads' HO_7.out).2.2 x8_2 p257 q257
      cases e257
      replace p257 := eq_true p257
      replace q257 := eq_true q257
      go_wp2_with (first | ((with_reducible refine gate_callee (f := 100) rfl ?_); refine goesL_ (some 57) rfl rfl Try.func100 (by kernel_rfl) rfl #[.agg #[.int .i64 ((rd_T66 y254 x8_2).f0), .int .i64 ((rd_T66 y254 x8_2).f1), .int .i64 ((rd_T66 y254 x8_2).f2), .int .i64 ((rd_T66 y254 x8_2).f3), .int .i64 ((rd_T66 y254 x8_2).f4)]] rfl zT4 ?_; (with_reducible refine (spec_Code.calls ((rd_T66 y254 x8_2).f0) ((rd_T66 y254 x8_2).f1) ((rd_T66 y254 x8_2).f2) ((rd_T66 y254 x8_2).f3) ((rd_T66 y254 x8_2).f4) t258 t259 _ A41.out).mono ?_); rintro e w45 ⟨rfl, hb⟩; refine ⟨_, rfl, ?_⟩; have n0_ := Aside0.mk (Kd.R_below (zR4 HO_3.out) hb); have n1_ := Aside0.mk (Kd.R_below (zR4 HO_7.out) hb); have n2_ := Aside0.mk (IsS90.below (zB4_0) hb); have n3_ := Aside0.mk (KeepBut.trans (zB4_1) (KeepBut.of_below hb g none) (.inl rfl)); have n4_ := Aside0.mk (below_step (zB4_2) hb); clear HO_3; clear HO_7; clear HI0; clear HK; clear HB; have HO_3 := n0_; have HO_7 := n1_; have HI0 := n2_; have HK := n3_; have HB := n4_; clear n0_ n1_ n2_ n3_ n4_; (try clear hb); (try clear hb2); (try clear hk); (try clear hi); have p43 : 0 ≤ (x8_2 : Int) := zA4; have q43 : (x8_2 : Int) < ((x3_2.length : Int) : Int) := zA4; obtain ⟨go43, co43, eo43, gb43, gl43, cl43, HG43⟩ := Kd.R_form HO_3.out (by omega); (first | cases eo43 | (injection eo43 with ea_ en_ ec_; (first | subst ea_ | (injection ea_ with ea_; subst ea_)); subst ec_; clear en_)); have GB43 := Aside0.mk gb43; have GG43 := Aside0.mk HG43; clear gb43 gl43 HG43; obtain ⟨hx43_0, hf43_0⟩ := Kd.R_celln 0 HO_3.out (x8_2 : Int) p43 q43; replace p43 := eq_true p43; replace q43 := eq_true q43; obtain ⟨hy46_, hz46_⟩ := Kd.R_celln 0 HO_3.out (x8_2 : Int) (zA4) (zA4); have HP46 := Kd.R_putg HO_3.out (x8_2 : Int) t258) | ((with_reducible refine gate_store (t := 3) (p := 60) rfl ?_); refine store_event (t := 3) (p := 60) (v := ?vo_w47) (w1 := (w45.setCell ⟨go43, (x8_2 : Int).toNat, none⟩ (.int .i64 t258))) ?hg ?ho ?hn ?hr ?_; (case ho => rfl); (case hg => rfl); (case hn => rfl); (case hr => first | (go_simp; done) | (go_simp; rfl)); intro w47 hw; have hg : w45.grownBy w47 (some go43) := (by rw [hw]; exact HP46.2); have hp_ : Kd.R (Kd.int .i64) 3 w47 w.heap.size (fun _ => True) (.slice (some ⟨go43, 0, none⟩) x3_2.length co43) y260 := (by rw [hw, Ny260.out]; exact HP46.1); clear HP46; have n0_ := Aside0.mk (hp_); have n1_ := Aside0.mk (Kd.R_over' (v := (.slice (some ⟨go43, 0, none⟩) x3_2.length co43)) (zR4 HO_7.out) (Kd.R_typed HO_3.out) (by decide) hg); have n2_ := Aside0.mk (IsS90.grown (zB4_0) hg (IsS90.own_ne HI0.out HO_3.out (by decide))); have n3_ := Aside0.mk ((by rw [hw]; exact below_set (HB.out) (Nat.le_trans HL.out GB43.out) : Below w0.heap.size w0 w47)); have n4_ := Aside0.mk (KeepBut.trans (zB4_1) (KeepBut.of_grown hg g) (Kd.R_base2 HO_3.out)); clear HO_3; clear HO_7; clear HI0; clear HB; clear HK; have HO_3 := n0_; have HO_7 := n1_; have HI0 := n2_; have HB := n3_; have HK := n4_; clear n0_ n1_ n2_ n3_ n4_; clear hg hw hp_))
      go_roundg k2
      case measure => have := HK1.out; have := HK2.out; omega
      case rel => exact ⟨(y260), (wrap64 (x8_2 + 1)), (by first | rfl | (simp; done) | (simp [*]; done)), H', ⟨by have := HK1.out; have := HK2.out; omega⟩, ⟨zR4 HO_3.out⟩, ⟨zR4 HO_7.out⟩, ⟨zB4_0⟩, ⟨zB4_1⟩, ⟨zB4_2⟩⟩
   rw [if_neg c35] at H
   have c35b0 : (t251 == 0) = false := beq_eq_false_iff_ne.mpr c35
   have c35b1 : (t251 != 0) = true := bne_iff_ne.mpr c35
   by_cases c49 : t251 = 1
   rotate_left
   ·rw [if_neg c49] at H
    have c49b0 : (t251 == 1) = false := beq_eq_false_iff_ne.mpr c49
    have c49b1 : (t251 != 1) = true := bne_iff_ne.mpr c49
    simp only [Option.some.injEq, Prod.mk.injEq] at H
    obtain ⟨rfl, rfl, rfl⟩ := H
    go_wp2_with (first | ((with_reducible refine gate_callee (f := 52) rfl ?_); refine goesL_ (some 36) rfl rfl Try.func52 (by kernel_rfl) rfl #[.pointer (some ⟨g, 0, none⟩), .int .i64 4] rfl zT4 ?_; (with_reducible refine (spec_l1Below.calls g s0_0 x1001_1 x1002_1 4 t251 t252 t253 w0 _ ?side1 ?side2 A34.out).mono ?_); (case side1 => exact zB4_0); (case side2 => exact zB4_2); rintro e w63 ⟨rfl, hi, hb, hk⟩; refine ⟨_, rfl, ?_⟩; have n0_ := Aside0.mk (Kd.R_mono (Kd.R_keep (IsS90.apart (show IsS90 w0 _ g s0_0 x1001_1 x1002_1 from zB4_0) (zR4 HO_3.out) (by decide)) hk (fun _ h => h.2)) (fun _ h => h.1)); have n1_ := Aside0.mk (KeepBut.trans (zB4_1) hk (.inl rfl)); have n2_ := Aside0.mk (hb); have n3_ := Aside0.mk (hi); clear HO_3; clear HK; clear HB; clear HI0; have HO_3 := n0_; have HK := n1_; have HB := n2_; have HI0 := n3_; clear n0_ n1_ n2_ n3_; (try clear hb); (try clear hb2); (try clear hk); (try clear hi)))
    go_ret
    exact ⟨_, zE4, zR4 HO_3.out, zB4_0, zB4_2, zB4_1⟩
   rw [if_pos c49] at H
   have c49b0 : (t251 == 1) = true := beq_iff_eq.mpr c49
   have c49b1 : (t251 != 1) = false := bne_eq_false_iff_eq.mpr c49
   clear c49
   obtain ⟨y261, hy261⟩ : ∃ y_ : List (S66), y_ = (([(⟨4, 1, 0, 0, 8⟩ : S66), (⟨3, 1, 1, 0, 1⟩ : S66), (⟨5, 0, 0, 1, 8⟩ : S66), (⟨8, 0, 0, 0, 8⟩ : S66)] : List (S66))) := ⟨_, rfl⟩
   replace H : (spec_l9DrawMem.l2 k1 x3_1 y261 0 s0_0 t252 t253) = some (r1, r2, r3) := by first | (rw [hy261]; with_reducible exact H) | (have H2_ := (Option.bind_some _ _).symm.trans H; rw [hy261]; with_reducible exact H2_) | (have H2_ := (Option.bind_some _ _).symm.trans H; with_reducible exact H2_) | with_reducible exact H | (rw [hy261]; exact H) | exact H
   have Ny261 := Aside0.mk hy261
   clear hy261
   have H' := Aside0.mk H
   clear H
   go_wp2_with (first | ((with_reducible refine gate_callee (f := 52) rfl ?_); refine goesL_ (some 36) rfl rfl Try.func52 (by kernel_rfl) rfl #[.pointer (some ⟨g, 0, none⟩), .int .i64 4] rfl zT4 ?_; (with_reducible refine (spec_l1Below.calls g s0_0 x1001_1 x1002_1 4 t251 t252 t253 w0 _ ?side1 ?side2 A34.out).mono ?_); (case side1 => exact zB4_0); (case side2 => exact zB4_2); rintro e w50 ⟨rfl, hi, hb, hk⟩; refine ⟨_, rfl, ?_⟩; have n0_ := Aside0.mk (Kd.R_mono (Kd.R_keep (IsS90.apart (show IsS90 w0 _ g s0_0 x1001_1 x1002_1 from zB4_0) (zR4 HO_3.out) (by decide)) hk (fun _ h => h.2)) (fun _ h => h.1)); have n1_ := Aside0.mk (KeepBut.trans (zB4_1) hk (.inl rfl)); have n2_ := Aside0.mk (hb); have n3_ := Aside0.mk (hi); clear HO_3; clear HK; clear HB; clear HI0; have HO_3 := n0_; have HK := n1_; have HB := n2_; have HI0 := n3_; clear n0_ n1_ n2_ n3_; (try clear hb); (try clear hb2); (try clear hk); (try clear hi)) | ((with_reducible refine gate_dst (N := 67) rfl ?_); refine Kd.R_lit k66 _ 66 ?hg (N := 67) ?hd (xs := ([(⟨4, 1, 0, 0, 8⟩ : S66), (⟨3, 1, 1, 0, 1⟩ : S66), (⟨5, 0, 0, 1, 8⟩ : S66), (⟨8, 0, 0, 0, 8⟩ : S66)] : List (S66))) (inner := [.int .i64 4, .int .i64 1, .int .i64 0, .int .i64 0, .int .i64 8, .int .i64 3, .int .i64 1, .int .i64 1, .int .i64 0, .int .i64 1, .int .i64 5, .int .i64 0, .int .i64 0, .int .i64 1, .int .i64 8, .int .i64 8, .int .i64 0, .int .i64 0, .int .i64 0, .int .i64 8]) (ok := fun _ => True) (okp := fun _ => True) ?hr ?hp (fun _ hk => hk) trivial (Below.refl _ _) (Nat.le_refl _) (by simp) ?_; (case hd => rfl); (case hg => rfl); (case hr => first | (go_simp; done) | (go_simp; rfl)); (case hp => exact (Reps.c5 (show Kd.M k66 _ _ _ (⟨4, 1, 0, 0, 8⟩ : S66) [.int .i64 4, .int .i64 1, .int .i64 0, .int .i64 0, .int .i64 8] from (k66_mkM _ _ _ (⟨4, 1, 0, 0, 8⟩ : S66) )) (Reps.c5 (show Kd.M k66 _ _ _ (⟨3, 1, 1, 0, 1⟩ : S66) [.int .i64 3, .int .i64 1, .int .i64 1, .int .i64 0, .int .i64 1] from (k66_mkM _ _ _ (⟨3, 1, 1, 0, 1⟩ : S66) )) (Reps.c5 (show Kd.M k66 _ _ _ (⟨5, 0, 0, 1, 8⟩ : S66) [.int .i64 5, .int .i64 0, .int .i64 0, .int .i64 1, .int .i64 8] from (k66_mkM _ _ _ (⟨5, 0, 0, 1, 8⟩ : S66) )) (Reps.c5 (show Kd.M k66 _ _ _ (⟨8, 0, 0, 0, 8⟩ : S66) [.int .i64 8, .int .i64 0, .int .i64 0, .int .i64 0, .int .i64 8] from (k66_mkM _ _ _ (⟨8, 0, 0, 0, 8⟩ : S66) )) (Reps.none _ _)))))); intro v262 w51 ho52 hb hg_ hnew_; clear hg_ hnew_; (first | rw [← Ny261.out] at ho52 | (simp only [Int.reduceToNat] at ho52; rw [← Ny261.out] at ho52)); have n0_ := Aside0.mk (Kd.R_below (zR4 HO_3.out) hb); have n1_ := Aside0.mk (Kd.R_lower ho52 (keep_size (w := w) (g := g) (row := none) (zB4_1))); have n2_ := Aside0.mk (IsS90.below (zB4_0) hb); have n3_ := Aside0.mk (KeepBut.trans (zB4_1) (KeepBut.of_below hb g none) (.inl rfl)); have n4_ := Aside0.mk (below_step (zB4_2) hb); clear HO_3; clear HI0; clear HK; clear HB; have HO_3 := n0_; have HO263 := n1_; have HI0 := n2_; have HK := n3_; have HB := n4_; clear n0_ n1_ n2_ n3_ n4_; clear hb ho52))
   go_loopg [10] k1 (fun kq v10 w' => ∃ (x3_2 : List Int) (x10_2 : Int), v10 = .int .i64 x10_2 ∧ Aside0 (spec_l9DrawMem.l2 kq x3_2 y261 x10_2 s0_0 t252 t253 = some (r1, r2, r3)) ∧ Aside0 (kq ≤ k1) ∧ Aside0 (Kd.R (Kd.int .i64) 3 w' w.heap.size (fun _ => True) u3 x3_2) ∧ Aside0 (Kd.R k66 66 w' w.heap.size (fun _ => True) v262 y261) ∧ Aside0 (IsS90 w0 w' g s0_0 t252 t253) ∧ Aside0 (KeepBut w w' g none) ∧ Aside0 (Below w0.heap.size w0 w'))
   case atStart => exact ⟨(x3_1), (0), (by first | rfl | (simp; done) | (simp [*]; done)), H', ⟨Nat.le_refl _⟩, ⟨zR4 HO_3.out⟩, ⟨zR4 HO263.out⟩, ⟨zB4_0⟩, ⟨zB4_1⟩, ⟨zB4_2⟩⟩
   case round =>
    clear H'
    try clear c1
    try clear c2
    try clear p2
    try clear q2
    try clear hx2
    try clear c3
    try clear c4
    try clear c4b0
    try clear p4
    try clear q4
    try clear hx4
    try clear hf4
    try clear c5
    try clear p6
    try clear c7
    try clear c7b0
    try clear c8
    try clear c9
    try clear c10
    try clear c18
    try clear c20
    try clear p25
    try clear q25
    try clear hx25
    try clear c29
    try clear c35
    try clear c35b0
    try clear c35b1
    try clear c39
    try clear c39b0
    try clear c40
    try clear c40b0
    try clear c42
    try clear c42b0
    try clear p43
    try clear q43
    try clear hx43
    try clear hf43
    try clear c49
    try clear c49b0
    try clear c49b1
    try clear c52
    try clear hx257_0
    try clear hx257_1
    try clear hx257_2
    try clear hx257_3
    try clear hx257_4
    try clear hx43_0
    try clear p2
    try clear p257
    try clear p43
    try clear p6
    try clear q257
    try clear q43
    obtain ⟨x3_2, x10_2, rfl, HA, HK2, HO_3, HO_9, HI0, HK, HB⟩ := hrel
    cases gk with
    | zero => exact absurd HA.out (by simp [spec_l9DrawMem.l2])
    | succ k2 =>
     have H := HA.out
     clear HA
     simp only [spec_l9DrawMem.l2] at H
     by_cases c53 : x10_2 < (y261.length : Int)
     rotate_left
     ·rw [if_neg c53] at H
      have c53b0 : decide (x10_2 < (y261.length : Int)) = false := decide_eq_false c53
      clear c53
      simp only [Option.some.injEq, Prod.mk.injEq] at H
      obtain ⟨rfl, rfl, rfl⟩ := H
      obtain ⟨Ao62, co62, eo62⟩ := Kd.R_slice HO_9.out
      subst eo62
      go_wp2
      go_ret
      exact ⟨_, zE4, zR4 HO_3.out, zB4_0, zB4_2, zB4_1⟩
     rw [if_pos c53] at H
     have c53b0 : decide (x10_2 < (y261.length : Int)) = true := decide_eq_true c53
     clear c53
     by_cases c54 : 0 ≤ x10_2
     rotate_left
     ·rw [if_neg c54] at H
      exact absurd H (by simp)
     rw [if_pos c54] at H
     have c54b0 : decide (0 ≤ x10_2) = true := decide_eq_true c54
     clear c54
     replace H := Option.bind_eq_some_iff.mp H
     obtain ⟨⟨t265, t266⟩, A550, H⟩ := H
     replace H : (if x10_2 < (x3_2.length : Int) then (spec_l9DrawMem.l2 k2 (x3_2.set (x10_2 : Int).toNat t265) y261 (wrap64 (x10_2 + 1)) s0_0 t252 t253) else (none)) = some (r1, r2, r3) := H
     have A55 := Aside0.mk A550
     clear A550
     by_cases c56 : x10_2 < (x3_2.length : Int)
     rotate_left
     ·rw [if_neg c56] at H
      exact absurd H (by simp)
     rw [if_pos c56] at H
     have c56b0 : decide (x10_2 < (x3_2.length : Int)) = true := decide_eq_true c56
     clear c56
     obtain ⟨y267, hy267⟩ : ∃ y_ : List Int, y_ = (x3_2.set (x10_2 : Int).toNat t265) := ⟨_, rfl⟩
     replace H : (spec_l9DrawMem.l2 k2 y267 y261 (wrap64 (x10_2 + 1)) s0_0 t252 t253) = some (r1, r2, r3) := by first | (rw [hy267]; with_reducible exact H) | (have H2_ := (Option.bind_some _ _).symm.trans H; rw [hy267]; with_reducible exact H2_) | (have H2_ := (Option.bind_some _ _).symm.trans H; with_reducible exact H2_) | with_reducible exact H | (rw [hy267]; exact H) | exact H
     have Ny267 := Aside0.mk hy267
     clear hy267
     have H' := Aside0.mk H
     clear H
     obtain ⟨Ao58, co58, eo58⟩ := Kd.R_slice HO_9.out
     subst eo58
     have p264 : 0 ≤ (x10_2 : Int) := zA4
     have q264 : x10_2 < (y261.length : Int) := zA4
     obtain ⟨ad264, e264, hx264_0, hx264_1, hx264_2, hx264_3, hx264_4⟩ := at_T66 (Kd.R_reads' HO_9.out).2.2 x10_2 p264 q264
     cases e264
     replace p264 := eq_true p264
     replace q264 := eq_true q264
     go_wp2_with (first | ((with_reducible refine gate_callee (f := 100) rfl ?_); refine goesL_ (some 81) rfl rfl Try.func100 (by kernel_rfl) rfl #[.agg #[.int .i64 ((rd_T66 y261 x10_2).f0), .int .i64 ((rd_T66 y261 x10_2).f1), .int .i64 ((rd_T66 y261 x10_2).f2), .int .i64 ((rd_T66 y261 x10_2).f3), .int .i64 ((rd_T66 y261 x10_2).f4)]] rfl zT4 ?_; (with_reducible refine (spec_Code.calls ((rd_T66 y261 x10_2).f0) ((rd_T66 y261 x10_2).f1) ((rd_T66 y261 x10_2).f2) ((rd_T66 y261 x10_2).f3) ((rd_T66 y261 x10_2).f4) t265 t266 _ A55.out).mono ?_); rintro e w59 ⟨rfl, hb⟩; refine ⟨_, rfl, ?_⟩; have n0_ := Aside0.mk (Kd.R_below (zR4 HO_3.out) hb); have n1_ := Aside0.mk (Kd.R_below (zR4 HO_9.out) hb); have n2_ := Aside0.mk (IsS90.below (zB4_0) hb); have n3_ := Aside0.mk (KeepBut.trans (zB4_1) (KeepBut.of_below hb g none) (.inl rfl)); have n4_ := Aside0.mk (below_step (zB4_2) hb); clear HO_3; clear HO_9; clear HI0; clear HK; clear HB; have HO_3 := n0_; have HO_9 := n1_; have HI0 := n2_; have HK := n3_; have HB := n4_; clear n0_ n1_ n2_ n3_ n4_; (try clear hb); (try clear hb2); (try clear hk); (try clear hi); have p57 : 0 ≤ (x10_2 : Int) := zA4; have q57 : (x10_2 : Int) < ((x3_2.length : Int) : Int) := zA4; obtain ⟨go57, co57, eo57, gb57, gl57, cl57, HG57⟩ := Kd.R_form HO_3.out (by omega); (first | cases eo57 | (injection eo57 with ea_ en_ ec_; (first | subst ea_ | (injection ea_ with ea_; subst ea_)); subst ec_; clear en_)); have GB57 := Aside0.mk gb57; have GG57 := Aside0.mk HG57; clear gb57 gl57 HG57; obtain ⟨hx57_0, hf57_0⟩ := Kd.R_celln 0 HO_3.out (x10_2 : Int) p57 q57; replace p57 := eq_true p57; replace q57 := eq_true q57; obtain ⟨hy60_, hz60_⟩ := Kd.R_celln 0 HO_3.out (x10_2 : Int) (zA4) (zA4); have HP60 := Kd.R_putg HO_3.out (x10_2 : Int) t265) | ((with_reducible refine gate_store (t := 3) (p := 84) rfl ?_); refine store_event (t := 3) (p := 84) (v := ?vo_w61) (w1 := (w59.setCell ⟨go57, (x10_2 : Int).toNat, none⟩ (.int .i64 t265))) ?hg ?ho ?hn ?hr ?_; (case ho => rfl); (case hg => rfl); (case hn => rfl); (case hr => first | (go_simp; done) | (go_simp; rfl)); intro w61 hw; have hg : w59.grownBy w61 (some go57) := (by rw [hw]; exact HP60.2); have hp_ : Kd.R (Kd.int .i64) 3 w61 w.heap.size (fun _ => True) (.slice (some ⟨go57, 0, none⟩) x3_2.length co57) y267 := (by rw [hw, Ny267.out]; exact HP60.1); clear HP60; have n0_ := Aside0.mk (hp_); have n1_ := Aside0.mk (Kd.R_over' (v := (.slice (some ⟨go57, 0, none⟩) x3_2.length co57)) (zR4 HO_9.out) (Kd.R_typed HO_3.out) (by decide) hg); have n2_ := Aside0.mk (IsS90.grown (zB4_0) hg (IsS90.own_ne HI0.out HO_3.out (by decide))); have n3_ := Aside0.mk ((by rw [hw]; exact below_set (HB.out) (Nat.le_trans HL.out GB57.out) : Below w0.heap.size w0 w61)); have n4_ := Aside0.mk (KeepBut.trans (zB4_1) (KeepBut.of_grown hg g) (Kd.R_base2 HO_3.out)); clear HO_3; clear HO_9; clear HI0; clear HB; clear HK; have HO_3 := n0_; have HO_9 := n1_; have HI0 := n2_; have HB := n3_; have HK := n4_; clear n0_ n1_ n2_ n3_ n4_; clear hg hw hp_))
     go_roundg k2
     case measure => have := HK1.out; have := HK2.out; omega
     case rel => exact ⟨(y267), (wrap64 (x10_2 + 1)), (by first | rfl | (simp; done) | (simp [*]; done)), H', ⟨by have := HK1.out; have := HK2.out; omega⟩, ⟨zR4 HO_3.out⟩, ⟨zR4 HO_9.out⟩, ⟨zB4_0⟩, ⟨zB4_1⟩, ⟨zB4_2⟩⟩

end Go.Proofs.Ytajhfpeijagpnaa.PFnResumes
