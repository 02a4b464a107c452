-- made by wip/tools/myprint.py out of the seat's translation
import Derived.Test.YtmfhfnpinmlloaaPFnGoesx0
import Derived.Test.YtmfhfnpinmlloaaPFnGoesx2
import Derived.Test.YtmfhfnpinmlloaaPFnGoesx3
namespace Go.Proofs.Ytmfhfnpinmlloaa.PFnGoes
open Go.RowKit Go.Proofs.YtmfhfnpinmlloaaW.PrintWords Go.Proofs.YtmfhfnpinmlloaaW.PrintLast Go.Proofs.YtmfhfnpinmlloaaW.PrintMore
attribute [local go_sem] max2_int min2_int max_two min_two max_three min_three max_four min_four   -- for this text's walks alone
set_option linter.unusedVariables false
set_option linter.unusedSimpArgs false
theorem zc4_3 {w : World} {g : Nat} {a0 a1 a2 : Value} {t : TypeId} (h : w.heap[g]? = some (.cells #[a0, a1, a2] t (0, 0))) : w.cell? ⟨g, 0, none⟩ = some a0 ∧ w.cell? ⟨g, 1, none⟩ = some a1 ∧ w.cell? ⟨g, 2, none⟩ = some a2 ∧ w.frozen? ⟨g, 0, none⟩ = false ∧ w.frozen? ⟨g, 1, none⟩ = false ∧ w.frozen? ⟨g, 2, none⟩ = false := ⟨(blk_cell h 0).trans rfl, (blk_cell h 1).trans rfl, (blk_cell h 2).trans rfl, blk_frozen h 0, blk_frozen h 1, blk_frozen h 2⟩
theorem zR4 {p q : Prop} (x : q) (h : q → p := by intro h; (with_reducible repeat (first | apply Kd.R_alloc | apply Kd.R_drewN | apply Kd.R_drew)); exact h) : p := h x
theorem zQ4 {p q : Prop} (x : q) (h : q → p := by intro h; (with_reducible repeat (first | apply Kd.Q_alloc | apply Kd.Q_drewN | apply Kd.Q_drew)); exact h) : p := h x
theorem zK4 {p q : Prop} (x : q) (h : q → p := by intro h; (with_reducible repeat (first | refine blk_drewN ?_ _ | refine blk_drew ?_ | refine blk_alloc ?_ _)); exact h) : p := h x
theorem zA4 {p : Prop} [Decidable p] (h : decide p = true := by first | (with_reducible assumption) | assumption) : p := of_decide_eq_true h
theorem zT4 {p : Prop} (h : p := by (try simp only [List.map_toArray, List.map_cons, List.map_nil]); first | done | rfl | (simp only [List.length_drop, List.length_take]; rfl)) : p := h
theorem zC4 {p q : Prop} (x : q) (h : q → p := by intro h; repeat (first | exact h | (with_reducible refine Kd.C_alloc ?_ _) | (with_reducible refine Kd.C_drewN ?_ _) | (with_reducible refine Kd.C_drew ?_))) : p := h x
theorem zb4 {W w w1 : World} {g : Nat} {o : Obj} (x : W.heap[g]? = some o) (hb : Below w.heap.size w w1) (h : W.heap[g]? = some o → w.heap[g]? = some o := by intro h; (with_reducible repeat (first | refine blk_drewN ?_ _ | refine blk_drew ?_ | refine blk_alloc ?_ _)); exact h) : w1.heap[g]? = some o := blk_below (h x) hb
theorem zh4 {W w w1 : World} {g g' : Nat} {o : Obj} (hk : KeepBut w w1 g none) (x : W.heap[g']? = some o) (hn : g' ≠ g) (h : W.heap[g']? = some o → w.heap[g']? = some o := by intro h; (with_reducible repeat (first | refine blk_drewN ?_ _ | refine blk_drew ?_ | refine blk_alloc ?_ _)); exact h) : w1.heap[g']? = some o := KeepBut.blk hk (h x) hn (by simp)
theorem zn4 {W w : World} {g g' : Nat} {o : Obj} (x : W.heap[g]? = some o) (hg : g' = w.heap.size) (h : W.heap[g]? = some o → w.heap[g]? = some o := by intro h; (with_reducible repeat (first | refine blk_drewN ?_ _ | refine blk_drew ?_ | refine blk_alloc ?_ _)); exact h) : g ≠ g' := by rw [hg]; exact Nat.ne_of_lt (blk_lt (h x))
theorem zm4 {W w : World} {g g' : Nat} {o : Obj} (x : W.heap[g]? = some o) (hg : g' = w.heap.size) (h : W.heap[g]? = some o → w.heap[g]? = some o := by intro h; (with_reducible repeat (first | refine blk_drewN ?_ _ | refine blk_drew ?_ | refine blk_alloc ?_ _)); exact h) : g' ≠ g := by rw [hg]; exact Nat.ne_of_gt (blk_lt (h x))
theorem zP4 {p q : Prop} (x : q) (h : q → p := by intro h; (with_reducible repeat (first | refine blk_drewN ?_ _ | refine blk_drew ?_ | refine blk_alloc ?_ _)); exact h) : p := h x
theorem zV4 {a b : Act} (h : a = b := by simp only [Act.put, List.setIfInBounds_toArray, List.set_cons_zero, List.set_cons_succ, i64_w, i32_w]; rfl) : a = b := h
theorem zE4 {p : Prop} (h : p := by first | rfl | (simp [errW_none, errW_some] <;> rfl) | (simp [*, errW_none, errW_some] <;> rfl)) : p := h
theorem zB4_0 {p : Prop} (h : p := by repeat (first | (with_reducible first | exact HI0.out | apply IsS56.alloc | apply IsS56.drewN | apply IsS56.drew | apply IsS56.set_1 | apply IsS56.set_2) | exact HI0.out)) : p := h
theorem zB4_1 {p : Prop} (h : p := by repeat (first | (with_reducible first | exact HK.out | apply KeepBut.set_ | apply keep_drewN | apply keep_drew | apply keep_alloc) | exact HK.out)) : p := h
theorem zB4_2 {p : Prop} (h : p := by repeat (first | (with_reducible first | exact HB.out | apply below_alloc | apply pw_below_drewN | apply below_drew1 | refine below_set ?_ (IsS56.ge HI0.out)) | exact HB.out)) : p := h
theorem zB4_3 {p : Prop} (h : p := by repeat (first | (with_reducible first | exact HI0.out | apply IsS56.alloc | apply IsS56.drewN | apply IsS56.drew | apply IsS56.set_1 | apply IsS56.set_2 | refine IsS56.far ?_ NB0_227.out _) | exact HI0.out)) : p := h
theorem zB4_4 {p : Prop} (h : p := by repeat (first | (with_reducible first | exact HB.out | apply below_alloc | apply pw_below_drewN | apply below_drew1 | refine below_set ?_ (IsS56.ge HI0.out) | refine below_set ?_ GE227.out) | exact HB.out)) : p := h
theorem zB4_5 {p : Prop} (h : p := by repeat (first | (with_reducible first | exact HK.out | apply KeepBut.set_ | apply keep_drewN | apply keep_drew | apply keep_alloc | refine keep_far ?_ GW227.out _) | exact HK.out)) : p := h
theorem zB4_6 {p : Prop} (h : p := by repeat (first | (with_reducible first | exact HI0.out | apply IsS56.alloc | apply IsS56.drewN | apply IsS56.drew | apply IsS56.set_1 | apply IsS56.set_2 | refine IsS56.far ?_ NB0_227.out _ | refine IsS56.far ?_ NB0_236.out _) | exact HI0.out)) : p := h
theorem zB4_7 {p : Prop} (h : p := by repeat (first | (with_reducible first | exact HK.out | apply KeepBut.set_ | apply keep_drewN | apply keep_drew | apply keep_alloc | refine keep_far ?_ GW227.out _ | refine keep_far ?_ GW236.out _) | exact HK.out)) : p := h
theorem zB4_8 {p : Prop} (h : p := by repeat (first | (with_reducible first | exact HB.out | apply below_alloc | apply pw_below_drewN | apply below_drew1 | refine below_set ?_ (IsS56.ge HI0.out) | refine below_set ?_ GE227.out | refine below_set ?_ GE236.out) | exact HB.out)) : p := h
theorem zB4_9 {p : Prop} (h : p := by repeat (first | (with_reducible first | exact HI0.out | apply IsS56.alloc | apply IsS56.drewN | apply IsS56.drew | apply IsS56.set_1 | apply IsS56.set_2 | refine IsS56.far ?_ HN0_go16.out _ | refine IsS56.far ?_ NB0_227.out _ | refine IsS56.far ?_ NB0_236.out _) | exact HI0.out)) : p := h
theorem zB4_10 {p : Prop} (h : p := by repeat (first | (with_reducible first | exact HK.out | apply KeepBut.set_ | apply keep_drewN | apply keep_drew | apply keep_alloc | refine keep_far ?_ GB16.out _ | refine keep_far ?_ GW227.out _ | refine keep_far ?_ GW236.out _) | exact HK.out)) : p := h
theorem zB4_11 {p : Prop} (h : p := by repeat (first | (with_reducible first | exact HB.out | apply below_alloc | apply pw_below_drewN | apply below_drew1 | refine below_set ?_ (Nat.le_trans HL.out GB16.out) | refine below_set ?_ (IsS56.ge HI0.out) | refine below_set ?_ GE227.out | refine below_set ?_ GE236.out) | exact HB.out)) : p := h
theorem zB4_12 {p : Prop} (h : p := by repeat (first | (with_reducible first | exact HI0.out | apply IsS56.alloc | apply IsS56.drewN | apply IsS56.drew | apply IsS56.set_1 | apply IsS56.set_2 | refine IsS56.far ?_ HN0_go37.out _ | refine IsS56.far ?_ NB0_227.out _ | refine IsS56.far ?_ NB0_236.out _) | exact HI0.out)) : p := h
theorem zB4_13 {p : Prop} (h : p := by repeat (first | (with_reducible first | exact HK.out | apply KeepBut.set_ | apply keep_drewN | apply keep_drew | apply keep_alloc | refine keep_far ?_ GB37.out _ | refine keep_far ?_ GW227.out _ | refine keep_far ?_ GW236.out _) | exact HK.out)) : p := h
theorem zB4_14 {p : Prop} (h : p := by repeat (first | (with_reducible first | exact HB.out | apply below_alloc | apply pw_below_drewN | apply below_drew1 | refine below_set ?_ (Nat.le_trans HL.out GB37.out) | refine below_set ?_ (IsS56.ge HI0.out) | refine below_set ?_ GE227.out | refine below_set ?_ GE236.out) | exact HB.out)) : p := h
theorem zB4_15 {p : Prop} (h : p := by repeat (first | (with_reducible first | exact HB.out | apply below_alloc | apply pw_below_drewN | apply below_drew1) | exact HB.out)) : p := h
theorem zB4_16 {p : Prop} (h : p := by repeat (first | (with_reducible first | exact HB.out | apply below_alloc | apply pw_below_drewN | apply below_drew1 | refine below_set ?_ GE265.out) | exact HB.out)) : p := h

/-! ### spec_l9DrawHart: function 29 -/
def spec_l9DrawHart.l0 : Nat → Int → List Int → Int → Int → List Int → Int → Int → Option (List Int × Int × Int × Int × Int)
 | 0, _, _, _, _, _, _, _ => none
 | k + 1, x4, x1000, x1001, x1002, x237000, x237001, x237002 => if x4 < 4 then ((spec_l1PickInt.f x1000 x1001 x1002 (([0, 1, 2, 20, 65535] : List Int))).bind fun bt240 => (if 0 ≤ x4 then (if x4 < (x237000.length : Int) then (spec_l9DrawHart.l0 k (wrap64 (x4 + 1)) x1000 bt240.2.1 bt240.2.2 (x237000.set (x4 : Int).toNat bt240.1) x237001 x237002) else (none)) else (none))) else ((spec_l1Below.f x1000 x1001 x1002 12).bind fun bt244 => (if bt244.1 = 0 then ((spec_l1Below.f x1000 bt244.2.1 bt244.2.2 5).bind fun bt247 => (some (x237000, x237001, wrap64 (bt247.1 - 1), bt247.2.1, bt247.2.2))) else (if bt244.1 = 1 then ((spec_l1PickInt.f x1000 bt244.2.1 bt244.2.2 (([(-1), 65536] : List Int))).bind fun bt253 => (if 0 < (x237000.length : Int) then (some ((x237000.set (0 : Int).toNat bt253.1), x237001, x237002, bt253.2.1, bt253.2.2)) else (none))) else (if bt244.1 = 2 then ((spec_l1PickInt.f x1000 bt244.2.1 bt244.2.2 (([(-1), 24] : List Int))).bind fun bt260 => (some (x237000, bt260.1, x237002, bt260.2.1, bt260.2.2))) else (if bt244.1 = 3 then (if (x237000.length : Int) = 4 then (some ((x237000.drop (1 : Int).toNat), x237001, x237002, bt244.2.1, bt244.2.2)) else (none)) else (some (x237000, x237001, x237002, bt244.2.1, bt244.2.2)))))))
def spec_l9DrawHart.f (k : Nat) (s0_0 : List Int) (s0_1 : Int) (s0_2 : Int) : Option (List Int × Int × Int × Int × Int) := (spec_l1Below.f s0_0 s0_1 s0_2 20).bind fun bt228 => ((spec_HartNew.f bt228.1).bind fun bt231 => (spec_l9DrawHart.l0 k 0 s0_0 bt228.2.1 bt228.2.2 bt231.1 bt231.2.1 bt231.2.2))
theorem spec_l9DrawHart.mono_l : ∀ k, (∀ y0 y1 y2 y3 y4 y5 y6, LeO (spec_l9DrawHart.l0 k y0 y1 y2 y3 y4 y5 y6) (spec_l9DrawHart.l0 (k + 1) y0 y1 y2 y3 y4 y5 y6))
 | 0 => fun _ _ _ _ _ _ _ r h => by simp [spec_l9DrawHart.l0] at h
 | k + 1 => by
  have ih0 := spec_l9DrawHart.mono_l k
  ·intro y0 y1 y2 y3 y4 y5 y6
   unfold spec_l9DrawHart.l0
   repeat' first
   | (with_reducible exact ih0 _ _ _ _ _ _ _)
   | (with_reducible exact LeO.refl _)
   | (with_reducible exact LeO.none _)
   | (with_reducible refine LeO.ite ?_ ?_)
   | (with_reducible refine LeO.bind ?_ (fun _ => ?_))
   | exact ih0 _ _ _ _ _ _ _
   | exact LeO.none _
   | refine LeO.ite ?_ ?_
   | refine LeO.bind ?_ (fun _ => ?_)
theorem spec_l9DrawHart.mono : ∀ a0 a1 a2 k, LeO (spec_l9DrawHart.f k a0 a1 a2) (spec_l9DrawHart.f (k + 1) a0 a1 a2) := by
 intro a0 a1 a2 k
 have ih0 := spec_l9DrawHart.mono_l k
 unfold spec_l9DrawHart.f
 repeat' first
   | (with_reducible exact ih0 _ _ _ _ _ _ _)
   | (with_reducible exact LeO.refl _)
   | (with_reducible exact LeO.none _)
   | (with_reducible refine LeO.ite ?_ ?_)
   | (with_reducible refine LeO.bind ?_ (fun _ => ?_))
   | exact ih0 _ _ _ _ _ _ _
   | exact LeO.none _
   | refine LeO.ite ?_ ?_
   | refine LeO.bind ?_ (fun _ => ?_)
def spec_l9DrawHart.T5 : Bool × List (List Nat × List Nat) := (true, [([], []), ([0], [0]), ([], []), ([], []), ([], []), ([3, 4], [3, 4]), ([1, 2, 0, 1, 2, 3, 4, 5], [1, 2]), ([6, 5, 5, 0, 1, 2, 3, 4, 5], [5, 6])])
def spec_l9DrawHart.B5 : List Nat := [0, 1, 0, 0, 0, 24, 63, 127]
theorem spec_l9DrawHart.tab5 : rtab .any (opsOf Try.f29 5) = spec_l9DrawHart.T5 := by kernel_rfl
theorem spec_l9DrawHart.bits5 : waitsOk spec_l9DrawHart.T5.2 spec_l9DrawHart.B5 = true := by kernel_rfl
theorem QR_of {e b : Nat} {ok : Nat → Prop} {W : World} {v : Value} {xs : List Int} (h : Kd.R (Kd.int .i64) e W b ok v xs) : Kd.Q (Kd.int .i64) e W b ok v xs ∧ (xs.length = 4 → Kd.R (Kd.int .i64) e W b ok v xs) := ⟨Kd.Q_of_R h, fun _ => h⟩
set_option maxHeartbeats 8000000 in
set_option maxRecDepth 100000 in
theorem spec_l9DrawHart.calls (k : Nat) (g : Nat) (s0_0 : List Int) (s0_1 : Int) (s0_2 : Int) (r1 : List Int) (r2 : Int) (r3 : Int) (r4 : Int) (r5 : Int) (w0 w : World) (hI : IsS56 w0 w g s0_0 s0_1 s0_2) (hB : Below w0.heap.size w0 w) (h : spec_l9DrawHart.f k s0_0 s0_1 s0_2 = some (r1, r2, r3, r4, r5)) :
  Calls Try.prog 29 #[.pointer (some ⟨g, 0, none⟩)] w fun e w' => ∃ v0_ : Value, e = .returned (.agg #[v0_, .int .i64 r2, .int .i64 r3]) ∧ (Kd.Q (Kd.int .i64) 3 w' w.heap.size (fun _ => True) v0_ r1 ∧ (r1.length = 4 → Kd.R (Kd.int .i64) 3 w' w.heap.size (fun _ => True) v0_ r1)) ∧ IsS56 w0 w' g s0_0 r4 r5 ∧ Below w0.heap.size w0 w' ∧ KeepBut w w' g none := by
 have hu29 := Try.underlying29
 have HI0 := Aside0.mk hI
 have HK := Aside0.mk (KeepBut.refl w g none)
 have HL := Aside0.mk hB.size
 clear hI
 have HW0 := Aside0.mk hB.size
 have HB := Aside0.mk hB
 clear hB
 have H : ((spec_l1Below.f s0_0 s0_1 s0_2 20).bind fun bt228 => ((spec_HartNew.f bt228.1).bind fun bt231 => (spec_l9DrawHart.l0 k 0 s0_0 bt228.2.1 bt228.2.2 bt231.1 bt231.2.1 bt231.2.2))) = some (r1, r2, r3, r4, r5) := h
 clear h
 replace H := Option.bind_eq_some_iff.mp H
 obtain ⟨⟨t228, t229, t230⟩, A20, H⟩ := H
 replace H : ((spec_HartNew.f t228).bind fun bt231 => (spec_l9DrawHart.l0 k 0 s0_0 t229 t230 bt231.1 bt231.2.1 bt231.2.2)) = some (r1, r2, r3, r4, r5) := H
 have A2 := Aside0.mk A20
 clear A20
 replace H := Option.bind_eq_some_iff.mp H
 obtain ⟨⟨t231, t234, t235⟩, A30, H⟩ := H
 replace H : (spec_l9DrawHart.l0 k 0 s0_0 t229 t230 t231 t234 t235) = some (r1, r2, r3, r4, r5) := H
 have A3 := Aside0.mk A30
 clear A30
 have H' := Aside0.mk H
 clear H
 go_enter Try.func29, Try.ntmps29
 go_wp2_with (first | ((with_reducible refine gate_dst (N := 2) rfl ?_); refine box_event ?hg (N := 2) ?hd (cs := #[.slice none 0 0, .int .i64 0, .int .i64 0]) (t := 29) ?hr ?_; (case hd => rfl); (case hg => rfl); (case hr => first | (go_simp; done) | (go_simp; rfl)); intro gb227 hg w4 hbox hb; have n0_ := Aside0.mk (IsS56.below (zB4_0) hb); have n1_ := Aside0.mk (KeepBut.trans (zB4_1) (KeepBut.of_below hb g none) (.inl rfl)); have n2_ := Aside0.mk (below_step (zB4_2) hb); have n3_ := Aside0.mk (hbox); have n4_ := Aside0.mk ((by rw [hg]; exact (keep_size (w := w) (g := g) (row := none) (zB4_1)) : w.heap.size ≤ gb227)); have n5_ := Aside0.mk ((Nat.le_trans HW0.out (by rw [hg]; exact (keep_size (w := w) (g := g) (row := none) (zB4_1)) : w.heap.size ≤ gb227) : w0.heap.size ≤ gb227)); have n6_ := Aside0.mk ((by rw [hg]; exact Nat.ne_of_lt (IsS56.lt (show IsS56 w0 _ g s0_0 s0_1 s0_2 from zB4_0)) : g ≠ gb227)); have n7_ := Aside0.mk ((by rw [hg]; exact Nat.ne_of_gt (IsS56.lt (show IsS56 w0 _ g s0_0 s0_1 s0_2 from zB4_0)) : gb227 ≠ g)); clear HI0; clear HK; clear HB; have HI0 := n0_; have HK := n1_; have HB := n2_; have BK227 := n3_; have GW227 := n4_; have GE227 := n5_; have NB0_227 := n6_; have NB227_0 := n7_; clear n0_ n1_ n2_ n3_ n4_ n5_ n6_ n7_; clear hb hbox hg) | ((with_reducible refine gate_callee (f := 28) rfl ?_); refine goesL_ (some 6) rfl rfl Try.func28 (by kernel_rfl) rfl #[.pointer (some ⟨g, 0, none⟩), .int .i64 20] rfl zT4 ?_; (with_reducible refine (spec_l1Below.calls g s0_0 s0_1 s0_2 20 t228 t229 t230 w0 _ ?side1 ?side2 A2.out).mono ?_); (case side1 => exact zB4_3); (case side2 => exact zB4_4); rintro e w5 ⟨rfl, hi, hb, hk⟩; refine ⟨_, rfl, ?_⟩; have n0_ := Aside0.mk (zh4 hk BK227.out NB227_0.out); have n1_ := Aside0.mk (KeepBut.trans (zB4_5) hk (.inl rfl)); have n2_ := Aside0.mk (hb); have n3_ := Aside0.mk (hi); clear BK227; clear HK; clear HB; clear HI0; have BK227 := n0_; have HK := n1_; have HB := n2_; have HI0 := n3_; clear n0_ n1_ n2_ n3_; (try clear hb); (try clear hb2); (try clear hk); (try clear hi)) | ((with_reducible refine gate_callee (f := 31) rfl ?_); refine goesL_ (some 7) rfl rfl Try.func31 (by kernel_rfl) rfl #[.int .i64 t228] rfl zT4 ?_; (with_reducible refine (spec_HartNew.calls t228 t231 t234 t235 _ A3.out).mono ?_); rintro e w6 ⟨v232, rfl, ho0, hb⟩; refine ⟨_, rfl, ?_⟩; have n0_ := Aside0.mk (Kd.R_lower ho0 (keep_size (w := w) (g := g) (row := none) (zB4_5))); have n1_ := Aside0.mk (IsS56.below (zB4_3) hb); have n2_ := Aside0.mk (zb4 BK227.out hb); have n3_ := Aside0.mk (KeepBut.trans (zB4_5) (KeepBut.of_below hb g none) (.inl rfl)); have n4_ := Aside0.mk (below_step (zB4_4) hb); clear HI0; clear BK227; clear HK; clear HB; have HO233 := n0_; have HI0 := n1_; have BK227 := n2_; have HK := n3_; have HB := n4_; clear n0_ n1_ n2_ n3_ n4_; (try clear hb); (try clear hb2); (try clear hk); (try clear hi); (try clear ho0)) | ((with_reducible refine gate_dst (N := 3) rfl ?_); refine box_event ?hg (N := 3) ?hd (cs := #[.slice none 0 0, .int .i64 0, .int .i64 0]) (t := 29) ?hr ?_; (case hd => rfl); (case hg => rfl); (case hr => first | (go_simp; done) | (go_simp; rfl)); intro gb236 hg w7 hbox hb; have n0_ := Aside0.mk (Kd.R_below (zR4 HO233.out) hb); have n1_ := Aside0.mk (IsS56.below (zB4_3) hb); have n2_ := Aside0.mk (zb4 BK227.out hb); have n3_ := Aside0.mk (KeepBut.trans (zB4_5) (KeepBut.of_below hb g none) (.inl rfl)); have n4_ := Aside0.mk (below_step (zB4_4) hb); have n5_ := Aside0.mk (hbox); have n6_ := Aside0.mk ((by rw [hg]; exact (keep_size (w := w) (g := g) (row := none) (zB4_5)) : w.heap.size ≤ gb236)); have n7_ := Aside0.mk ((Nat.le_trans HW0.out (by rw [hg]; exact (keep_size (w := w) (g := g) (row := none) (zB4_5)) : w.heap.size ≤ gb236) : w0.heap.size ≤ gb236)); have n8_ := Aside0.mk ((zn4 BK227.out hg : gb227 ≠ gb236)); have n9_ := Aside0.mk ((zm4 BK227.out hg : gb236 ≠ gb227)); have n10_ := Aside0.mk ((by rw [hg]; exact Nat.ne_of_lt (IsS56.lt (show IsS56 w0 _ g s0_0 t229 t230 from zB4_3)) : g ≠ gb236)); have n11_ := Aside0.mk ((by rw [hg]; exact Nat.ne_of_gt (IsS56.lt (show IsS56 w0 _ g s0_0 t229 t230 from zB4_3)) : gb236 ≠ g)); clear HO233; clear HI0; clear BK227; clear HK; clear HB; have HO233 := n0_; have HI0 := n1_; have BK227 := n2_; have HK := n3_; have HB := n4_; have BK236 := n5_; have GW236 := n6_; have GE236 := n7_; have NB227_236 := n8_; have NB236_227 := n9_; have NB0_236 := n10_; have NB236_0 := n11_; clear n0_ n1_ n2_ n3_ n4_ n5_ n6_ n7_ n8_ n9_ n10_ n11_; clear hb hbox hg; obtain ⟨Ao8, co8, eo8⟩ := Kd.R_slice HO233.out; subst eo8; have hnb9 := NB236_227.out; have hnc9 := NB227_236.out; have hnb10 := NB236_0.out; have hnc10 := NB0_236.out; obtain ⟨hcz11_0, hcz11_1, hcz11_2, hfz11_0, hfz11_1, hfz11_2⟩ := zc4_3 (w := w7) BK236.out))
 go_loopg [4] k (fun kq v4 w' => ∃ (x4_1 : Int) (x1001_1 : Int) (x1002_1 : Int) (x237000_1 : List Int) (u237000 : Value), v4 = .int .i64 x4_1 ∧ Aside0 (spec_l9DrawHart.l0 kq x4_1 s0_0 x1001_1 x1002_1 x237000_1 t234 t235 = some (r1, r2, r3, r4, r5)) ∧ Aside0 (kq ≤ k) ∧ Aside0 (Kd.R (Kd.int .i64) 3 w' w.heap.size (fun _ => True) u237000 x237000_1) ∧ Aside0 (w'.heap[gb227]? = some (.cells #[(.slice none 0 0), .int .i64 0, .int .i64 0] 29 (0, 0))) ∧ Aside0 (w'.heap[gb236]? = some (.cells #[u237000, .int .i64 t234, .int .i64 t235] 29 (0, 0))) ∧ Aside0 (IsS56 w0 w' g s0_0 x1001_1 x1002_1) ∧ Aside0 (KeepBut w w' g none) ∧ Aside0 (Below w0.heap.size w0 w'))
 case atStart => exact ⟨(0), (t229), (t230), (t231), (.slice Ao8 t231.length co8), (by first | rfl | (simp; done) | (simp [*]; done)), H', ⟨Nat.le_refl _⟩, ⟨by (with_reducible repeat (first | apply Kd.R_alloc | apply Kd.R_drewN | apply Kd.R_drew)); exact Kd.R_mono (Kd.R_far (p := ⟨gb236, 2, none⟩) (Kd.R_far (p := ⟨gb236, 1, none⟩) (Kd.R_far (p := ⟨gb236, 0, none⟩) (Kd.R_types HO233.out BK236.out (by decide)) (fun _ hk => hk.2) (.slice Ao8 t231.length co8)) (fun _ hk => hk.2) (.int .i64 t234)) (fun _ hk => hk.2) (.int .i64 t235)) (fun _ hk => trivial)⟩, ⟨by refine zP4 ?_; refine blk_far ?_ NB227_236.out _; refine zP4 ?_; refine blk_far ?_ NB227_236.out _; refine zP4 ?_; refine blk_far ?_ NB227_236.out _; refine zP4 ?_; exact BK227.out⟩, ⟨by refine zP4 ?_; refine blk_put (cs := #[.slice Ao8 t231.length co8, .int .i64 t234, .int .i64 0]) ?_ 2 _ rfl; refine zP4 ?_; refine blk_put (cs := #[.slice Ao8 t231.length co8, .int .i64 0, .int .i64 0]) ?_ 1 _ rfl; refine zP4 ?_; refine blk_put (cs := #[.slice none 0 0, .int .i64 0, .int .i64 0]) ?_ 0 _ rfl; refine zP4 ?_; exact BK236.out⟩, ⟨zB4_6⟩, ⟨zB4_7⟩, ⟨zB4_8⟩⟩
 case round =>
  clear H'
  try clear c1
  try clear c2
  try clear p2
  try clear c3
  try clear c9
  try clear c10
  try clear hcz11_0
  try clear hcz11_1
  try clear hcz11_2
  try clear hfz11_0
  try clear hfz11_1
  try clear hfz11_2
  obtain ⟨x4_1, x1001_1, x1002_1, x237000_1, u237000, rfl, HA, HK1, HO_237000, BK227, BK236, HI0, HK, HB⟩ := hrel
  cases gk with
  | zero => exact absurd HA.out (by simp [spec_l9DrawHart.l0])
  | succ k1 =>
   have H := HA.out
   clear HA
   simp only [spec_l9DrawHart.l0] at H
   by_cases c12 : x4_1 < 4
   ·rw [if_pos c12] at H
    have c12b0 : decide (x4_1 < 4) = true := decide_eq_true c12
    clear c12
    obtain ⟨y237, hy237⟩ : ∃ y_ : List Int, y_ = (([0, 1, 2, 20, 65535] : List Int)) := ⟨_, rfl⟩
    replace H : ((spec_l1PickInt.f s0_0 x1001_1 x1002_1 y237).bind fun bt240 => (if 0 ≤ x4_1 then (if x4_1 < (x237000_1.length : Int) then (spec_l9DrawHart.l0 k1 (wrap64 (x4_1 + 1)) s0_0 bt240.2.1 bt240.2.2 (x237000_1.set (x4_1 : Int).toNat bt240.1) t234 t235) else (none)) else (none))) = some (r1, r2, r3, r4, r5) := by first | (rw [hy237]; with_reducible exact H) | (have H2_ := (Option.bind_some _ _).symm.trans H; rw [hy237]; with_reducible exact H2_) | (have H2_ := (Option.bind_some _ _).symm.trans H; with_reducible exact H2_) | with_reducible exact H | (rw [hy237]; exact H) | exact H
    have Ny237 := Aside0.mk hy237
    clear hy237
    replace H := Option.bind_eq_some_iff.mp H
    obtain ⟨⟨t240, t241, t242⟩, A130, H⟩ := H
    replace H : (if 0 ≤ x4_1 then (if x4_1 < (x237000_1.length : Int) then (spec_l9DrawHart.l0 k1 (wrap64 (x4_1 + 1)) s0_0 t241 t242 (x237000_1.set (x4_1 : Int).toNat t240) t234 t235) else (none)) else (none)) = some (r1, r2, r3, r4, r5) := H
    have A13 := Aside0.mk A130
    clear A130
    by_cases c14 : 0 ≤ x4_1
    rotate_left
    ·rw [if_neg c14] at H
     exact absurd H (by simp)
    rw [if_pos c14] at H
    have c14b0 : decide (0 ≤ x4_1) = true := decide_eq_true c14
    clear c14
    by_cases c15 : x4_1 < (x237000_1.length : Int)
    rotate_left
    ·rw [if_neg c15] at H
     exact absurd H (by simp)
    rw [if_pos c15] at H
    have c15b0 : decide (x4_1 < (x237000_1.length : Int)) = true := decide_eq_true c15
    clear c15
    obtain ⟨y243, hy243⟩ : ∃ y_ : List Int, y_ = (x237000_1.set (x4_1 : Int).toNat t240) := ⟨_, rfl⟩
    replace H : (spec_l9DrawHart.l0 k1 (wrap64 (x4_1 + 1)) s0_0 t241 t242 y243 t234 t235) = some (r1, r2, r3, r4, r5) := by first | (rw [hy243]; with_reducible exact H) | (have H2_ := (Option.bind_some _ _).symm.trans H; rw [hy243]; with_reducible exact H2_) | (have H2_ := (Option.bind_some _ _).symm.trans H; with_reducible exact H2_) | with_reducible exact H | (rw [hy243]; exact H) | exact H
    have Ny243 := Aside0.mk hy243
    clear hy243
    have H' := Aside0.mk H
    clear H
    try go_wp2
    have n0_ := Aside0.mk (Kd.R_drew HO_237000.out)
    have n1_ := Aside0.mk (blk_drew BK227.out)
    have n2_ := Aside0.mk (blk_drew BK236.out)
    have n3_ := Aside0.mk (IsS56.drew HI0.out)
    have n4_ := Aside0.mk (keep_drew HK.out)
    have n5_ := Aside0.mk (below_drew1 HB.out)
    clear HO_237000 BK227 BK236 HI0 HK HB
    have HO_237000 := n0_
    have BK227 := n1_
    have BK236 := n2_
    have HI0 := n3_
    have HK := n4_
    have HB := n5_
    clear n0_ n1_ n2_ n3_ n4_ n5_
    refine start_ (n := 8) (S := fun w' => w'.cell? ⟨gb236, 0, none⟩ = some (u237000) ∧ w'.cell? ⟨gb236, 1, none⟩ = some (.int .i64 t234) ∧ w'.cell? ⟨gb236, 2, none⟩ = some (.int .i64 t235)) (ds := [7]) #[false, false, false, false, false, false, false, false] (by kernel_rfl) rfl rfl ⟨(blk_cell BK236.out 0).trans rfl, (blk_cell BK236.out 1).trans rfl, (blk_cell BK236.out 2).trans rfl⟩ (fun hHeld => ?_); refine with_tabW spec_l9DrawHart.tab5 spec_l9DrawHart.bits5 (fun HT_ HW_ => ?_)
    generalize wr.drew = w17 at HO_237000 BK227 BK236 HI0 HK HB hHeld ⊢
    refine pure_ (i := 0) (N := some 12) (v := ?_) (a' := ?_) #[true, false, false, false, false, false, false, false] rfl rfl (any_of HT_.out (by kernel_rfl)) (fun _ _ _ h => h) (Or.inl ⟨by rfl, ?_⟩) ?_ ?_
    rotate_left
    ·intro w'
     go_simp
     with_reducible rfl
    rotate_left
    ·exact zV4
    refine pure_ (i := 2) (N := some 14) (v := ?_) (a' := ?_) #[true, false, true, false, false, false, false, false] rfl rfl (any_of HT_.out (by kernel_rfl)) (fun _ _ _ h => h) (Or.inl ⟨by rfl, ?_⟩) ?_ ?_
    rotate_left
    ·intro w'
     go_simp
     with_reducible rfl
    rotate_left
    ·exact zV4
    refine pure_ (i := 3) (N := some 15) (v := ?_) (a' := ?_) #[true, false, true, true, false, false, false, false] rfl rfl (any_of HT_.out (by kernel_rfl)) (fun _ _ _ h => h) (Or.inl ⟨by rfl, ?_⟩) ?_ ?_
    rotate_left
    ·intro w'
     go_simp
     with_reducible rfl
    rotate_left
    ·exact zV4
    refine take_ (i := 1) (N := some 13) (v := ?_) (a' := ?_) #[true, true, true, true, false, false, false, false] rfl rfl (take_ofW HT_.out HW_.out (by kernel_rfl)) (fun _ _ _ h => h) (Or.inl ⟨by rfl, ?_⟩) hHeld ?_ ?_
    rotate_left
    ·rintro w' ⟨s0, s1, s2⟩
     go_simp
     with_reducible rfl
    rotate_left
    ·exact zV4
    refine one_ (i := 4) (N := some 16) #[true, true, true, true, true, false, false, false] rfl rfl (one_of HT_.out (by kernel_rfl)) (by decide) (fun K hK => ?_)
    refine Kd.R_lit_step (Kd.int .i64) _ 3 ?hg (N := 16) ?hd (xs := ([0, 1, 2, 20, 65535] : List Int)) (inner := [.int .i64 0, .int .i64 1, .int .i64 2, .int .i64 20, .int .i64 65535]) (ok := fun _ => True) (okp := fun _ => True) ?hr ?hp (fun _ hk => hk) trivial (Below.refl _ _) (Nat.le_refl _) (by simp) ?_; (case hd => rfl); (case hg => rfl); (case hr => first | (go_simp; done) | (go_simp; rfl)); (case hp => exact (Reps.one (show Kd.M (Kd.int .i64) _ _ _ 0 [.int .i64 0] from rfl) (Reps.one (show Kd.M (Kd.int .i64) _ _ _ 1 [.int .i64 1] from rfl) (Reps.one (show Kd.M (Kd.int .i64) _ _ _ 2 [.int .i64 2] from rfl) (Reps.one (show Kd.M (Kd.int .i64) _ _ _ 20 [.int .i64 20] from rfl) (Reps.one (show Kd.M (Kd.int .i64) _ _ _ 65535 [.int .i64 65535] from rfl) (Reps.none _ _)))))))
    intro v238 w18 ho19 hb hg_ hnew_
    clear hg_ hnew_
    (first | rw [← Ny237.out] at ho19 | (simp only [Int.reduceToNat] at ho19; rw [← Ny237.out] at ho19))
    have n0_ := Aside0.mk (Kd.R_elder' (zR4 HO_237000.out) (Kd.R_base ho19) hb)
    have n1_ := Aside0.mk (Kd.R_lower (Kd.R_new' ho19 (Kd.R_lt (zR4 HO_237000.out))) (keep_size (w := w) (g := g) (row := none) (zB4_7)))
    have n2_ := Aside0.mk (zb4 BK227.out hb)
    have n3_ := Aside0.mk (zb4 BK236.out hb)
    have n4_ := Aside0.mk (IsS56.below (zB4_6) hb)
    have n5_ := Aside0.mk (KeepBut.trans (zB4_7) (KeepBut.of_below hb g none) (.inl rfl))
    have n6_ := Aside0.mk (below_step (zB4_8) hb)
    clear HO_237000 BK227 BK236 HI0 HK HB
    have HO_237000 := n0_
    have HO239 := n1_
    have BK227 := n2_
    have BK236 := n3_
    have HI0 := n4_
    have HK := n5_
    have HB := n6_
    clear n0_ n1_ n2_ n3_ n4_ n5_ n6_ hb ho19
    obtain ⟨Ao20, co20, eo20⟩ := Kd.R_slice HO239.out
    (first | subst eo20 | (injection eo20 with f1_ f2_ f3_; have f4_ := f1_.symm; have f5_ := f3_.symm; clear f1_ f2_ f3_; subst f4_; subst f5_))
    refine hK.out _ _ ⟨(blk_cell BK236.out 0).trans rfl, (blk_cell BK236.out 1).trans rfl, (blk_cell BK236.out 2).trans rfl⟩ (fun hHeld => ?_)
    clear hK K
    refine norm_ (a' := ?_) ?_ ?_
    rotate_left
    ·show Act.put _ (some 16) _ = _
     simp only [Act.put, List.setIfInBounds_toArray, List.set_cons_zero, List.set_cons_succ, i64_w, i32_w]
     rfl
    refine one_ (i := 5) (N := some 17) #[true, true, true, true, true, true, false, false] rfl rfl (one_of HT_.out (by kernel_rfl)) (by decide) (fun K hK => ?_)
    refine goes_ Try.func46 (by kernel_rfl) rfl #[.pointer (some ⟨g, 0, none⟩), .slice Ao20 y237.length co20] (by rfl) rfl rfl zT4 ?_
    with_reducible refine (spec_l1PickInt.calls g s0_0 x1001_1 x1002_1 _ _ y237 t240 t241 t242 w0 _ ?side1 ?side2 ?side3 ?side4 ?side5 A13.out).mono ?_
    (case side1 => exact zB4_6)
    (case side2 => exact zB4_8)
    (case side3 => exact zC4 (Kd.R_reads' HO239.out).2.2)
    (case side4 => exact (Kd.R_reads' HO239.out).2.1)
    (case side5 => exact far_slice (IsS56.own_ne HI0.out HO239.out (by decide)))
    rintro e w21 ⟨rfl, hi, hb, hk⟩
    refine ⟨_, rfl, ?_⟩
    have n0_ := Aside0.mk (Kd.R_mono (Kd.R_keep (IsS56.apart (show IsS56 w0 _ g s0_0 x1001_1 x1002_1 from zB4_6) (zR4 HO_237000.out) (by decide)) hk (fun _ h => h.2)) (fun _ h => h.1))
    have n1_ := Aside0.mk (zh4 hk BK227.out NB227_0.out)
    have n2_ := Aside0.mk (zh4 hk BK236.out NB236_0.out)
    have n3_ := Aside0.mk (Kd.R_mono (Kd.R_keep (IsS56.apart (show IsS56 w0 _ g s0_0 x1001_1 x1002_1 from zB4_6) (zR4 HO239.out) (by decide)) hk (fun _ h => h.2)) (fun _ h => h.1))
    have n4_ := Aside0.mk (KeepBut.trans (zB4_7) hk (.inl rfl))
    have n5_ := Aside0.mk (hb)
    have n6_ := Aside0.mk (hi)
    clear HO_237000 BK227 BK236 HO239 HK HB HI0
    have HO_237000 := n0_
    have BK227 := n1_
    have BK236 := n2_
    have HO239 := n3_
    have HK := n4_
    have HB := n5_
    have HI0 := n6_
    clear n0_ n1_ n2_ n3_ n4_ n5_ n6_
    (try clear hb)
    (try clear hb2)
    (try clear hk)
    (try clear hi)
    have p16 : 0 ≤ (x4_1 : Int) := zA4
    have q16 : (x4_1 : Int) < ((x237000_1.length : Int) : Int) := zA4
    obtain ⟨go16, co16, eo16, gb16, gl16, cl16, HG16⟩ := Kd.R_form HO_237000.out (by omega)
    (first | cases eo16 | (injection eo16 with ea_ en_ ec_; (first | subst ea_ | (injection ea_ with ea_; subst ea_)); subst ec_; clear en_))
    have GB16 := Aside0.mk gb16
    have GG16 := Aside0.mk HG16
    clear gb16 gl16 HG16
    obtain ⟨hx16_0, hf16_0⟩ := Kd.R_celln 0 HO_237000.out (x4_1 : Int) p16 q16
    replace p16 := eq_true p16
    replace q16 := eq_true q16
    have HN0_go16 := Aside0.mk (show g ≠ go16 from by have h_ := IsS56.own_ne HI0.out HO_237000.out (by decide); intro e_; exact h_ (by rw [e_]; rfl))
    have HP22 := Kd.R_putn HO_237000.out (x4_1 : Int) t240
    rw [← Ny243.out] at HP22
    have HQ22 := Aside0.mk HP22
    clear HP22
    refine hK.out _ _ ⟨(blk_cell BK236.out 0).trans rfl, (blk_cell BK236.out 1).trans rfl, (blk_cell BK236.out 2).trans rfl⟩ (fun hHeld => ?_)
    clear hK K
    refine norm_ (a' := ?_) ?_ ?_
    rotate_left
    ·show Act.put _ (some 17) _ = _
     simp only [Act.put, List.setIfInBounds_toArray, List.set_cons_zero, List.set_cons_succ, i64_w, i32_w]
     rfl
    refine pure_ (i := 6) (N := some 18) (v := ?_) (a' := ?_) #[true, true, true, true, true, true, true, false] rfl rfl (any_of HT_.out (by kernel_rfl)) (fun _ _ _ h => h) (Or.inl ⟨by rfl, ?_⟩) ?_ ?_
    rotate_left
    ·intro w'
     go_simp
     with_reducible rfl
    rotate_left
    ·exact zV4
    refine last_ (i := 7) (N := none) #[true, true, true, true, true, true, true, true] rfl rfl (one_of HT_.out (by kernel_rfl)) (by decide) (fun K hK => ?_)
    refine skip_ (w1 := ?_) (by rfl) rfl ?_ ?_
    rotate_left
    ·go_simp
     rfl
    refine hK.out _ _ ?_
    clear hK K
    refine done_ (done_of HT_.out (by kernel_rfl)) ?_
    try go_wp2
    go_roundg k1
    case measure => have := HK1.out; omega
    case rel => exact ⟨(wrap64 (x4_1 + 1)), (t241), (t242), (y243), (.slice (some ⟨go16, 0, none⟩) x237000_1.length co16), (by first | rfl | (simp; done) | (simp [*]; done)), H', ⟨by have := HK1.out; omega⟩, ⟨by (with_reducible repeat (first | apply Kd.R_alloc | apply Kd.R_drewN | apply Kd.R_drew)); exact Kd.R_mono HQ22.out (fun _ hk => trivial)⟩, ⟨by refine zP4 ?_; refine blk_far ?_ (by have h_ := Kd.R_ne HO_237000.out BK227.out (by decide); intro e_; exact h_ (by rw [e_]; rfl)) _; refine zP4 ?_; exact BK227.out⟩, ⟨by refine zP4 ?_; refine blk_far ?_ (by have h_ := Kd.R_ne HO_237000.out BK236.out (by decide); intro e_; exact h_ (by rw [e_]; rfl)) _; refine zP4 ?_; exact BK236.out⟩, ⟨zB4_9⟩, ⟨zB4_10⟩, ⟨zB4_11⟩⟩
   rw [if_neg c12] at H
   have c12b0 : decide (x4_1 < 4) = false := decide_eq_false c12
   clear c12
   replace H := Option.bind_eq_some_iff.mp H
   obtain ⟨⟨t244, t245, t246⟩, A230, H⟩ := H
   replace H : (if t244 = 0 then ((spec_l1Below.f s0_0 t245 t246 5).bind fun bt247 => (some (x237000_1, t234, wrap64 (bt247.1 - 1), bt247.2.1, bt247.2.2))) else (if t244 = 1 then ((spec_l1PickInt.f s0_0 t245 t246 (([(-1), 65536] : List Int))).bind fun bt253 => (if 0 < (x237000_1.length : Int) then (some ((x237000_1.set (0 : Int).toNat bt253.1), t234, t235, bt253.2.1, bt253.2.2)) else (none))) else (if t244 = 2 then ((spec_l1PickInt.f s0_0 t245 t246 (([(-1), 24] : List Int))).bind fun bt260 => (some (x237000_1, bt260.1, t235, bt260.2.1, bt260.2.2))) else (if t244 = 3 then (if (x237000_1.length : Int) = 4 then (some ((x237000_1.drop (1 : Int).toNat), t234, t235, t245, t246)) else (none)) else (some (x237000_1, t234, t235, t245, t246)))))) = some (r1, r2, r3, r4, r5) := H
   have A23 := Aside0.mk A230
   clear A230
   by_cases c24 : t244 = 0
   ·rw [if_pos c24] at H
    have c24b0 : (t244 == 0) = true := beq_iff_eq.mpr c24
    have c24b1 : (t244 != 0) = false := bne_eq_false_iff_eq.mpr c24
    clear c24
    replace H := Option.bind_eq_some_iff.mp H
    obtain ⟨⟨t247, t248, t249⟩, A250, H⟩ := H
    replace H : (some (x237000_1, t234, wrap64 (t247 - 1), t248, t249)) = some (r1, r2, r3, r4, r5) := H
    have A25 := Aside0.mk A250
    clear A250
    simp only [Option.some.injEq, Prod.mk.injEq] at H
    obtain ⟨rfl, rfl, rfl, rfl, rfl⟩ := H
    go_wp2_with (first | ((with_reducible refine gate_callee (f := 28) rfl ?_); refine goesL_ (some 20) rfl rfl Try.func28 (by kernel_rfl) rfl #[.pointer (some ⟨g, 0, none⟩), .int .i64 12] rfl zT4 ?_; (with_reducible refine (spec_l1Below.calls g s0_0 x1001_1 x1002_1 12 t244 t245 t246 w0 _ ?side1 ?side2 A23.out).mono ?_); (case side1 => exact zB4_6); (case side2 => exact zB4_8); rintro e w26 ⟨rfl, hi, hb, hk⟩; refine ⟨_, rfl, ?_⟩; have n0_ := Aside0.mk (Kd.R_mono (Kd.R_keep (IsS56.apart (show IsS56 w0 _ g s0_0 x1001_1 x1002_1 from zB4_6) (zR4 HO_237000.out) (by decide)) hk (fun _ h => h.2)) (fun _ h => h.1)); have n1_ := Aside0.mk (zh4 hk BK227.out NB227_0.out); have n2_ := Aside0.mk (zh4 hk BK236.out NB236_0.out); have n3_ := Aside0.mk (KeepBut.trans (zB4_7) hk (.inl rfl)); have n4_ := Aside0.mk (hb); have n5_ := Aside0.mk (hi); clear HO_237000; clear BK227; clear BK236; clear HK; clear HB; clear HI0; have HO_237000 := n0_; have BK227 := n1_; have BK236 := n2_; have HK := n3_; have HB := n4_; have HI0 := n5_; clear n0_ n1_ n2_ n3_ n4_ n5_; (try clear hb); (try clear hb2); (try clear hk); (try clear hi)) | ((with_reducible refine gate_callee (f := 28) rfl ?_); refine goesL_ (some 24) rfl rfl Try.func28 (by kernel_rfl) rfl #[.pointer (some ⟨g, 0, none⟩), .int .i64 5] rfl zT4 ?_; (with_reducible refine (spec_l1Below.calls g s0_0 t245 t246 5 t247 t248 t249 w0 _ ?side1 ?side2 A25.out).mono ?_); (case side1 => exact zB4_6); (case side2 => exact zB4_8); rintro e w27 ⟨rfl, hi, hb, hk⟩; refine ⟨_, rfl, ?_⟩; have n0_ := Aside0.mk (Kd.R_mono (Kd.R_keep (IsS56.apart (show IsS56 w0 _ g s0_0 t245 t246 from zB4_6) (zR4 HO_237000.out) (by decide)) hk (fun _ h => h.2)) (fun _ h => h.1)); have n1_ := Aside0.mk (zh4 hk BK227.out NB227_0.out); have n2_ := Aside0.mk (zh4 hk BK236.out NB236_0.out); have n3_ := Aside0.mk (KeepBut.trans (zB4_7) hk (.inl rfl)); have n4_ := Aside0.mk (hb); have n5_ := Aside0.mk (hi); clear HO_237000; clear BK227; clear BK236; clear HK; clear HB; clear HI0; have HO_237000 := n0_; have BK227 := n1_; have BK236 := n2_; have HK := n3_; have HB := n4_; have HI0 := n5_; clear n0_ n1_ n2_ n3_ n4_ n5_; (try clear hb); (try clear hb2); (try clear hk); (try clear hi); have hnb28 := NB236_227.out; have hnc28 := NB227_236.out; have hnb29 := NB236_0.out; have hnc29 := NB0_236.out; obtain ⟨hcz30_0, hcz30_1, hcz30_2, hfz30_0, hfz30_1, hfz30_2⟩ := zc4_3 (w := w27) BK236.out; obtain ⟨Ao31, co31, eo31⟩ := Kd.R_slice HO_237000.out; subst eo31; have hnb32 := NB227_0.out; have hnc32 := NB0_227.out; obtain ⟨hcz33_0, hcz33_1, hcz33_2, hfz33_0, hfz33_1, hfz33_2⟩ := zc4_3 (w := w27) BK227.out))
    refine bodyPost_ret (results_cell_row rfl _ _ gb227 29 #[.slice Ao31 x237000_1.length co31, .int .i64 t234, .int .i64 (wrap64 (t247 - 1))] (0, 0) _ rfl (by refine zP4 ?_; refine blk_put (cs := #[.slice Ao31 x237000_1.length co31, .int .i64 t234, .int .i64 0]) ?_ 2 _ rfl; refine zP4 ?_; refine blk_put (cs := #[.slice Ao31 x237000_1.length co31, .int .i64 0, .int .i64 0]) ?_ 1 _ rfl; refine zP4 ?_; refine blk_put (cs := #[.slice none 0 0, .int .i64 0, .int .i64 0]) ?_ 0 _ rfl; refine zP4 ?_; refine blk_far ?_ NB227_236.out _; refine zP4 ?_; exact BK227.out) Try.underlying29 rfl (by kernel_rfl)) rfl ?_
    exact ⟨_, zE4, QR_of (by (with_reducible repeat (first | apply Kd.R_alloc | apply Kd.R_drewN | apply Kd.R_drew)); exact Kd.R_mono (Kd.R_far (p := ⟨gb227, 2, none⟩) (Kd.R_far (p := ⟨gb227, 1, none⟩) (Kd.R_far (p := ⟨gb227, 0, none⟩) (Kd.R_far (p := ⟨gb236, 2, none⟩) (Kd.R_types (Kd.R_types HO_237000.out BK236.out (by decide)) BK227.out (by decide)) (fun _ hk => hk.1.2) (.int .i64 (wrap64 (t247 - 1)))) (fun _ hk => hk.2) (.slice Ao31 x237000_1.length co31)) (fun _ hk => hk.2) (.int .i64 t234)) (fun _ hk => hk.2) (.int .i64 (wrap64 (t247 - 1)))) (fun _ hk => trivial)), zB4_6, zB4_8, zB4_7⟩
   rw [if_neg c24] at H
   have c24b0 : (t244 == 0) = false := beq_eq_false_iff_ne.mpr c24
   have c24b1 : (t244 != 0) = true := bne_iff_ne.mpr c24
   by_cases c34 : t244 = 1
   rotate_left
   ·rw [if_neg c34] at H
    have c34b0 : (t244 == 1) = false := beq_eq_false_iff_ne.mpr c34
    have c34b1 : (t244 != 1) = true := bne_iff_ne.mpr c34
    by_cases c51 : t244 = 2
    ·rw [if_pos c51] at H
     have c51b0 : (t244 == 2) = true := beq_iff_eq.mpr c51
     have c51b1 : (t244 != 2) = false := bne_eq_false_iff_eq.mpr c51
     clear c51
     obtain ⟨y257, hy257⟩ : ∃ y_ : List Int, y_ = (([(-1), 24] : List Int)) := ⟨_, rfl⟩
     replace H : ((spec_l1PickInt.f s0_0 t245 t246 y257).bind fun bt260 => (some (x237000_1, bt260.1, t235, bt260.2.1, bt260.2.2))) = some (r1, r2, r3, r4, r5) := by first | (rw [hy257]; with_reducible exact H) | (have H2_ := (Option.bind_some _ _).symm.trans H; rw [hy257]; with_reducible exact H2_) | (have H2_ := (Option.bind_some _ _).symm.trans H; with_reducible exact H2_) | with_reducible exact H | (rw [hy257]; exact H) | exact H
     have Ny257 := Aside0.mk hy257
     clear hy257
     replace H := Option.bind_eq_some_iff.mp H
     obtain ⟨⟨t260, t261, t262⟩, A520, H⟩ := H
     replace H : (some (x237000_1, t260, t235, t261, t262)) = some (r1, r2, r3, r4, r5) := H
     have A52 := Aside0.mk A520
     clear A520
     simp only [Option.some.injEq, Prod.mk.injEq] at H
     obtain ⟨rfl, rfl, rfl, rfl, rfl⟩ := H
     go_wp2_with (first | ((with_reducible refine gate_callee (f := 28) rfl ?_); refine goesL_ (some 20) rfl rfl Try.func28 (by kernel_rfl) rfl #[.pointer (some ⟨g, 0, none⟩), .int .i64 12] rfl zT4 ?_; (with_reducible refine (spec_l1Below.calls g s0_0 x1001_1 x1002_1 12 t244 t245 t246 w0 _ ?side1 ?side2 A23.out).mono ?_); (case side1 => exact zB4_6); (case side2 => exact zB4_8); rintro e w53 ⟨rfl, hi, hb, hk⟩; refine ⟨_, rfl, ?_⟩; have n0_ := Aside0.mk (Kd.R_mono (Kd.R_keep (IsS56.apart (show IsS56 w0 _ g s0_0 x1001_1 x1002_1 from zB4_6) (zR4 HO_237000.out) (by decide)) hk (fun _ h => h.2)) (fun _ h => h.1)); have n1_ := Aside0.mk (zh4 hk BK227.out NB227_0.out); have n2_ := Aside0.mk (zh4 hk BK236.out NB236_0.out); have n3_ := Aside0.mk (KeepBut.trans (zB4_7) hk (.inl rfl)); have n4_ := Aside0.mk (hb); have n5_ := Aside0.mk (hi); clear HO_237000; clear BK227; clear BK236; clear HK; clear HB; clear HI0; have HO_237000 := n0_; have BK227 := n1_; have BK236 := n2_; have HK := n3_; have HB := n4_; have HI0 := n5_; clear n0_ n1_ n2_ n3_ n4_ n5_; (try clear hb); (try clear hb2); (try clear hk); (try clear hi)) | ((with_reducible refine gate_dst (N := 38) rfl ?_); refine Kd.R_lit (Kd.int .i64) _ 3 ?hg (N := 38) ?hd (xs := ([(-1), 24] : List Int)) (inner := [.int .i64 (-1), .int .i64 24]) (ok := fun _ => True) (okp := fun _ => True) ?hr ?hp (fun _ hk => hk) trivial (Below.refl _ _) (Nat.le_refl _) (by simp) ?_; (case hd => rfl); (case hg => rfl); (case hr => first | (go_simp; done) | (go_simp; rfl)); (case hp => exact (Reps.one (show Kd.M (Kd.int .i64) _ _ _ (-1) [.int .i64 (-1)] from rfl) (Reps.one (show Kd.M (Kd.int .i64) _ _ _ 24 [.int .i64 24] from rfl) (Reps.none _ _)))); intro v258 w54 ho55 hb hg_ hnew_; clear hg_ hnew_; (first | rw [← Ny257.out] at ho55 | (simp only [Int.reduceToNat] at ho55; rw [← Ny257.out] at ho55)); have n0_ := Aside0.mk (Kd.R_elder' (zR4 HO_237000.out) (Kd.R_base ho55) hb); have n1_ := Aside0.mk (Kd.R_lower (Kd.R_new' ho55 (Kd.R_lt (zR4 HO_237000.out))) (keep_size (w := w) (g := g) (row := none) (zB4_7))); have n2_ := Aside0.mk (zb4 BK227.out hb); have n3_ := Aside0.mk (zb4 BK236.out hb); have n4_ := Aside0.mk (IsS56.below (zB4_6) hb); have n5_ := Aside0.mk (KeepBut.trans (zB4_7) (KeepBut.of_below hb g none) (.inl rfl)); have n6_ := Aside0.mk (below_step (zB4_8) hb); clear HO_237000; clear BK227; clear BK236; clear HI0; clear HK; clear HB; have HO_237000 := n0_; have HO259 := n1_; have BK227 := n2_; have BK236 := n3_; have HI0 := n4_; have HK := n5_; have HB := n6_; clear n0_ n1_ n2_ n3_ n4_ n5_ n6_; clear hb ho55; obtain ⟨Ao56, co56, eo56⟩ := Kd.R_slice HO259.out; subst eo56) | ((with_reducible refine gate_callee (f := 46) rfl ?_); refine goesL_ (some 39) rfl rfl Try.func46 (by kernel_rfl) rfl #[.pointer (some ⟨g, 0, none⟩), .slice Ao56 y257.length co56] rfl zT4 ?_; (with_reducible refine (spec_l1PickInt.calls g s0_0 t245 t246 _ _ y257 t260 t261 t262 w0 _ ?side1 ?side2 ?side3 ?side4 ?side5 A52.out).mono ?_); (case side1 => exact zB4_6); (case side2 => exact zB4_8); (case side3 => exact zC4 (Kd.R_reads' HO259.out).2.2); (case side4 => exact (Kd.R_reads' HO259.out).2.1); (case side5 => exact far_slice (IsS56.own_ne HI0.out HO259.out (by decide))); rintro e w57 ⟨rfl, hi, hb, hk⟩; refine ⟨_, rfl, ?_⟩; have n0_ := Aside0.mk (Kd.R_mono (Kd.R_keep (IsS56.apart (show IsS56 w0 _ g s0_0 t245 t246 from zB4_6) (zR4 HO_237000.out) (by decide)) hk (fun _ h => h.2)) (fun _ h => h.1)); have n1_ := Aside0.mk (zh4 hk BK227.out NB227_0.out); have n2_ := Aside0.mk (zh4 hk BK236.out NB236_0.out); have n3_ := Aside0.mk (Kd.R_mono (Kd.R_keep (IsS56.apart (show IsS56 w0 _ g s0_0 t245 t246 from zB4_6) (zR4 HO259.out) (by decide)) hk (fun _ h => h.2)) (fun _ h => h.1)); have n4_ := Aside0.mk (KeepBut.trans (zB4_7) hk (.inl rfl)); have n5_ := Aside0.mk (hb); have n6_ := Aside0.mk (hi); clear HO_237000; clear BK227; clear BK236; clear HO259; clear HK; clear HB; clear HI0; have HO_237000 := n0_; have BK227 := n1_; have BK236 := n2_; have HO259 := n3_; have HK := n4_; have HB := n5_; have HI0 := n6_; clear n0_ n1_ n2_ n3_ n4_ n5_ n6_; (try clear hb); (try clear hb2); (try clear hk); (try clear hi); have hnb58 := NB236_227.out; have hnc58 := NB227_236.out; have hnb59 := NB236_0.out; have hnc59 := NB0_236.out; obtain ⟨hcz60_0, hcz60_1, hcz60_2, hfz60_0, hfz60_1, hfz60_2⟩ := zc4_3 (w := w57) BK236.out; obtain ⟨Ao61, co61, eo61⟩ := Kd.R_slice HO_237000.out; subst eo61; have hnb62 := NB227_0.out; have hnc62 := NB0_227.out; obtain ⟨hcz63_0, hcz63_1, hcz63_2, hfz63_0, hfz63_1, hfz63_2⟩ := zc4_3 (w := w57) BK227.out))
     refine bodyPost_ret (results_cell_row rfl _ _ gb227 29 #[.slice Ao61 x237000_1.length co61, .int .i64 t260, .int .i64 t235] (0, 0) _ rfl (by refine zP4 ?_; refine blk_put (cs := #[.slice Ao61 x237000_1.length co61, .int .i64 t260, .int .i64 0]) ?_ 2 _ rfl; refine zP4 ?_; refine blk_put (cs := #[.slice Ao61 x237000_1.length co61, .int .i64 0, .int .i64 0]) ?_ 1 _ rfl; refine zP4 ?_; refine blk_put (cs := #[.slice none 0 0, .int .i64 0, .int .i64 0]) ?_ 0 _ rfl; refine zP4 ?_; refine blk_far ?_ NB227_236.out _; refine zP4 ?_; exact BK227.out) Try.underlying29 rfl (by kernel_rfl)) rfl ?_
     exact ⟨_, zE4, QR_of (by (with_reducible repeat (first | apply Kd.R_alloc | apply Kd.R_drewN | apply Kd.R_drew)); exact Kd.R_mono (Kd.R_far (p := ⟨gb227, 2, none⟩) (Kd.R_far (p := ⟨gb227, 1, none⟩) (Kd.R_far (p := ⟨gb227, 0, none⟩) (Kd.R_far (p := ⟨gb236, 1, none⟩) (Kd.R_types (Kd.R_types HO_237000.out BK236.out (by decide)) BK227.out (by decide)) (fun _ hk => hk.1.2) (.int .i64 t260)) (fun _ hk => hk.2) (.slice Ao61 x237000_1.length co61)) (fun _ hk => hk.2) (.int .i64 t260)) (fun _ hk => hk.2) (.int .i64 t235)) (fun _ hk => trivial)), zB4_6, zB4_8, zB4_7⟩
    rw [if_neg c51] at H
    have c51b0 : (t244 == 2) = false := beq_eq_false_iff_ne.mpr c51
    have c51b1 : (t244 != 2) = true := bne_iff_ne.mpr c51
    by_cases c64 : t244 = 3
    rotate_left
    ·rw [if_neg c64] at H
     have c64b0 : (t244 == 3) = false := beq_eq_false_iff_ne.mpr c64
     have c64b1 : (t244 != 3) = true := bne_iff_ne.mpr c64
     simp only [Option.some.injEq, Prod.mk.injEq] at H
     obtain ⟨rfl, rfl, rfl, rfl, rfl⟩ := H
     go_wp2_with (first | ((with_reducible refine gate_callee (f := 28) rfl ?_); refine goesL_ (some 20) rfl rfl Try.func28 (by kernel_rfl) rfl #[.pointer (some ⟨g, 0, none⟩), .int .i64 12] rfl zT4 ?_; (with_reducible refine (spec_l1Below.calls g s0_0 x1001_1 x1002_1 12 t244 t245 t246 w0 _ ?side1 ?side2 A23.out).mono ?_); (case side1 => exact zB4_6); (case side2 => exact zB4_8); rintro e w71 ⟨rfl, hi, hb, hk⟩; refine ⟨_, rfl, ?_⟩; have n0_ := Aside0.mk (Kd.R_mono (Kd.R_keep (IsS56.apart (show IsS56 w0 _ g s0_0 x1001_1 x1002_1 from zB4_6) (zR4 HO_237000.out) (by decide)) hk (fun _ h => h.2)) (fun _ h => h.1)); have n1_ := Aside0.mk (zh4 hk BK227.out NB227_0.out); have n2_ := Aside0.mk (zh4 hk BK236.out NB236_0.out); have n3_ := Aside0.mk (KeepBut.trans (zB4_7) hk (.inl rfl)); have n4_ := Aside0.mk (hb); have n5_ := Aside0.mk (hi); clear HO_237000; clear BK227; clear BK236; clear HK; clear HB; clear HI0; have HO_237000 := n0_; have BK227 := n1_; have BK236 := n2_; have HK := n3_; have HB := n4_; have HI0 := n5_; clear n0_ n1_ n2_ n3_ n4_ n5_; (try clear hb); (try clear hb2); (try clear hk); (try clear hi); have hnb72 := NB236_227.out; have hnc72 := NB227_236.out; have hnb73 := NB236_0.out; have hnc73 := NB0_236.out; obtain ⟨hcz74_0, hcz74_1, hcz74_2, hfz74_0, hfz74_1, hfz74_2⟩ := zc4_3 (w := w71) BK236.out; obtain ⟨Ao75, co75, eo75⟩ := Kd.R_slice HO_237000.out; subst eo75; have hnb76 := NB227_0.out; have hnc76 := NB0_227.out; obtain ⟨hcz77_0, hcz77_1, hcz77_2, hfz77_0, hfz77_1, hfz77_2⟩ := zc4_3 (w := w71) BK227.out))
     refine bodyPost_ret (results_cell_row rfl _ _ gb227 29 #[.slice Ao75 x237000_1.length co75, .int .i64 t234, .int .i64 t235] (0, 0) _ rfl (by refine zP4 ?_; refine blk_put (cs := #[.slice Ao75 x237000_1.length co75, .int .i64 t234, .int .i64 0]) ?_ 2 _ rfl; refine zP4 ?_; refine blk_put (cs := #[.slice Ao75 x237000_1.length co75, .int .i64 0, .int .i64 0]) ?_ 1 _ rfl; refine zP4 ?_; refine blk_put (cs := #[.slice none 0 0, .int .i64 0, .int .i64 0]) ?_ 0 _ rfl; refine zP4 ?_; exact BK227.out) Try.underlying29 rfl (by kernel_rfl)) rfl ?_
     exact ⟨_, zE4, QR_of (by (with_reducible repeat (first | apply Kd.R_alloc | apply Kd.R_drewN | apply Kd.R_drew)); exact Kd.R_mono (Kd.R_far (p := ⟨gb227, 2, none⟩) (Kd.R_far (p := ⟨gb227, 1, none⟩) (Kd.R_far (p := ⟨gb227, 0, none⟩) (Kd.R_types HO_237000.out BK227.out (by decide)) (fun _ hk => hk.2) (.slice Ao75 x237000_1.length co75)) (fun _ hk => hk.2) (.int .i64 t234)) (fun _ hk => hk.2) (.int .i64 t235)) (fun _ hk => trivial)), zB4_6, zB4_8, zB4_7⟩
    rw [if_pos c64] at H
    have c64b0 : (t244 == 3) = true := beq_iff_eq.mpr c64
    have c64b1 : (t244 != 3) = false := bne_eq_false_iff_eq.mpr c64
    clear c64
    by_cases c65 : (x237000_1.length : Int) = 4
    rotate_left
    ·rw [if_neg c65] at H
     exact absurd H (by simp)
    rw [if_pos c65] at H
    have HL4 := Aside0.mk c65
    have c65b0 := eq_true (show 1 ≤ (x237000_1.length : Int) by omega)
    have c65b1 : decide (1 ≤ (x237000_1.length : Int)) = true := decide_eq_true (by omega)
    clear c65
    obtain ⟨y263, hy263⟩ : ∃ y_ : List Int, y_ = (x237000_1.drop (1 : Int).toNat) := ⟨_, rfl⟩
    replace H : (some (y263, t234, t235, t245, t246)) = some (r1, r2, r3, r4, r5) := by first | (rw [hy263]; with_reducible exact H) | (have H2_ := (Option.bind_some _ _).symm.trans H; rw [hy263]; with_reducible exact H2_) | (have H2_ := (Option.bind_some _ _).symm.trans H; with_reducible exact H2_) | with_reducible exact H | (rw [hy263]; exact H) | exact H
    have Ny263 := Aside0.mk hy263
    clear hy263
    simp only [Option.some.injEq, Prod.mk.injEq] at H
    obtain ⟨rfl, rfl, rfl, rfl, rfl⟩ := H
    have hQ_ := Aside0.mk (Kd.Q_of_R HO_237000.out)
    clear HO_237000
    have HO_237000 := hQ_
    clear hQ_
    go_wp2_with (first | ((with_reducible refine gate_callee (f := 28) rfl ?_); refine goesL_ (some 20) rfl rfl Try.func28 (by kernel_rfl) rfl #[.pointer (some ⟨g, 0, none⟩), .int .i64 12] rfl zT4 ?_; (with_reducible refine (spec_l1Below.calls g s0_0 x1001_1 x1002_1 12 t244 t245 t246 w0 _ ?side1 ?side2 A23.out).mono ?_); (case side1 => exact zB4_6); (case side2 => exact zB4_8); rintro e w66 ⟨rfl, hi, hb, hk⟩; refine ⟨_, rfl, ?_⟩; have n0_ := Aside0.mk (Kd.Q_mono (Kd.Q_keep (IsS56.apartQ (show IsS56 w0 _ g s0_0 x1001_1 x1002_1 from zB4_6) (zQ4 HO_237000.out) (by decide)) hk (fun _ h => h.2)) (fun _ h => h.1)); have n1_ := Aside0.mk (zh4 hk BK227.out NB227_0.out); have n2_ := Aside0.mk (zh4 hk BK236.out NB236_0.out); have n3_ := Aside0.mk (KeepBut.trans (zB4_7) hk (.inl rfl)); have n4_ := Aside0.mk (hb); have n5_ := Aside0.mk (hi); clear HO_237000; clear BK227; clear BK236; clear HK; clear HB; clear HI0; have HO_237000 := n0_; have BK227 := n1_; have BK236 := n2_; have HK := n3_; have HB := n4_; have HI0 := n5_; clear n0_ n1_ n2_ n3_ n4_ n5_; (try clear hb); (try clear hb2); (try clear hk); (try clear hi); have hnb67 := NB236_227.out; have hnc67 := NB227_236.out; have hnb68 := NB236_0.out; have hnc68 := NB0_236.out; obtain ⟨hcz69_0, hcz69_1, hcz69_2, hfz69_0, hfz69_1, hfz69_2⟩ := zc4_3 (w := w66) BK236.out; obtain ⟨Ao70, co70, eo70, _⟩ := Kd.Q_slice HO_237000.out; subst eo70; have q71 : (1 : Int) ≤ ((x237000_1.length : Int) : Int) := zA4; obtain ⟨i071, hi071, _, hsz71, _⟩ := info_parts info3; have hcut71 := cut_from (P := Try.prog) 24 3 .i64 Try.underlying24 hi071 1 hsz71 Ao70 x237000_1.length co70 1 (by omega) q71; have hr71 := Kd.Q_drop (k := (1 : Int).toNat) HO_237000.out (by omega); obtain ⟨A71, hA71⟩ : ∃ A1, A1 = (if co70 = (1 : Int).toNat then Ao70 else (Ao70 : Option Addr).map (·.add ((1 : Int).toNat * 1))) := ⟨_, rfl⟩; obtain ⟨c71, hc71⟩ : ∃ c1, c1 = co70 - (1 : Int).toNat := ⟨_, rfl⟩; have hy71 : y263.length = x237000_1.length - (1 : Int).toNat := (by rw [Ny263.out, List.length_drop]); rw [← Ny263.out] at hr71; rw [← hy71, ← hA71, ← hc71] at hcut71; replace hr71 : Kd.Q (Kd.int .i64) 3 w66 w.heap.size (fun _ => True) (.slice A71 y263.length c71) y263 := (by rw [hA71, hc71, hy71]; exact hr71); have HE71 : Aside0 ((Value.slice A71 y263.length c71).ownBlock = (.slice Ao70 x237000_1.length co70 : Value).ownBlock) := ⟨by rw [hA71]; split <;> (cases (Ao70 : Option Addr) <;> rfl)⟩; clear hy71 hi071 hsz71 HO_237000 hA71 hc71; have HO265 := Aside0.mk hr71; clear hr71; replace q71 := eq_true q71; have hnb72 := NB227_0.out; have hnc72 := NB0_227.out; obtain ⟨hcz73_0, hcz73_1, hcz73_2, hfz73_0, hfz73_1, hfz73_2⟩ := zc4_3 (w := w66) BK227.out))
    refine bodyPost_ret (results_cell_row rfl _ _ gb227 29 #[.slice A71 y263.length c71, .int .i64 t234, .int .i64 t235] (0, 0) _ rfl (by refine zP4 ?_; refine blk_put (cs := #[.slice A71 y263.length c71, .int .i64 t234, .int .i64 0]) ?_ 2 _ rfl; refine zP4 ?_; refine blk_put (cs := #[.slice A71 y263.length c71, .int .i64 0, .int .i64 0]) ?_ 1 _ rfl; refine zP4 ?_; refine blk_put (cs := #[.slice none 0 0, .int .i64 0, .int .i64 0]) ?_ 0 _ rfl; refine zP4 ?_; refine blk_far ?_ NB227_236.out _; refine zP4 ?_; exact BK227.out) Try.underlying29 rfl (by kernel_rfl)) rfl ?_
    exact ⟨_, zE4, ⟨by (with_reducible repeat (first | apply Kd.Q_alloc | apply Kd.Q_drewN | apply Kd.Q_drew)); exact Kd.Q_mono (Kd.Q_far (p := ⟨gb227, 2, none⟩) (Kd.Q_far (p := ⟨gb227, 1, none⟩) (Kd.Q_far (p := ⟨gb227, 0, none⟩) (Kd.Q_far (p := ⟨gb236, 0, none⟩) (Kd.Q_types (Kd.Q_types HO265.out BK236.out (by decide)) BK227.out (by decide)) (fun _ hk => hk.1.2) (.slice A71 y263.length c71)) (fun _ hk => hk.2) (.slice A71 y263.length c71)) (fun _ hk => hk.2) (.int .i64 t234)) (fun _ hk => hk.2) (.int .i64 t235)) (fun _ hk => trivial), fun hl_ => absurd hl_ (by rw [Ny263.out, List.length_drop]; have h4_ := HL4.out; simp only [Int.toNat_one]; omega)⟩, zB4_6, zB4_8, zB4_7⟩
   rw [if_pos c34] at H
   have c34b0 : (t244 == 1) = true := beq_iff_eq.mpr c34
   have c34b1 : (t244 != 1) = false := bne_eq_false_iff_eq.mpr c34
   clear c34
   obtain ⟨y250, hy250⟩ : ∃ y_ : List Int, y_ = (([(-1), 65536] : List Int)) := ⟨_, rfl⟩
   replace H : ((spec_l1PickInt.f s0_0 t245 t246 y250).bind fun bt253 => (if 0 < (x237000_1.length : Int) then (some ((x237000_1.set (0 : Int).toNat bt253.1), t234, t235, bt253.2.1, bt253.2.2)) else (none))) = some (r1, r2, r3, r4, r5) := by first | (rw [hy250]; with_reducible exact H) | (have H2_ := (Option.bind_some _ _).symm.trans H; rw [hy250]; with_reducible exact H2_) | (have H2_ := (Option.bind_some _ _).symm.trans H; with_reducible exact H2_) | with_reducible exact H | (rw [hy250]; exact H) | exact H
   have Ny250 := Aside0.mk hy250
   clear hy250
   replace H := Option.bind_eq_some_iff.mp H
   obtain ⟨⟨t253, t254, t255⟩, A350, H⟩ := H
   replace H : (if 0 < (x237000_1.length : Int) then (some ((x237000_1.set (0 : Int).toNat t253), t234, t235, t254, t255)) else (none)) = some (r1, r2, r3, r4, r5) := H
   have A35 := Aside0.mk A350
   clear A350
   by_cases c36 : 0 < (x237000_1.length : Int)
   rotate_left
   ·rw [if_neg c36] at H
    exact absurd H (by simp)
   rw [if_pos c36] at H
   have c36b0 : decide (0 < (x237000_1.length : Int)) = true := decide_eq_true c36
   have c36b1 : decide (0 < x237000_1.length) = true := decide_eq_true (by omega)
   clear c36
   obtain ⟨y256, hy256⟩ : ∃ y_ : List Int, y_ = (x237000_1.set (0 : Int).toNat t253) := ⟨_, rfl⟩
   replace H : (some (y256, t234, t235, t254, t255)) = some (r1, r2, r3, r4, r5) := by first | (rw [hy256]; with_reducible exact H) | (have H2_ := (Option.bind_some _ _).symm.trans H; rw [hy256]; with_reducible exact H2_) | (have H2_ := (Option.bind_some _ _).symm.trans H; with_reducible exact H2_) | with_reducible exact H | (rw [hy256]; exact H) | exact H
   have Ny256 := Aside0.mk hy256
   clear hy256
   simp only [Option.some.injEq, Prod.mk.injEq] at H
   obtain ⟨rfl, rfl, rfl, rfl, rfl⟩ := H
   try go_wp2_with (first | ((with_reducible refine gate_callee (f := 28) rfl ?_); refine goesL_ (some 20) rfl rfl Try.func28 (by kernel_rfl) rfl #[.pointer (some ⟨g, 0, none⟩), .int .i64 12] rfl zT4 ?_; (with_reducible refine (spec_l1Below.calls g s0_0 x1001_1 x1002_1 12 t244 t245 t246 w0 _ ?side1 ?side2 A23.out).mono ?_); (case side1 => exact zB4_6); (case side2 => exact zB4_8); rintro e w38 ⟨rfl, hi, hb, hk⟩; refine ⟨_, rfl, ?_⟩; have n0_ := Aside0.mk (Kd.R_mono (Kd.R_keep (IsS56.apart (show IsS56 w0 _ g s0_0 x1001_1 x1002_1 from zB4_6) (zR4 HO_237000.out) (by decide)) hk (fun _ h => h.2)) (fun _ h => h.1)); have n1_ := Aside0.mk (zh4 hk BK227.out NB227_0.out); have n2_ := Aside0.mk (zh4 hk BK236.out NB236_0.out); have n3_ := Aside0.mk (KeepBut.trans (zB4_7) hk (.inl rfl)); have n4_ := Aside0.mk (hb); have n5_ := Aside0.mk (hi); clear HO_237000; clear BK227; clear BK236; clear HK; clear HB; clear HI0; have HO_237000 := n0_; have BK227 := n1_; have BK236 := n2_; have HK := n3_; have HB := n4_; have HI0 := n5_; clear n0_ n1_ n2_ n3_ n4_ n5_; (try clear hb); (try clear hb2); (try clear hk); (try clear hi)))
   have n0_ := Aside0.mk (Kd.R_drew HO_237000.out)
   have n1_ := Aside0.mk (blk_drew BK227.out)
   have n2_ := Aside0.mk (blk_drew BK236.out)
   have n3_ := Aside0.mk (IsS56.drew HI0.out)
   have n4_ := Aside0.mk (keep_drew HK.out)
   have n5_ := Aside0.mk (below_drew1 HB.out)
   clear HO_237000 BK227 BK236 HI0 HK HB
   have HO_237000 := n0_
   have BK227 := n1_
   have BK236 := n2_
   have HI0 := n3_
   have HK := n4_
   have HB := n5_
   clear n0_ n1_ n2_ n3_ n4_ n5_
   refine start_ (n := 7) (S := fun w' => w'.cell? ⟨gb236, 0, none⟩ = some (u237000) ∧ w'.cell? ⟨gb236, 1, none⟩ = some (.int .i64 t234) ∧ w'.cell? ⟨gb236, 2, none⟩ = some (.int .i64 t235)) (ds := [6]) #[false, false, false, false, false, false, false] (by kernel_rfl) rfl rfl ⟨(blk_cell BK236.out 0).trans rfl, (blk_cell BK236.out 1).trans rfl, (blk_cell BK236.out 2).trans rfl⟩ (fun hHeld => ?_)
   generalize w38.drew = w39 at HO_237000 BK227 BK236 HI0 HK HB hHeld ⊢
   refine pure_ (i := 0) (N := some 29) (v := ?_) (a' := ?_) #[true, false, false, false, false, false, false] rfl rfl (by kernel_rfl) (fun _ _ _ h => h) (Or.inl ⟨by rfl, ?_⟩) ?_ ?_
   rotate_left
   ·intro w'
    go_simp
    with_reducible rfl
   rotate_left
   ·exact zV4
   refine pure_ (i := 2) (N := some 31) (v := ?_) (a' := ?_) #[true, false, true, false, false, false, false] rfl rfl (by kernel_rfl) (fun _ _ _ h => h) (Or.inl ⟨by rfl, ?_⟩) ?_ ?_
   rotate_left
   ·intro w'
    go_simp
    with_reducible rfl
   rotate_left
   ·exact zV4
   refine take_ (i := 1) (N := some 30) (v := ?_) (a' := ?_) #[true, true, true, false, false, false, false] rfl rfl (by kernel_rfl) (fun _ _ _ h => h) (Or.inl ⟨by rfl, ?_⟩) hHeld ?_ ?_
   rotate_left
   ·rintro w' ⟨s0, s1, s2⟩
    go_simp
    with_reducible rfl
   rotate_left
   ·exact zV4
   refine one_ (i := 3) (N := some 32) #[true, true, true, true, false, false, false] rfl rfl (by kernel_rfl) (by decide) (fun K hK => ?_)
   refine Kd.R_lit_step (Kd.int .i64) _ 3 ?hg (N := 32) ?hd (xs := ([(-1), 65536] : List Int)) (inner := [.int .i64 (-1), .int .i64 65536]) (ok := fun _ => True) (okp := fun _ => True) ?hr ?hp (fun _ hk => hk) trivial (Below.refl _ _) (Nat.le_refl _) (by simp) ?_; (case hd => rfl); (case hg => rfl); (case hr => first | (go_simp; done) | (go_simp; rfl)); (case hp => exact (Reps.one (show Kd.M (Kd.int .i64) _ _ _ (-1) [.int .i64 (-1)] from rfl) (Reps.one (show Kd.M (Kd.int .i64) _ _ _ 65536 [.int .i64 65536] from rfl) (Reps.none _ _))))
   intro v251 w40 ho41 hb hg_ hnew_
   clear hg_ hnew_
   (first | rw [← Ny250.out] at ho41 | (simp only [Int.reduceToNat] at ho41; rw [← Ny250.out] at ho41))
   have n0_ := Aside0.mk (Kd.R_elder' (zR4 HO_237000.out) (Kd.R_base ho41) hb)
   have n1_ := Aside0.mk (Kd.R_lower (Kd.R_new' ho41 (Kd.R_lt (zR4 HO_237000.out))) (keep_size (w := w) (g := g) (row := none) (zB4_7)))
   have n2_ := Aside0.mk (zb4 BK227.out hb)
   have n3_ := Aside0.mk (zb4 BK236.out hb)
   have n4_ := Aside0.mk (IsS56.below (zB4_6) hb)
   have n5_ := Aside0.mk (KeepBut.trans (zB4_7) (KeepBut.of_below hb g none) (.inl rfl))
   have n6_ := Aside0.mk (below_step (zB4_8) hb)
   clear HO_237000 BK227 BK236 HI0 HK HB
   have HO_237000 := n0_
   have HO252 := n1_
   have BK227 := n2_
   have BK236 := n3_
   have HI0 := n4_
   have HK := n5_
   have HB := n6_
   clear n0_ n1_ n2_ n3_ n4_ n5_ n6_ hb ho41
   obtain ⟨Ao42, co42, eo42⟩ := Kd.R_slice HO252.out
   (first | subst eo42 | (injection eo42 with f1_ f2_ f3_; have f4_ := f1_.symm; have f5_ := f3_.symm; clear f1_ f2_ f3_; subst f4_; subst f5_))
   refine hK.out _ _ ⟨(blk_cell BK236.out 0).trans rfl, (blk_cell BK236.out 1).trans rfl, (blk_cell BK236.out 2).trans rfl⟩ (fun hHeld => ?_)
   clear hK K
   refine norm_ (a' := ?_) ?_ ?_
   rotate_left
   ·show Act.put _ (some 32) _ = _
    simp only [Act.put, List.setIfInBounds_toArray, List.set_cons_zero, List.set_cons_succ, i64_w, i32_w]
    rfl
   refine one_ (i := 4) (N := some 33) #[true, true, true, true, true, false, false] rfl rfl (by kernel_rfl) (by decide) (fun K hK => ?_)
   refine goes_ Try.func46 (by kernel_rfl) rfl #[.pointer (some ⟨g, 0, none⟩), .slice Ao42 y250.length co42] (by rfl) rfl rfl zT4 ?_
   with_reducible refine (spec_l1PickInt.calls g s0_0 t245 t246 _ _ y250 t253 t254 t255 w0 _ ?side1 ?side2 ?side3 ?side4 ?side5 A35.out).mono ?_
   (case side1 => exact zB4_6)
   (case side2 => exact zB4_8)
   (case side3 => exact zC4 (Kd.R_reads' HO252.out).2.2)
   (case side4 => exact (Kd.R_reads' HO252.out).2.1)
   (case side5 => exact far_slice (IsS56.own_ne HI0.out HO252.out (by decide)))
   rintro e w43 ⟨rfl, hi, hb, hk⟩
   refine ⟨_, rfl, ?_⟩
   have n0_ := Aside0.mk (Kd.R_mono (Kd.R_keep (IsS56.apart (show IsS56 w0 _ g s0_0 t245 t246 from zB4_6) (zR4 HO_237000.out) (by decide)) hk (fun _ h => h.2)) (fun _ h => h.1))
   have n1_ := Aside0.mk (zh4 hk BK227.out NB227_0.out)
   have n2_ := Aside0.mk (zh4 hk BK236.out NB236_0.out)
   have n3_ := Aside0.mk (Kd.R_mono (Kd.R_keep (IsS56.apart (show IsS56 w0 _ g s0_0 t245 t246 from zB4_6) (zR4 HO252.out) (by decide)) hk (fun _ h => h.2)) (fun _ h => h.1))
   have n4_ := Aside0.mk (KeepBut.trans (zB4_7) hk (.inl rfl))
   have n5_ := Aside0.mk (hb)
   have n6_ := Aside0.mk (hi)
   clear HO_237000 BK227 BK236 HO252 HK HB HI0
   have HO_237000 := n0_
   have BK227 := n1_
   have BK236 := n2_
   have HO252 := n3_
   have HK := n4_
   have HB := n5_
   have HI0 := n6_
   clear n0_ n1_ n2_ n3_ n4_ n5_ n6_
   (try clear hb)
   (try clear hb2)
   (try clear hk)
   (try clear hi)
   have p37 : 0 ≤ (0 : Int) := (by omega)
   have q37 : (0 : Int) < ((x237000_1.length : Int) : Int) := zA4
   have qi37 : (0 < x237000_1.length) = True := eq_true (by omega)
   obtain ⟨go37, co37, eo37, gb37, gl37, cl37, HG37⟩ := Kd.R_form HO_237000.out (by omega)
   (first | cases eo37 | (injection eo37 with ea_ en_ ec_; (first | subst ea_ | (injection ea_ with ea_; subst ea_)); subst ec_; clear en_))
   have GB37 := Aside0.mk gb37
   have GG37 := Aside0.mk HG37
   clear gb37 gl37 HG37
   obtain ⟨hx37_0, hf37_0⟩ := Kd.R_celln 0 HO_237000.out (0 : Int) p37 q37
   (try rw [show ((0 : Int)).toNat = 0 from rfl] at hx37_0)
   (try simp only [Nat.reduceMul, Nat.zero_mul, Nat.zero_add, Nat.reduceAdd] at hx37_0)
   (try rw [show ((0 : Int)).toNat = 0 from rfl] at hf37_0)
   (try simp only [Nat.reduceMul, Nat.zero_mul, Nat.zero_add, Nat.reduceAdd] at hf37_0)
   replace p37 := eq_true p37
   replace q37 := eq_true q37
   have HN0_go37 := Aside0.mk (show g ≠ go37 from by have h_ := IsS56.own_ne HI0.out HO_237000.out (by decide); intro e_; exact h_ (by rw [e_]; rfl))
   have HP44 := Kd.R_putn HO_237000.out (0 : Int) t253
   rw [← Ny256.out] at HP44
   have HQ44 := Aside0.mk HP44
   clear HP44
   refine hK.out _ _ ⟨(blk_cell BK236.out 0).trans rfl, (blk_cell BK236.out 1).trans rfl, (blk_cell BK236.out 2).trans rfl⟩ (fun hHeld => ?_)
   clear hK K
   refine norm_ (a' := ?_) ?_ ?_
   rotate_left
   ·show Act.put _ (some 33) _ = _
    simp only [Act.put, List.setIfInBounds_toArray, List.set_cons_zero, List.set_cons_succ, i64_w, i32_w]
    rfl
   refine pure_ (i := 5) (N := some 34) (v := ?_) (a' := ?_) #[true, true, true, true, true, true, false] rfl rfl (by kernel_rfl) (fun _ _ _ h => h) (Or.inl ⟨by rfl, ?_⟩) ?_ ?_
   rotate_left
   ·intro w'
    go_simp
    with_reducible rfl
   rotate_left
   ·exact zV4
   refine last_ (i := 6) (N := none) #[true, true, true, true, true, true, true] rfl rfl (by kernel_rfl) (by decide) (fun K hK => ?_)
   refine skip_ (w1 := ?_) (by rfl) rfl ?_ ?_
   rotate_left
   ·go_simp
    rfl
   refine hK.out _ _ ?_
   clear hK K
   refine done_ (by kernel_rfl) ?_
   have n0_ : Aside0 (Kd.R (Kd.int .i64) 3 (w43.setCell ⟨go37, 0, none⟩ (.int .i64 t253)) w.heap.size (fun k_ => some k_ ≠ (.slice Ao42 y250.length co42 : Value).ownBlock) (.slice (some ⟨go37, 0, none⟩) x237000_1.length co37) y256) := ⟨by (with_reducible repeat (first | apply Kd.R_alloc | apply Kd.R_drewN | apply Kd.R_drew)); exact Kd.R_mono HQ44.out (fun _ hk => hk.2)⟩
   have n1_ : Aside0 (Kd.R (Kd.int .i64) 3 (w43.setCell ⟨go37, 0, none⟩ (.int .i64 t253)) w.heap.size (fun k_ => some k_ ≠ (.slice (some ⟨go37, 0, none⟩) x237000_1.length co37 : Value).ownBlock) (.slice Ao42 y250.length co42) y250) := ⟨by (with_reducible repeat (first | apply Kd.R_alloc | apply Kd.R_drewN | apply Kd.R_drew)); exact Kd.R_mono (Kd.R_far (p := ⟨go37, 0, none⟩) (Kd.R_mono HO252.out (fun k_ hk => (⟨hk, fun e_ => hk.2 (by rw [e_]; rfl)⟩ : _ ∧ k_ ≠ go37))) (fun _ hk => hk.2) (.int .i64 t253)) (fun _ hk => hk.1.2)⟩
   have n2_ : Aside0 ((w43.setCell ⟨go37, 0, none⟩ (.int .i64 t253)).heap[gb227]? = some (.cells #[.slice none 0 0, .int .i64 0, .int .i64 0] 29 (0, 0))) := ⟨by refine zP4 ?_; refine blk_far ?_ (by have h_ := Kd.R_ne HO_237000.out BK227.out (by decide); intro e_; exact h_ (by rw [e_]; rfl)) _; refine zP4 ?_; exact BK227.out⟩
   have n3_ : Aside0 ((w43.setCell ⟨go37, 0, none⟩ (.int .i64 t253)).heap[gb236]? = some (.cells #[.slice (some ⟨go37, 0, none⟩) x237000_1.length co37, .int .i64 t234, .int .i64 t235] 29 (0, 0))) := ⟨by refine zP4 ?_; refine blk_far ?_ (by have h_ := Kd.R_ne HO_237000.out BK236.out (by decide); intro e_; exact h_ (by rw [e_]; rfl)) _; refine zP4 ?_; exact BK236.out⟩
   have n4_ : Aside0 (IsS56 w0 (w43.setCell ⟨go37, 0, none⟩ (.int .i64 t253)) g s0_0 t254 t255) := ⟨zB4_12⟩
   have n5_ : Aside0 (KeepBut w (w43.setCell ⟨go37, 0, none⟩ (.int .i64 t253)) g none) := ⟨zB4_13⟩
   have n6_ : Aside0 (Below w0.heap.size w0 (w43.setCell ⟨go37, 0, none⟩ (.int .i64 t253))) := ⟨zB4_14⟩
   (try clear HO_237000)
   (try clear HO252)
   (try clear BK227)
   (try clear BK236)
   (try clear HI0)
   (try clear HK)
   (try clear HB)
   generalize (w43.setCell ⟨go37, 0, none⟩ (.int .i64 t253)) = w45 at n0_ n1_ n2_ n3_ n4_ n5_ n6_ ⊢
   have HO_237000 := n0_
   have HO252 := n1_
   have BK227 := n2_
   have BK236 := n3_
   have HI0 := n4_
   have HK := n5_
   have HB := n6_
   clear n0_ n1_ n2_ n3_ n4_ n5_ n6_
   have hnb46 := NB236_227.out
   have hnc46 := NB227_236.out
   have hnb47 := NB236_0.out
   have hnc47 := NB0_236.out
   obtain ⟨hcz48_0, hcz48_1, hcz48_2, hfz48_0, hfz48_1, hfz48_2⟩ := zc4_3 (w := w45) BK236.out
   have hnb49 := NB227_0.out
   have hnc49 := NB0_227.out
   obtain ⟨hcz50_0, hcz50_1, hcz50_2, hfz50_0, hfz50_1, hfz50_2⟩ := zc4_3 (w := w45) BK227.out
   try go_wp2
   refine bodyPost_ret (results_cell_row rfl _ _ gb227 29 #[.slice (some ⟨go37, 0, none⟩) x237000_1.length co37, .int .i64 t234, .int .i64 t235] (0, 0) _ rfl (by refine zP4 ?_; refine blk_put (cs := #[.slice (some ⟨go37, 0, none⟩) x237000_1.length co37, .int .i64 t234, .int .i64 0]) ?_ 2 _ rfl; refine zP4 ?_; refine blk_put (cs := #[.slice (some ⟨go37, 0, none⟩) x237000_1.length co37, .int .i64 0, .int .i64 0]) ?_ 1 _ rfl; refine zP4 ?_; refine blk_put (cs := #[.slice none 0 0, .int .i64 0, .int .i64 0]) ?_ 0 _ rfl; refine zP4 ?_; exact BK227.out) Try.underlying29 rfl (by kernel_rfl)) rfl ?_
   exact ⟨_, zE4, QR_of (by (with_reducible repeat (first | apply Kd.R_alloc | apply Kd.R_drewN | apply Kd.R_drew)); exact Kd.R_mono (Kd.R_far (p := ⟨gb227, 2, none⟩) (Kd.R_far (p := ⟨gb227, 1, none⟩) (Kd.R_far (p := ⟨gb227, 0, none⟩) (Kd.R_types HO_237000.out BK227.out (by decide)) (fun _ hk => hk.2) (.slice (some ⟨go37, 0, none⟩) x237000_1.length co37)) (fun _ hk => hk.2) (.int .i64 t234)) (fun _ hk => hk.2) (.int .i64 t235)) (fun _ hk => trivial)), zB4_6, zB4_8, zB4_7⟩

/-! ### spec_l1Words: function 48 -/
def spec_l1Words.l0 : Nat → List Int → Int → Int → Option (Bool)
 | 0, _, _, _ => none
 | k + 1, x0, x1, x5 => if x5 < (x0.length : Int) then (if 0 ≤ x5 then ((spec_l1In.f (rd x0 x5) 0 65535).bind fun t264 => (if t264 = true then (spec_l1Words.l0 k x0 x1 (wrap64 (x5 + 1))) else (some false))) else (none)) else (some ((x0.length : Int) == x1))
def spec_l1Words.f (k : Nat) (l0 : List Int) (a1 : Int) : Option (Bool) := spec_l1Words.l0 k l0 a1 0
theorem spec_l1Words.mono_l : ∀ k, (∀ y0 y1 y2, LeO (spec_l1Words.l0 k y0 y1 y2) (spec_l1Words.l0 (k + 1) y0 y1 y2))
 | 0 => fun _ _ _ r h => by simp [spec_l1Words.l0] at h
 | k + 1 => by
  have ih0 := spec_l1Words.mono_l k
  ·intro y0 y1 y2
   unfold spec_l1Words.l0
   repeat' first
   | (with_reducible exact ih0 _ _ _)
   | (with_reducible exact LeO.refl _)
   | (with_reducible exact LeO.none _)
   | (with_reducible refine LeO.ite ?_ ?_)
   | (with_reducible refine LeO.bind ?_ (fun _ => ?_))
   | exact ih0 _ _ _
   | exact LeO.none _
   | refine LeO.ite ?_ ?_
   | refine LeO.bind ?_ (fun _ => ?_)
theorem spec_l1Words.mono : ∀ a0 a1 k, LeO (spec_l1Words.f k a0 a1) (spec_l1Words.f (k + 1) a0 a1) := by
 intro a0 a1 k
 have ih0 := spec_l1Words.mono_l k
 unfold spec_l1Words.f
 repeat' first
   | (with_reducible exact ih0 _ _ _)
   | (with_reducible exact LeO.refl _)
   | (with_reducible exact LeO.none _)
   | (with_reducible refine LeO.ite ?_ ?_)
   | (with_reducible refine LeO.bind ?_ (fun _ => ?_))
   | exact ih0 _ _ _
   | exact LeO.none _
   | refine LeO.ite ?_ ?_
   | refine LeO.bind ?_ (fun _ => ?_)
set_option maxHeartbeats 8000000 in
set_option maxRecDepth 100000 in
theorem spec_l1Words.calls (k : Nat) (A0 : Option Addr) (c0 : Nat) (l0 : List Int) (a1 : Int) (r : Bool) (w : World) (hr0 : Kd.C (Kd.int .i64) w A0 l0.length l0) (hc0 : l0.length ≤ c0) (h : spec_l1Words.f k l0 a1 = some r) :
  Calls Try.prog 48 #[.slice A0 l0.length c0, .int .i64 a1] w fun e w' => e = .returned (.bool r) ∧ Drawn0 w w' := by
 have HR0 := Aside0.mk hr0
 have HC0 := Aside0.mk hc0
 clear hr0 hc0
 have H : (spec_l1Words.l0 k l0 a1 0) = some r := h
 clear h
 have H' := Aside0.mk H
 clear H
 go_enter Try.func48, Try.ntmps48
 go_wp2
 go_loopg [5] k (fun kq v5 w' => ∃ (x5_1 : Int), v5 = .int .i64 x5_1 ∧ Aside0 (spec_l1Words.l0 kq l0 a1 x5_1 = some r) ∧ Aside0 (kq ≤ k) ∧ Drawn0 w w')
 case atStart => exact ⟨(0), (by first | rfl | (simp; done) | (simp [*]; done)), H', ⟨Nat.le_refl _⟩, by repeat (first | exact Drawn0.refl _ | apply Drawn0.step)⟩
 case round =>
  clear H'
  try clear p2
  obtain ⟨x5_1, rfl, HA, HK1, ⟨m1, rfl⟩⟩ := hrel
  cases gk with
  | zero => exact absurd HA.out (by simp [spec_l1Words.l0])
  | succ k1 =>
   have H := HA.out
   clear HA
   simp only [spec_l1Words.l0] at H
   by_cases c3 : x5_1 < (l0.length : Int)
   rotate_left
   ·rw [if_neg c3] at H
    have c3b0 : decide (x5_1 < (l0.length : Int)) = false := decide_eq_false c3
    clear c3
    obtain rfl := Option.some.inj H
    go_wp2
    go_ret
    exact ⟨by first | rfl | (simp; done) | (simp [*]; done), by repeat (first | exact Drawn0.refl _ | apply Drawn0.step)⟩
   rw [if_pos c3] at H
   have c3b0 : decide (x5_1 < (l0.length : Int)) = true := decide_eq_true c3
   clear c3
   by_cases c4 : 0 ≤ x5_1
   rotate_left
   ·rw [if_neg c4] at H
    exact absurd H (by simp)
   rw [if_pos c4] at H
   have c4b0 : decide (0 ≤ x5_1) = true := decide_eq_true c4
   clear c4
   replace H := Option.bind_eq_some_iff.mp H
   obtain ⟨t264, A50, H⟩ := H
   replace H : (if t264 = true then (spec_l1Words.l0 k1 l0 a1 (wrap64 (x5_1 + 1))) else (some false)) = some r := H
   have A5 := Aside0.mk A50
   clear A50
   by_cases c6 : t264 = true
   rotate_left
   ·replace c6 := Bool.eq_false_iff.mpr c6
    subst c6
    have H1 : (some false) = some r := by rw [if_neg (show ¬ (false = true) by decide)] at H; exact H
    clear H
    have H := H1
    clear H1
    obtain rfl := Option.some.inj H
    have p263 : 0 ≤ (x5_1 : Int) := zA4
    have q263 : x5_1 < (l0.length : Int) := zA4
    obtain ⟨ad263, e263, hx263_0⟩ := Kd.at_int HR0.out x5_1 p263 q263
    cases e263
    replace p263 := eq_true p263
    replace q263 := eq_true q263
    go_wp2_with (first | ((with_reducible refine gate_callee (f := 49) rfl ?_); refine goesL_ (some 16) rfl rfl Try.func49 (by kernel_rfl) rfl #[.int .i64 (rd l0 x5_1), .int .i64 0, .int .i64 65535] rfl zT4 ?_; (with_reducible refine (spec_l1In.calls (rd l0 x5_1) 0 65535 false _ A5.out).mono ?_); rintro e w' ⟨rfl, ⟨nd, rfl⟩⟩; refine ⟨_, rfl, ?_⟩))
    go_ret
    exact ⟨by first | rfl | (simp; done) | (simp [*]; done), by repeat (first | exact Drawn0.refl _ | apply Drawn0.step)⟩
   subst c6
   have H1 : (spec_l1Words.l0 k1 l0 a1 (wrap64 (x5_1 + 1))) = some r := by rw [if_pos rfl] at H; exact H
   clear H
   have H := H1
   clear H1
   have H' := Aside0.mk H
   clear H
   have p263 : 0 ≤ (x5_1 : Int) := zA4
   have q263 : x5_1 < (l0.length : Int) := zA4
   obtain ⟨ad263, e263, hx263_0⟩ := Kd.at_int HR0.out x5_1 p263 q263
   cases e263
   replace p263 := eq_true p263
   replace q263 := eq_true q263
   go_wp2_with (first | ((with_reducible refine gate_callee (f := 49) rfl ?_); refine goesL_ (some 16) rfl rfl Try.func49 (by kernel_rfl) rfl #[.int .i64 (rd l0 x5_1), .int .i64 0, .int .i64 65535] rfl zT4 ?_; (with_reducible refine (spec_l1In.calls (rd l0 x5_1) 0 65535 true _ A5.out).mono ?_); rintro e w' ⟨rfl, ⟨nd, rfl⟩⟩; refine ⟨_, rfl, ?_⟩))
   go_roundg k1
   case measure => have := HK1.out; omega
   case rel => exact ⟨(wrap64 (x5_1 + 1)), (by first | rfl | (simp; done) | (simp [*]; done)), H', ⟨by have := HK1.out; omega⟩, by repeat (first | exact Drawn0.refl _ | apply Drawn0.step)⟩

/-! ### spec_HartOk: function 30 -/
def spec_HartOk.f (k : Nat) (l0_0 : List Int) (a0_1 : Int) (a0_2 : Int) : Option (Bool) := (spec_l1Words.f k l0_0 4).bind fun t266 => (if t266 = true then ((spec_l1In.f a0_1 0 23).bind fun t267 => (if t267 = true then ((spec_l1In.f a0_2 0 2).bind fun t268 => (some t268)) else (some false))) else (some false))
theorem spec_HartOk.mono : ∀ a0 a1 a2 k, LeO (spec_HartOk.f k a0 a1 a2) (spec_HartOk.f (k + 1) a0 a1 a2) := by
 intro a0 a1 a2 k
 unfold spec_HartOk.f
 repeat' first
   | (with_reducible exact spec_l1Words.mono _ _ _)
   | (with_reducible exact LeO.refl _)
   | (with_reducible exact LeO.none _)
   | (with_reducible refine LeO.ite ?_ ?_)
   | (with_reducible refine LeO.bind ?_ (fun _ => ?_))
   | exact spec_l1Words.mono _ _ _
   | exact LeO.none _
   | refine LeO.ite ?_ ?_
   | refine LeO.bind ?_ (fun _ => ?_)
set_option maxHeartbeats 8000000 in
set_option maxRecDepth 100000 in
theorem spec_HartOk.calls (k : Nat) (A0_0 : Option Addr) (c0_0 : Nat) (l0_0 : List Int) (a0_1 : Int) (a0_2 : Int) (r : Bool) (w : World) (hr0_0 : Kd.C (Kd.int .i64) w A0_0 l0_0.length l0_0) (hc0_0 : l0_0.length ≤ c0_0) (h : spec_HartOk.f k l0_0 a0_1 a0_2 = some r) :
  Calls Try.prog 30 #[.agg #[.slice A0_0 l0_0.length c0_0, .int .i64 a0_1, .int .i64 a0_2]] w fun e w' => e = .returned (.bool r) ∧ Below w.heap.size w w' := by
 have hu29 := Try.underlying29
 have HR0_0 := Aside0.mk hr0_0
 have HC0_0 := Aside0.mk hc0_0
 clear hr0_0 hc0_0
 have HB := Aside0.mk (Below.refl w.heap.size w)
 have H : ((spec_l1Words.f k l0_0 4).bind fun t266 => (if t266 = true then ((spec_l1In.f a0_1 0 23).bind fun t267 => (if t267 = true then ((spec_l1In.f a0_2 0 2).bind fun t268 => (some t268)) else (some false))) else (some false))) = some r := h
 clear h
 replace H := Option.bind_eq_some_iff.mp H
 obtain ⟨t266, A20, H⟩ := H
 replace H : (if t266 = true then ((spec_l1In.f a0_1 0 23).bind fun t267 => (if t267 = true then ((spec_l1In.f a0_2 0 2).bind fun t268 => (some t268)) else (some false))) else (some false)) = some r := H
 have A2 := Aside0.mk A20
 clear A20
 by_cases c3 : t266 = true
 rotate_left
 ·replace c3 := Bool.eq_false_iff.mpr c3
  subst c3
  have H1 : (some false) = some r := by rw [if_neg (show ¬ (false = true) by decide)] at H; exact H
  clear H
  have H := H1
  clear H1
  obtain rfl := Option.some.inj H
  go_enter Try.func30, Try.ntmps30
  go_wp2_with (first | ((with_reducible refine gate_dst (N := 1) rfl ?_); refine box_event ?hg (N := 1) ?hd (cs := #[.slice A0_0 l0_0.length c0_0, .int .i64 a0_1, .int .i64 a0_2]) (t := 29) ?hr ?_; (case hd => rfl); (case hg => rfl); (case hr => first | (go_simp; done) | (go_simp; rfl)); intro gb265 hg w11 hbox hb; have n0_ := Aside0.mk (below_step (zB4_15) hb); have n1_ := Aside0.mk (hbox); have n2_ := Aside0.mk ((by rw [hg]; exact (below_size (zB4_15)) : w.heap.size ≤ gb265)); have n3_ := Aside0.mk ((by rw [hg]; exact (below_size (zB4_15)) : w.heap.size ≤ gb265)); clear HB; have HB := n0_; have BK265 := n1_; have GW265 := n2_; have GE265 := n3_; clear n0_ n1_ n2_ n3_; clear hb hbox hg; obtain ⟨hcz12_0, hcz12_1, hcz12_2, hfz12_0, hfz12_1, hfz12_2⟩ := zc4_3 (w := w11) BK265.out) | ((with_reducible refine gate_callee (f := 48) rfl ?_); refine goesL_ (some 5) rfl rfl Try.func48 (by kernel_rfl) rfl #[.slice A0_0 l0_0.length c0_0, .int .i64 4] rfl zT4 ?_; (with_reducible refine (spec_l1Words.calls k _ _ l0_0 4 false _ ?side1 ?side2 A2.out).mono ?_); (case side1 => exact zC4 (Kd.C_below HR0_0.out HB.out)); (case side2 => exact HC0_0.out); rintro e w' ⟨rfl, ⟨nd, rfl⟩⟩; refine ⟨_, rfl, ?_⟩))
  go_ret
  exact ⟨zE4, zB4_16⟩
 subst c3
 have H1 : ((spec_l1In.f a0_1 0 23).bind fun t267 => (if t267 = true then ((spec_l1In.f a0_2 0 2).bind fun t268 => (some t268)) else (some false))) = some r := by rw [if_pos rfl] at H; exact H
 clear H
 have H := H1
 clear H1
 replace H := Option.bind_eq_some_iff.mp H
 obtain ⟨t267, A40, H⟩ := H
 replace H : (if t267 = true then ((spec_l1In.f a0_2 0 2).bind fun t268 => (some t268)) else (some false)) = some r := H
 have A4 := Aside0.mk A40
 clear A40
 by_cases c5 : t267 = true
 rotate_left
 ·replace c5 := Bool.eq_false_iff.mpr c5
  subst c5
  have H1 : (some false) = some r := by rw [if_neg (show ¬ (false = true) by decide)] at H; exact H
  clear H
  have H := H1
  clear H1
  obtain rfl := Option.some.inj H
  go_enter Try.func30, Try.ntmps30
  go_wp2_with (first | ((with_reducible refine gate_dst (N := 1) rfl ?_); refine box_event ?hg (N := 1) ?hd (cs := #[.slice A0_0 l0_0.length c0_0, .int .i64 a0_1, .int .i64 a0_2]) (t := 29) ?hr ?_; (case hd => rfl); (case hg => rfl); (case hr => first | (go_simp; done) | (go_simp; rfl)); intro gb265 hg w9 hbox hb; have n0_ := Aside0.mk (below_step (zB4_15) hb); have n1_ := Aside0.mk (hbox); have n2_ := Aside0.mk ((by rw [hg]; exact (below_size (zB4_15)) : w.heap.size ≤ gb265)); have n3_ := Aside0.mk ((by rw [hg]; exact (below_size (zB4_15)) : w.heap.size ≤ gb265)); clear HB; have HB := n0_; have BK265 := n1_; have GW265 := n2_; have GE265 := n3_; clear n0_ n1_ n2_ n3_; clear hb hbox hg; obtain ⟨hcz10_0, hcz10_1, hcz10_2, hfz10_0, hfz10_1, hfz10_2⟩ := zc4_3 (w := w9) BK265.out) | ((with_reducible refine gate_callee (f := 48) rfl ?_); refine goesL_ (some 5) rfl rfl Try.func48 (by kernel_rfl) rfl #[.slice A0_0 l0_0.length c0_0, .int .i64 4] rfl zT4 ?_; (with_reducible refine (spec_l1Words.calls k _ _ l0_0 4 true _ ?side1 ?side2 A2.out).mono ?_); (case side1 => exact zC4 (Kd.C_below HR0_0.out HB.out)); (case side2 => exact HC0_0.out); rintro e w' ⟨rfl, ⟨nd, rfl⟩⟩; refine ⟨_, rfl, ?_⟩) | (go_at_call 49; (with_reducible refine (spec_l1In.calls a0_1 0 23 false _ A4.out).mono ?_); rintro e w' ⟨rfl, ⟨nd, rfl⟩⟩))
  go_ret
  exact ⟨zE4, zB4_16⟩
 subst c5
 have H1 : ((spec_l1In.f a0_2 0 2).bind fun t268 => (some t268)) = some r := by rw [if_pos rfl] at H; exact H
 clear H
 have H := H1
 clear H1
 replace H := Option.bind_eq_some_iff.mp H
 obtain ⟨t268, A60, H⟩ := H
 replace H : (some t268) = some r := H
 have A6 := Aside0.mk A60
 clear A60
 obtain rfl := Option.some.inj H
 go_enter Try.func30, Try.ntmps30
 go_wp2_with (first | ((with_reducible refine gate_dst (N := 1) rfl ?_); refine box_event ?hg (N := 1) ?hd (cs := #[.slice A0_0 l0_0.length c0_0, .int .i64 a0_1, .int .i64 a0_2]) (t := 29) ?hr ?_; (case hd => rfl); (case hg => rfl); (case hr => first | (go_simp; done) | (go_simp; rfl)); intro gb265 hg w7 hbox hb; have n0_ := Aside0.mk (below_step (zB4_15) hb); have n1_ := Aside0.mk (hbox); have n2_ := Aside0.mk ((by rw [hg]; exact (below_size (zB4_15)) : w.heap.size ≤ gb265)); have n3_ := Aside0.mk ((by rw [hg]; exact (below_size (zB4_15)) : w.heap.size ≤ gb265)); clear HB; have HB := n0_; have BK265 := n1_; have GW265 := n2_; have GE265 := n3_; clear n0_ n1_ n2_ n3_; clear hb hbox hg; obtain ⟨hcz8_0, hcz8_1, hcz8_2, hfz8_0, hfz8_1, hfz8_2⟩ := zc4_3 (w := w7) BK265.out) | ((with_reducible refine gate_callee (f := 48) rfl ?_); refine goesL_ (some 5) rfl rfl Try.func48 (by kernel_rfl) rfl #[.slice A0_0 l0_0.length c0_0, .int .i64 4] rfl zT4 ?_; (with_reducible refine (spec_l1Words.calls k _ _ l0_0 4 true _ ?side1 ?side2 A2.out).mono ?_); (case side1 => exact zC4 (Kd.C_below HR0_0.out HB.out)); (case side2 => exact HC0_0.out); rintro e w' ⟨rfl, ⟨nd, rfl⟩⟩; refine ⟨_, rfl, ?_⟩) | (go_at_call 49; (with_reducible refine (spec_l1In.calls a0_1 0 23 true _ A4.out).mono ?_); rintro e w' ⟨rfl, ⟨nd, rfl⟩⟩) | (go_at_call 49; (with_reducible refine (spec_l1In.calls a0_2 0 2 t268 _ A6.out).mono ?_); rintro e w' ⟨rfl, ⟨nd, rfl⟩⟩))
 go_ret
 exact ⟨zE4, zB4_16⟩

end Go.Proofs.Ytmfhfnpinmlloaa.PFnGoes
