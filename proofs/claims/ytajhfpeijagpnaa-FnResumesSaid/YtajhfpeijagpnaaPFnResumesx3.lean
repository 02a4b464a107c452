-- made by wip/tools/myprint.py out of the seat's translation
import Derived.Test.YtajhfpeijagpnaaPFnResumesx0
import Derived.Test.YtajhfpeijagpnaaPFnResumesx2
namespace Go.Proofs.Ytajhfpeijagpnaa.PFnResumes
open Go.RowKit Go.Proofs.YtajhfpeijagpnaaW.PrintWords Go.Proofs.YtajhfpeijagpnaaW.PrintLast Go.Proofs.YtajhfpeijagpnaaW.PrintMore
attribute [local go_sem] max2_int min2_int max_two min_two max_three min_three max_four min_four   -- for this text's walks alone
set_option linter.unusedVariables false
set_option linter.unusedSimpArgs false
theorem zc3_3 {w : World} {g : Nat} {a0 a1 a2 : Value} {t : TypeId} (h : w.heap[g]? = some (.cells #[a0, a1, a2] t (0, 0))) : w.cell? ⟨g, 0, none⟩ = some a0 ∧ w.cell? ⟨g, 1, none⟩ = some a1 ∧ w.cell? ⟨g, 2, none⟩ = some a2 ∧ w.frozen? ⟨g, 0, none⟩ = false ∧ w.frozen? ⟨g, 1, none⟩ = false ∧ w.frozen? ⟨g, 2, none⟩ = false := ⟨(blk_cell h 0).trans rfl, (blk_cell h 1).trans rfl, (blk_cell h 2).trans rfl, blk_frozen h 0, blk_frozen h 1, blk_frozen h 2⟩
theorem zc3_5 {w : World} {g : Nat} {a0 a1 a2 a3 a4 : Value} {t : TypeId} (h : w.heap[g]? = some (.cells #[a0, a1, a2, a3, a4] t (0, 0))) : w.cell? ⟨g, 0, none⟩ = some a0 ∧ w.cell? ⟨g, 1, none⟩ = some a1 ∧ w.cell? ⟨g, 2, none⟩ = some a2 ∧ w.cell? ⟨g, 3, none⟩ = some a3 ∧ w.cell? ⟨g, 4, none⟩ = some a4 ∧ w.frozen? ⟨g, 0, none⟩ = false ∧ w.frozen? ⟨g, 1, none⟩ = false ∧ w.frozen? ⟨g, 2, none⟩ = false ∧ w.frozen? ⟨g, 3, none⟩ = false ∧ w.frozen? ⟨g, 4, none⟩ = false := ⟨(blk_cell h 0).trans rfl, (blk_cell h 1).trans rfl, (blk_cell h 2).trans rfl, (blk_cell h 3).trans rfl, (blk_cell h 4).trans rfl, blk_frozen h 0, blk_frozen h 1, blk_frozen h 2, blk_frozen h 3, blk_frozen h 4⟩
theorem zR3 {p q : Prop} (x : q) (h : q → p := by intro h; (with_reducible repeat (first | apply Kd.R_alloc | apply Kd.R_drewN | apply Kd.R_drew)); exact h) : p := h x
theorem zQ3 {p q : Prop} (x : q) (h : q → p := by intro h; (with_reducible repeat (first | apply Kd.Q_alloc | apply Kd.Q_drewN | apply Kd.Q_drew)); exact h) : p := h x
theorem zK3 {p q : Prop} (x : q) (h : q → p := by intro h; (with_reducible repeat (first | refine blk_drewN ?_ _ | refine blk_drew ?_ | refine blk_alloc ?_ _)); exact h) : p := h x
theorem zA3 {p : Prop} [Decidable p] (h : decide p = true := by first | (with_reducible assumption) | assumption) : p := of_decide_eq_true h
theorem zT3 {p : Prop} (h : p := by (try simp only [List.map_toArray, List.map_cons, List.map_nil]); first | done | rfl | (simp only [List.length_drop, List.length_take]; rfl)) : p := h
theorem zC3 {p q : Prop} (x : q) (h : q → p := by intro h; repeat (first | exact h | (with_reducible refine Kd.C_alloc ?_ _) | (with_reducible refine Kd.C_drewN ?_ _) | (with_reducible refine Kd.C_drew ?_))) : p := h x
theorem zb3 {W w w1 : World} {g : Nat} {o : Obj} (x : W.heap[g]? = some o) (hb : Below w.heap.size w w1) (h : W.heap[g]? = some o → w.heap[g]? = some o := by intro h; (with_reducible repeat (first | refine blk_drewN ?_ _ | refine blk_drew ?_ | refine blk_alloc ?_ _)); exact h) : w1.heap[g]? = some o := blk_below (h x) hb
theorem zh3 {W w w1 : World} {g g' : Nat} {o : Obj} (hk : KeepBut w w1 g none) (x : W.heap[g']? = some o) (hn : g' ≠ g) (h : W.heap[g']? = some o → w.heap[g']? = some o := by intro h; (with_reducible repeat (first | refine blk_drewN ?_ _ | refine blk_drew ?_ | refine blk_alloc ?_ _)); exact h) : w1.heap[g']? = some o := KeepBut.blk hk (h x) hn (by simp)
theorem zn3 {W w : World} {g g' : Nat} {o : Obj} (x : W.heap[g]? = some o) (hg : g' = w.heap.size) (h : W.heap[g]? = some o → w.heap[g]? = some o := by intro h; (with_reducible repeat (first | refine blk_drewN ?_ _ | refine blk_drew ?_ | refine blk_alloc ?_ _)); exact h) : g ≠ g' := by rw [hg]; exact Nat.ne_of_lt (blk_lt (h x))
theorem zm3 {W w : World} {g g' : Nat} {o : Obj} (x : W.heap[g]? = some o) (hg : g' = w.heap.size) (h : W.heap[g]? = some o → w.heap[g]? = some o := by intro h; (with_reducible repeat (first | refine blk_drewN ?_ _ | refine blk_drew ?_ | refine blk_alloc ?_ _)); exact h) : g' ≠ g := by rw [hg]; exact Nat.ne_of_gt (blk_lt (h x))
theorem zP3 {p q : Prop} (x : q) (h : q → p := by intro h; (with_reducible repeat (first | refine blk_drewN ?_ _ | refine blk_drew ?_ | refine blk_alloc ?_ _)); exact h) : p := h x
theorem zV3 {a b : Act} (h : a = b := by simp only [Act.put, List.setIfInBounds_toArray, List.set_cons_zero, List.set_cons_succ, i64_w, i32_w]; rfl) : a = b := h
theorem zE3 {p : Prop} (h : p := by first | rfl | (simp [errW_none, errW_some] <;> rfl) | (simp [*, errW_none, errW_some] <;> rfl)) : p := h
theorem zB3_0 {p : Prop} (h : p := by repeat (first | (with_reducible first | exact HI0.out | apply IsS90.alloc | apply IsS90.drewN | apply IsS90.drew | apply IsS90.set_1 | apply IsS90.set_2) | exact HI0.out)) : p := h
theorem zB3_1 {p : Prop} (h : p := by repeat (first | (with_reducible first | exact HK.out | apply KeepBut.set_ | apply keep_drewN | apply keep_drew | apply keep_alloc) | exact HK.out)) : p := h
theorem zB3_2 {p : Prop} (h : p := by repeat (first | (with_reducible first | exact HB.out | apply below_alloc | apply pw_below_drewN | apply below_drew1 | refine below_set ?_ (IsS90.ge HI0.out)) | exact HB.out)) : p := h
theorem zB3_3 {p : Prop} (h : p := by repeat (first | (with_reducible first | exact HI0.out | apply IsS90.alloc | apply IsS90.drewN | apply IsS90.drew | apply IsS90.set_1 | apply IsS90.set_2 | refine IsS90.far ?_ NB0_131.out _) | exact HI0.out)) : p := h
theorem zB3_4 {p : Prop} (h : p := by repeat (first | (with_reducible first | exact HB.out | apply below_alloc | apply pw_below_drewN | apply below_drew1 | refine below_set ?_ (IsS90.ge HI0.out) | refine below_set ?_ GE131.out) | exact HB.out)) : p := h
theorem zB3_5 {p : Prop} (h : p := by repeat (first | (with_reducible first | exact HK.out | apply KeepBut.set_ | apply keep_drewN | apply keep_drew | apply keep_alloc | refine keep_far ?_ GW131.out _) | exact HK.out)) : p := h
theorem zB3_6 {p : Prop} (h : p := by repeat (first | (with_reducible first | exact HI0.out | apply IsS90.alloc | apply IsS90.drewN | apply IsS90.drew | apply IsS90.set_1 | apply IsS90.set_2 | refine IsS90.far ?_ NB0_131.out _ | refine IsS90.far ?_ NB0_140.out _) | exact HI0.out)) : p := h
theorem zB3_7 {p : Prop} (h : p := by repeat (first | (with_reducible first | exact HK.out | apply KeepBut.set_ | apply keep_drewN | apply keep_drew | apply keep_alloc | refine keep_far ?_ GW131.out _ | refine keep_far ?_ GW140.out _) | exact HK.out)) : p := h
theorem zB3_8 {p : Prop} (h : p := by repeat (first | (with_reducible first | exact HB.out | apply below_alloc | apply pw_below_drewN | apply below_drew1 | refine below_set ?_ (IsS90.ge HI0.out) | refine below_set ?_ GE131.out | refine below_set ?_ GE140.out) | exact HB.out)) : p := h
theorem zB3_9 {p : Prop} (h : p := by repeat (first | (with_reducible first | exact HI0.out | apply IsS90.alloc | apply IsS90.drewN | apply IsS90.drew | apply IsS90.set_1 | apply IsS90.set_2 | refine IsS90.far ?_ HN0_go16.out _ | refine IsS90.far ?_ NB0_131.out _ | refine IsS90.far ?_ NB0_140.out _) | exact HI0.out)) : p := h
theorem zB3_10 {p : Prop} (h : p := by repeat (first | (with_reducible first | exact HK.out | apply KeepBut.set_ | apply keep_drewN | apply keep_drew | apply keep_alloc | refine keep_far ?_ GB16.out _ | refine keep_far ?_ GW131.out _ | refine keep_far ?_ GW140.out _) | exact HK.out)) : p := h
theorem zB3_11 {p : Prop} (h : p := by repeat (first | (with_reducible first | exact HB.out | apply below_alloc | apply pw_below_drewN | apply below_drew1 | refine below_set ?_ (Nat.le_trans HL.out GB16.out) | refine below_set ?_ (IsS90.ge HI0.out) | refine below_set ?_ GE131.out | refine below_set ?_ GE140.out) | exact HB.out)) : p := h
theorem zB3_12 {p : Prop} (h : p := by repeat (first | (with_reducible first | exact HI0.out | apply IsS90.alloc | apply IsS90.drewN | apply IsS90.drew | apply IsS90.set_1 | apply IsS90.set_2 | refine IsS90.far ?_ HN0_go37.out _ | refine IsS90.far ?_ NB0_131.out _ | refine IsS90.far ?_ NB0_140.out _) | exact HI0.out)) : p := h
theorem zB3_13 {p : Prop} (h : p := by repeat (first | (with_reducible first | exact HK.out | apply KeepBut.set_ | apply keep_drewN | apply keep_drew | apply keep_alloc | refine keep_far ?_ GB37.out _ | refine keep_far ?_ GW131.out _ | refine keep_far ?_ GW140.out _) | exact HK.out)) : p := h
theorem zB3_14 {p : Prop} (h : p := by repeat (first | (with_reducible first | exact HB.out | apply below_alloc | apply pw_below_drewN | apply below_drew1 | refine below_set ?_ (Nat.le_trans HL.out GB37.out) | refine below_set ?_ (IsS90.ge HI0.out) | refine below_set ?_ GE131.out | refine below_set ?_ GE140.out) | exact HB.out)) : p := h
theorem zB3_15 {p : Prop} (h : p := by repeat (first | (with_reducible first | exact HB.out | apply below_alloc | apply pw_below_drewN | apply below_drew1) | exact HB.out)) : p := h
theorem zB3_16 {p : Prop} (h : p := by repeat (first | (with_reducible first | exact HB.out | apply below_alloc | apply pw_below_drewN | apply below_drew1 | refine below_set ?_ GE176.out) | exact HB.out)) : p := h
theorem zB3_17 {p : Prop} (h : p := by repeat (first | (with_reducible first | exact HB.out | apply below_alloc | apply pw_below_drewN | apply below_drew1 | refine below_set ?_ GE183.out) | exact HB.out)) : p := h

/-! ### spec_l9DrawHart: function 77 -/
def spec_l9DrawHart.l0 : Nat → Int → List Int → Int → Int → List Int → Int → Int → Option (List Int × Int × Int × Int × Int)
 | 0, _, _, _, _, _, _, _ => none
 | k + 1, x4, x1000, x1001, x1002, x141000, x141001, x141002 => if x4 < 4 then ((spec_l1PickInt.f x1000 x1001 x1002 (([0, 1, 2, 20, 65535] : List Int))).bind fun bt144 => (if 0 ≤ x4 then (if x4 < (x141000.length : Int) then (spec_l9DrawHart.l0 k (wrap64 (x4 + 1)) x1000 bt144.2.1 bt144.2.2 (x141000.set (x4 : Int).toNat bt144.1) x141001 x141002) else (none)) else (none))) else ((spec_l1Below.f x1000 x1001 x1002 12).bind fun bt148 => (if bt148.1 = 0 then ((spec_l1Below.f x1000 bt148.2.1 bt148.2.2 5).bind fun bt151 => (some (x141000, x141001, wrap64 (bt151.1 - 1), bt151.2.1, bt151.2.2))) else (if bt148.1 = 1 then ((spec_l1PickInt.f x1000 bt148.2.1 bt148.2.2 (([(-1), 65536] : List Int))).bind fun bt157 => (if 0 < (x141000.length : Int) then (some ((x141000.set (0 : Int).toNat bt157.1), x141001, x141002, bt157.2.1, bt157.2.2)) else (none))) else (if bt148.1 = 2 then ((spec_l1PickInt.f x1000 bt148.2.1 bt148.2.2 (([(-1), 24] : List Int))).bind fun bt164 => (some (x141000, bt164.1, x141002, bt164.2.1, bt164.2.2))) else (if bt148.1 = 3 then (if (x141000.length : Int) = 4 then (some ((x141000.drop (1 : Int).toNat), x141001, x141002, bt148.2.1, bt148.2.2)) else (none)) else (some (x141000, x141001, x141002, bt148.2.1, bt148.2.2)))))))
def spec_l9DrawHart.f (k : Nat) (s0_0 : List Int) (s0_1 : Int) (s0_2 : Int) : Option (List Int × Int × Int × Int × Int) := (spec_l1Below.f s0_0 s0_1 s0_2 20).bind fun bt132 => ((spec_HartNew.f bt132.1).bind fun bt135 => (spec_l9DrawHart.l0 k 0 s0_0 bt132.2.1 bt132.2.2 bt135.1 bt135.2.1 bt135.2.2))
theorem spec_l9DrawHart.mono_l : ∀ k, (∀ y0 y1 y2 y3 y4 y5 y6, LeO (spec_l9DrawHart.l0 k y0 y1 y2 y3 y4 y5 y6) (spec_l9DrawHart.l0 (k + 1) y0 y1 y2 y3 y4 y5 y6))
 | 0 => fun _ _ _ _ _ _ _ r h => by simp [spec_l9DrawHart.l0] at h
 | k + 1 => by
  have ih0 := spec_l9DrawHart.mono_l k
  ·intro y0 y1 y2 y3 y4 y5 y6
   unfold spec_l9DrawHart.l0
   repeat' first
   | (with_reducible exact ih0 _ _ _ _ _ _ _)
   | (with_reducible exact LeO.refl _)
   | (with_reducible exact LeO.none _)
   | (with_reducible refine LeO.ite ?_ ?_)
   | (with_reducible refine LeO.bind ?_ (fun _ => ?_))
   | exact ih0 _ _ _ _ _ _ _
   | exact LeO.none _
   | refine LeO.ite ?_ ?_
   | refine LeO.bind ?_ (fun _ => ?_)
theorem spec_l9DrawHart.mono : ∀ a0 a1 a2 k, LeO (spec_l9DrawHart.f k a0 a1 a2) (spec_l9DrawHart.f (k + 1) a0 a1 a2) := by
 intro a0 a1 a2 k
 have ih0 := spec_l9DrawHart.mono_l k
 unfold spec_l9DrawHart.f
 repeat' first
   | (with_reducible exact ih0 _ _ _ _ _ _ _)
   | (with_reducible exact LeO.refl _)
   | (with_reducible exact LeO.none _)
   | (with_reducible refine LeO.ite ?_ ?_)
   | (with_reducible refine LeO.bind ?_ (fun _ => ?_))
   | exact ih0 _ _ _ _ _ _ _
   | exact LeO.none _
   | refine LeO.ite ?_ ?_
   | refine LeO.bind ?_ (fun _ => ?_)
def spec_l9DrawHart.T5 : Bool × List (List Nat × List Nat) := (true, [([], []), ([0], [0]), ([], []), ([], []), ([], []), ([3, 4], [3, 4]), ([1, 2, 0, 1, 2, 3, 4, 5], [1, 2]), ([6, 5, 5, 0, 1, 2, 3, 4, 5], [5, 6])])
def spec_l9DrawHart.B5 : List Nat := [0, 1, 0, 0, 0, 24, 63, 127]
theorem spec_l9DrawHart.tab5 : rtab .any (opsOf Try.f77 5) = spec_l9DrawHart.T5 := by kernel_rfl
theorem spec_l9DrawHart.bits5 : waitsOk spec_l9DrawHart.T5.2 spec_l9DrawHart.B5 = true := by kernel_rfl
theorem QR_of {e b : Nat} {ok : Nat → Prop} {W : World} {v : Value} {xs : List Int} (h : Kd.R (Kd.int .i64) e W b ok v xs) : Kd.Q (Kd.int .i64) e W b ok v xs ∧ (xs.length = 4 → Kd.R (Kd.int .i64) e W b ok v xs) := ⟨Kd.Q_of_R h, fun _ => h⟩
set_option maxHeartbeats 8000000 in
set_option maxRecDepth 100000 in
theorem spec_l9DrawHart.calls (k : Nat) (g : Nat) (s0_0 : List Int) (s0_1 : Int) (s0_2 : Int) (r1 : List Int) (r2 : Int) (r3 : Int) (r4 : Int) (r5 : Int) (w0 w : World) (hI : IsS90 w0 w g s0_0 s0_1 s0_2) (hB : Below w0.heap.size w0 w) (h : spec_l9DrawHart.f k s0_0 s0_1 s0_2 = some (r1, r2, r3, r4, r5)) :
  Calls Try.prog 77 #[.pointer (some ⟨g, 0, none⟩)] w fun e w' => ∃ v0_ : Value, e = .returned (.agg #[v0_, .int .i64 r2, .int .i64 r3]) ∧ (Kd.Q (Kd.int .i64) 3 w' w.heap.size (fun _ => True) v0_ r1 ∧ (r1.length = 4 → Kd.R (Kd.int .i64) 3 w' w.heap.size (fun _ => True) v0_ r1)) ∧ IsS90 w0 w' g s0_0 r4 r5 ∧ Below w0.heap.size w0 w' ∧ KeepBut w w' g none := by
 have hu47 := Try.underlying47
 have HI0 := Aside0.mk hI
 have HK := Aside0.mk (KeepBut.refl w g none)
 have HL := Aside0.mk hB.size
 clear hI
 have HW0 := Aside0.mk hB.size
 have HB := Aside0.mk hB
 clear hB
 have H : ((spec_l1Below.f s0_0 s0_1 s0_2 20).bind fun bt132 => ((spec_HartNew.f bt132.1).bind fun bt135 => (spec_l9DrawHart.l0 k 0 s0_0 bt132.2.1 bt132.2.2 bt135.1 bt135.2.1 bt135.2.2))) = some (r1, r2, r3, r4, r5) := h
 clear h
 replace H := Option.bind_eq_some_iff.mp H
 obtain ⟨⟨t132, t133, t134⟩, A20, H⟩ := H
 replace H : ((spec_HartNew.f t132).bind fun bt135 => (spec_l9DrawHart.l0 k 0 s0_0 t133 t134 bt135.1 bt135.2.1 bt135.2.2)) = some (r1, r2, r3, r4, r5) := H
 have A2 := Aside0.mk A20
 clear A20
 replace H := Option.bind_eq_some_iff.mp H
 obtain ⟨⟨t135, t138, t139⟩, A30, H⟩ := H
 replace H : (spec_l9DrawHart.l0 k 0 s0_0 t133 t134 t135 t138 t139) = some (r1, r2, r3, r4, r5) := H
 have A3 := Aside0.mk A30
 clear A30
 have H' := Aside0.mk H
 clear H
 go_enter Try.func77, Try.ntmps77
 go_wp2_with (first | ((with_reducible refine gate_dst (N := 2) rfl ?_); refine box_event ?hg (N := 2) ?hd (cs := #[.slice none 0 0, .int .i64 0, .int .i64 0]) (t := 47) ?hr ?_; (case hd => rfl); (case hg => rfl); (case hr => first | (go_simp; done) | (go_simp; rfl)); intro gb131 hg w4 hbox hb; have n0_ := Aside0.mk (IsS90.below (zB3_0) hb); have n1_ := Aside0.mk (KeepBut.trans (zB3_1) (KeepBut.of_below hb g none) (.inl rfl)); have n2_ := Aside0.mk (below_step (zB3_2) hb); have n3_ := Aside0.mk (hbox); have n4_ := Aside0.mk ((by rw [hg]; exact (keep_size (w := w) (g := g) (row := none) (zB3_1)) : w.heap.size ≤ gb131)); have n5_ := Aside0.mk ((Nat.le_trans HW0.out (by rw [hg]; exact (keep_size (w := w) (g := g) (row := none) (zB3_1)) : w.heap.size ≤ gb131) : w0.heap.size ≤ gb131)); have n6_ := Aside0.mk ((by rw [hg]; exact Nat.ne_of_lt (IsS90.lt (show IsS90 w0 _ g s0_0 s0_1 s0_2 from zB3_0)) : g ≠ gb131)); have n7_ := Aside0.mk ((by rw [hg]; exact Nat.ne_of_gt (IsS90.lt (show IsS90 w0 _ g s0_0 s0_1 s0_2 from zB3_0)) : gb131 ≠ g)); clear HI0; clear HK; clear HB; have HI0 := n0_; have HK := n1_; have HB := n2_; have BK131 := n3_; have GW131 := n4_; have GE131 := n5_; have NB0_131 := n6_; have NB131_0 := n7_; clear n0_ n1_ n2_ n3_ n4_ n5_ n6_ n7_; clear hb hbox hg) | ((with_reducible refine gate_callee (f := 52) rfl ?_); refine goesL_ (some 6) rfl rfl Try.func52 (by kernel_rfl) rfl #[.pointer (some ⟨g, 0, none⟩), .int .i64 20] rfl zT3 ?_; (with_reducible refine (spec_l1Below.calls g s0_0 s0_1 s0_2 20 t132 t133 t134 w0 _ ?side1 ?side2 A2.out).mono ?_); (case side1 => exact zB3_3); (case side2 => exact zB3_4); rintro e w5 ⟨rfl, hi, hb, hk⟩; refine ⟨_, rfl, ?_⟩; have n0_ := Aside0.mk (zh3 hk BK131.out NB131_0.out); have n1_ := Aside0.mk (KeepBut.trans (zB3_5) hk (.inl rfl)); have n2_ := Aside0.mk (hb); have n3_ := Aside0.mk (hi); clear BK131; clear HK; clear HB; clear HI0; have BK131 := n0_; have HK := n1_; have HB := n2_; have HI0 := n3_; clear n0_ n1_ n2_ n3_; (try clear hb); (try clear hb2); (try clear hk); (try clear hi)) | ((with_reducible refine gate_callee (f := 82) rfl ?_); refine goesL_ (some 7) rfl rfl Try.func82 (by kernel_rfl) rfl #[.int .i64 t132] rfl zT3 ?_; (with_reducible refine (spec_HartNew.calls t132 t135 t138 t139 _ A3.out).mono ?_); rintro e w6 ⟨v136, rfl, ho0, hb⟩; refine ⟨_, rfl, ?_⟩; have n0_ := Aside0.mk (Kd.R_lower ho0 (keep_size (w := w) (g := g) (row := none) (zB3_5))); have n1_ := Aside0.mk (IsS90.below (zB3_3) hb); have n2_ := Aside0.mk (zb3 BK131.out hb); have n3_ := Aside0.mk (KeepBut.trans (zB3_5) (KeepBut.of_below hb g none) (.inl rfl)); have n4_ := Aside0.mk (below_step (zB3_4) hb); clear HI0; clear BK131; clear HK; clear HB; have HO137 := n0_; have HI0 := n1_; have BK131 := n2_; have HK := n3_; have HB := n4_; clear n0_ n1_ n2_ n3_ n4_; (try clear hb); (try clear hb2); (try clear hk); (try clear hi); (try clear ho0)) | ((with_reducible refine gate_dst (N := 3) rfl ?_); refine box_event ?hg (N := 3) ?hd (cs := #[.slice none 0 0, .int .i64 0, .int .i64 0]) (t := 47) ?hr ?_; (case hd => rfl); (case hg => rfl); (case hr => first | (go_simp; done) | (go_simp; rfl)); intro gb140 hg w7 hbox hb; have n0_ := Aside0.mk (Kd.R_below (zR3 HO137.out) hb); have n1_ := Aside0.mk (IsS90.below (zB3_3) hb); have n2_ := Aside0.mk (zb3 BK131.out hb); have n3_ := Aside0.mk (KeepBut.trans (zB3_5) (KeepBut.of_below hb g none) (.inl rfl)); have n4_ := Aside0.mk (below_step (zB3_4) hb); have n5_ := Aside0.mk (hbox); have n6_ := Aside0.mk ((by rw [hg]; exact (keep_size (w := w) (g := g) (row := none) (zB3_5)) : w.heap.size ≤ gb140)); have n7_ := Aside0.mk ((Nat.le_trans HW0.out (by rw [hg]; exact (keep_size (w := w) (g := g) (row := none) (zB3_5)) : w.heap.size ≤ gb140) : w0.heap.size ≤ gb140)); have n8_ := Aside0.mk ((zn3 BK131.out hg : gb131 ≠ gb140)); have n9_ := Aside0.mk ((zm3 BK131.out hg : gb140 ≠ gb131)); have n10_ := Aside0.mk ((by rw [hg]; exact Nat.ne_of_lt (IsS90.lt (show IsS90 w0 _ g s0_0 t133 t134 from zB3_3)) : g ≠ gb140)); have n11_ := Aside0.mk ((by rw [hg]; exact Nat.ne_of_gt (IsS90.lt (show IsS90 w0 _ g s0_0 t133 t134 from zB3_3)) : gb140 ≠ g)); clear HO137; clear HI0; clear BK131; clear HK; clear HB; have HO137 := n0_; have HI0 := n1_; have BK131 := n2_; have HK := n3_; have HB := n4_; have BK140 := n5_; have GW140 := n6_; have GE140 := n7_; have NB131_140 := n8_; have NB140_131 := n9_; have NB0_140 := n10_; have NB140_0 := n11_; clear n0_ n1_ n2_ n3_ n4_ n5_ n6_ n7_ n8_ n9_ n10_ n11_; clear hb hbox hg; obtain ⟨Ao8, co8, eo8⟩ := Kd.R_slice HO137.out; subst eo8; have hnb9 := NB140_131.out; have hnc9 := NB131_140.out; have hnb10 := NB140_0.out; have hnc10 := NB0_140.out; obtain ⟨hcz11_0, hcz11_1, hcz11_2, hfz11_0, hfz11_1, hfz11_2⟩ := zc3_3 (w := w7) BK140.out))
 go_loopg [4] k (fun kq v4 w' => ∃ (x4_1 : Int) (x1001_1 : Int) (x1002_1 : Int) (x141000_1 : List Int) (u141000 : Value), v4 = .int .i64 x4_1 ∧ Aside0 (spec_l9DrawHart.l0 kq x4_1 s0_0 x1001_1 x1002_1 x141000_1 t138 t139 = some (r1, r2, r3, r4, r5)) ∧ Aside0 (kq ≤ k) ∧ Aside0 (Kd.R (Kd.int .i64) 3 w' w.heap.size (fun _ => True) u141000 x141000_1) ∧ Aside0 (w'.heap[gb131]? = some (.cells #[(.slice none 0 0), .int .i64 0, .int .i64 0] 47 (0, 0))) ∧ Aside0 (w'.heap[gb140]? = some (.cells #[u141000, .int .i64 t138, .int .i64 t139] 47 (0, 0))) ∧ Aside0 (IsS90 w0 w' g s0_0 x1001_1 x1002_1) ∧ Aside0 (KeepBut w w' g none) ∧ Aside0 (Below w0.heap.size w0 w'))
 case atStart => exact ⟨(0), (t133), (t134), (t135), (.slice Ao8 t135.length co8), (by first | rfl | (simp; done) | (simp [*]; done)), H', ⟨Nat.le_refl _⟩, ⟨by (with_reducible repeat (first | apply Kd.R_alloc | apply Kd.R_drewN | apply Kd.R_drew)); exact Kd.R_mono (Kd.R_far (p := ⟨gb140, 2, none⟩) (Kd.R_far (p := ⟨gb140, 1, none⟩) (Kd.R_far (p := ⟨gb140, 0, none⟩) (Kd.R_types HO137.out BK140.out (by decide)) (fun _ hk => hk.2) (.slice Ao8 t135.length co8)) (fun _ hk => hk.2) (.int .i64 t138)) (fun _ hk => hk.2) (.int .i64 t139)) (fun _ hk => trivial)⟩, ⟨by refine zP3 ?_; refine blk_far ?_ NB131_140.out _; refine zP3 ?_; refine blk_far ?_ NB131_140.out _; refine zP3 ?_; refine blk_far ?_ NB131_140.out _; refine zP3 ?_; exact BK131.out⟩, ⟨by refine zP3 ?_; refine blk_put (cs := #[.slice Ao8 t135.length co8, .int .i64 t138, .int .i64 0]) ?_ 2 _ rfl; refine zP3 ?_; refine blk_put (cs := #[.slice Ao8 t135.length co8, .int .i64 0, .int .i64 0]) ?_ 1 _ rfl; refine zP3 ?_; refine blk_put (cs := #[.slice none 0 0, .int .i64 0, .int .i64 0]) ?_ 0 _ rfl; refine zP3 ?_; exact BK140.out⟩, ⟨zB3_6⟩, ⟨zB3_7⟩, ⟨zB3_8⟩⟩
 case round =>
  clear H'
  try clear c1
  try clear p2
  try clear c5
  try clear c7
  try clear c8
  try clear c9
  try clear c10
  try clear hcz11_0
  try clear hcz11_1
  try clear hcz11_2
  try clear hfz11_0
  try clear hfz11_1
  try clear hfz11_2
  obtain ⟨x4_1, x1001_1, x1002_1, x141000_1, u141000, rfl, HA, HK1, HO_141000, BK131, BK140, HI0, HK, HB⟩ := hrel
  cases gk with
  | zero => exact absurd HA.out (by simp [spec_l9DrawHart.l0])
  | succ k1 =>
   have H := HA.out
   clear HA
   simp only [spec_l9DrawHart.l0] at H
   by_cases c12 : x4_1 < 4
   ·rw [if_pos c12] at H
    have c12b0 : decide (x4_1 < 4) = true := decide_eq_true c12
    clear c12
    obtain ⟨y141, hy141⟩ : ∃ y_ : List Int, y_ = (([0, 1, 2, 20, 65535] : List Int)) := ⟨_, rfl⟩
    replace H : ((spec_l1PickInt.f s0_0 x1001_1 x1002_1 y141).bind fun bt144 => (if 0 ≤ x4_1 then (if x4_1 < (x141000_1.length : Int) then (spec_l9DrawHart.l0 k1 (wrap64 (x4_1 + 1)) s0_0 bt144.2.1 bt144.2.2 (x141000_1.set (x4_1 : Int).toNat bt144.1) t138 t139) else (none)) else (none))) = some (r1, r2, r3, r4, r5) := by first | (rw [hy141]; with_reducible exact H) | (have H2_ := (Option.bind_some _ _).symm.trans H; rw [hy141]; with_reducible exact H2_) | (have H2_ := (Option.bind_some _ _).symm.trans H; with_reducible exact H2_) | with_reducible exact H | (rw [hy141]; exact H) | exact H
    have Ny141 := Aside0.mk hy141
    clear hy141
    replace H := Option.bind_eq_some_iff.mp H
    obtain ⟨⟨t144, t145, t146⟩, A130, H⟩ := H
    replace H : (if 0 ≤ x4_1 then (if x4_1 < (x141000_1.length : Int) then (spec_l9DrawHart.l0 k1 (wrap64 (x4_1 + 1)) s0_0 t145 t146 (x141000_1.set (x4_1 : Int).toNat t144) t138 t139) else (none)) else (none)) = some (r1, r2, r3, r4, r5) := H
    have A13 := Aside0.mk A130
    clear A130
    by_cases c14 : 0 ≤ x4_1
    rotate_left
    ·rw [if_neg c14] at H
     exact absurd H (by simp)
    rw [if_pos c14] at H
    have c14b0 : decide (0 ≤ x4_1) = true := decide_eq_true c14
    clear c14
    by_cases c15 : x4_1 < (x141000_1.length : Int)
    rotate_left
    ·rw [if_neg c15] at H
     exact absurd H (by simp)
    rw [if_pos c15] at H
    have c15b0 : decide (x4_1 < (x141000_1.length : Int)) = true := decide_eq_true c15
    clear c15
    obtain ⟨y147, hy147⟩ : ∃ y_ : List Int, y_ = (x141000_1.set (x4_1 : Int).toNat t144) := ⟨_, rfl⟩
    replace H : (spec_l9DrawHart.l0 k1 (wrap64 (x4_1 + 1)) s0_0 t145 t146 y147 t138 t139) = some (r1, r2, r3, r4, r5) := by first | (rw [hy147]; with_reducible exact H) | (have H2_ := (Option.bind_some _ _).symm.trans H; rw [hy147]; with_reducible exact H2_) | (have H2_ := (Option.bind_some _ _).symm.trans H; with_reducible exact H2_) | with_reducible exact H | (rw [hy147]; exact H) | exact H
    have Ny147 := Aside0.mk hy147
    clear hy147
    have H' := Aside0.mk H
    clear H
    try go_wp2
    have n0_ := Aside0.mk (Kd.R_drew HO_141000.out)
    have n1_ := Aside0.mk (blk_drew BK131.out)
    have n2_ := Aside0.mk (blk_drew BK140.out)
    have n3_ := Aside0.mk (IsS90.drew HI0.out)
    have n4_ := Aside0.mk (keep_drew HK.out)
    have n5_ := Aside0.mk (below_drew1 HB.out)
    clear HO_141000 BK131 BK140 HI0 HK HB
    have HO_141000 := n0_
    have BK131 := n1_
    have BK140 := n2_
    have HI0 := n3_
    have HK := n4_
    have HB := n5_
    clear n0_ n1_ n2_ n3_ n4_ n5_
    refine start_ (n := 8) (S := fun w' => w'.cell? ⟨gb140, 0, none⟩ = some (u141000) ∧ w'.cell? ⟨gb140, 1, none⟩ = some (.int .i64 t138) ∧ w'.cell? ⟨gb140, 2, none⟩ = some (.int .i64 t139)) (ds := [7]) #[false, false, false, false, false, false, false, false] (by kernel_rfl) rfl rfl ⟨(blk_cell BK140.out 0).trans rfl, (blk_cell BK140.out 1).trans rfl, (blk_cell BK140.out 2).trans rfl⟩ (fun hHeld => ?_); refine with_tabW spec_l9DrawHart.tab5 spec_l9DrawHart.bits5 (fun HT_ HW_ => ?_)
    generalize wr.drew = w17 at HO_141000 BK131 BK140 HI0 HK HB hHeld ⊢
    refine pure_ (i := 0) (N := some 12) (v := ?_) (a' := ?_) #[true, false, false, false, false, false, false, false] rfl rfl (any_of HT_.out (by kernel_rfl)) (fun _ _ _ h => h) (Or.inl ⟨by rfl, ?_⟩) ?_ ?_
    rotate_left
    ·intro w'
     go_simp
     with_reducible rfl
    rotate_left
    ·exact zV3
    refine pure_ (i := 2) (N := some 14) (v := ?_) (a' := ?_) #[true, false, true, false, false, false, false, false] rfl rfl (any_of HT_.out (by kernel_rfl)) (fun _ _ _ h => h) (Or.inl ⟨by rfl, ?_⟩) ?_ ?_
    rotate_left
    ·intro w'
     go_simp
     with_reducible rfl
    rotate_left
    ·exact zV3
    refine pure_ (i := 3) (N := some 15) (v := ?_) (a' := ?_) #[true, false, true, true, false, false, false, false] rfl rfl (any_of HT_.out (by kernel_rfl)) (fun _ _ _ h => h) (Or.inl ⟨by rfl, ?_⟩) ?_ ?_
    rotate_left
    ·intro w'
     go_simp
     with_reducible rfl
    rotate_left
    ·exact zV3
    refine take_ (i := 1) (N := some 13) (v := ?_) (a' := ?_) #[true, true, true, true, false, false, false, false] rfl rfl (take_ofW HT_.out HW_.out (by kernel_rfl)) (fun _ _ _ h => h) (Or.inl ⟨by rfl, ?_⟩) hHeld ?_ ?_
    rotate_left
    ·rintro w' ⟨s0, s1, s2⟩
     go_simp
     with_reducible rfl
    rotate_left
    ·exact zV3
    refine one_ (i := 4) (N := some 16) #[true, true, true, true, true, false, false, false] rfl rfl (one_of HT_.out (by kernel_rfl)) (by decide) (fun K hK => ?_)
    refine Kd.R_lit_step (Kd.int .i64) _ 3 ?hg (N := 16) ?hd (xs := ([0, 1, 2, 20, 65535] : List Int)) (inner := [.int .i64 0, .int .i64 1, .int .i64 2, .int .i64 20, .int .i64 65535]) (ok := fun _ => True) (okp := fun _ => True) ?hr ?hp (fun _ hk => hk) trivial (Below.refl _ _) (Nat.le_refl _) (by simp) ?_; (case hd => rfl); (case hg => rfl); (case hr => first | (go_simp; done) | (go_simp; rfl)); (case hp => exact (Reps.one (show Kd.M (Kd.int .i64) _ _ _ 0 [.int .i64 0] from rfl) (Reps.one (show Kd.M (Kd.int .i64) _ _ _ 1 [.int .i64 1] from rfl) (Reps.one (show Kd.M (Kd.int .i64) _ _ _ 2 [.int .i64 2] from rfl) (Reps.one (show Kd.M (Kd.int .i64) _ _ _ 20 [.int .i64 20] from rfl) (Reps.one (show Kd.M (Kd.int .i64) _ _ _ 65535 [.int .i64 65535] from rfl) (Reps.none _ _)))))))
    intro v142 w18 ho19 hb hg_ hnew_
    clear hg_ hnew_
    (first | rw [← Ny141.out] at ho19 | (simp only [Int.reduceToNat] at ho19; rw [← Ny141.out] at ho19))
    have n0_ := Aside0.mk (Kd.R_elder' (zR3 HO_141000.out) (Kd.R_base ho19) hb)
    have n1_ := Aside0.mk (Kd.R_lower (Kd.R_new' ho19 (Kd.R_lt (zR3 HO_141000.out))) (keep_size (w := w) (g := g) (row := none) (zB3_7)))
    have n2_ := Aside0.mk (zb3 BK131.out hb)
    have n3_ := Aside0.mk (zb3 BK140.out hb)
    have n4_ := Aside0.mk (IsS90.below (zB3_6) hb)
    have n5_ := Aside0.mk (KeepBut.trans (zB3_7) (KeepBut.of_below hb g none) (.inl rfl))
    have n6_ := Aside0.mk (below_step (zB3_8) hb)
    clear HO_141000 BK131 BK140 HI0 HK HB
    have HO_141000 := n0_
    have HO143 := n1_
    have BK131 := n2_
    have BK140 := n3_
    have HI0 := n4_
    have HK := n5_
    have HB := n6_
    clear n0_ n1_ n2_ n3_ n4_ n5_ n6_ hb ho19
    obtain ⟨Ao20, co20, eo20⟩ := Kd.R_slice HO143.out
    (first | subst eo20 | (injection eo20 with f1_ f2_ f3_; have f4_ := f1_.symm; have f5_ := f3_.symm; clear f1_ f2_ f3_; subst f4_; subst f5_))
    refine hK.out _ _ ⟨(blk_cell BK140.out 0).trans rfl, (blk_cell BK140.out 1).trans rfl, (blk_cell BK140.out 2).trans rfl⟩ (fun hHeld => ?_)
    clear hK K
    refine norm_ (a' := ?_) ?_ ?_
    rotate_left
    ·show Act.put _ (some 16) _ = _
     simp only [Act.put, List.setIfInBounds_toArray, List.set_cons_zero, List.set_cons_succ, i64_w, i32_w]
     rfl
    refine one_ (i := 5) (N := some 17) #[true, true, true, true, true, true, false, false] rfl rfl (one_of HT_.out (by kernel_rfl)) (by decide) (fun K hK => ?_)
    refine goes_ Try.func81 (by kernel_rfl) rfl #[.pointer (some ⟨g, 0, none⟩), .slice Ao20 y141.length co20] (by rfl) rfl rfl zT3 ?_
    with_reducible refine (spec_l1PickInt.calls g s0_0 x1001_1 x1002_1 _ _ y141 t144 t145 t146 w0 _ ?side1 ?side2 ?side3 ?side4 ?side5 A13.out).mono ?_
    (case side1 => exact zB3_6)
    (case side2 => exact zB3_8)
    (case side3 => exact zC3 (Kd.R_reads' HO143.out).2.2)
    (case side4 => exact (Kd.R_reads' HO143.out).2.1)
    (case side5 => exact far_slice (IsS90.own_ne HI0.out HO143.out (by decide)))
    rintro e w21 ⟨rfl, hi, hb, hk⟩
    refine ⟨_, rfl, ?_⟩
    have n0_ := Aside0.mk (Kd.R_mono (Kd.R_keep (IsS90.apart (show IsS90 w0 _ g s0_0 x1001_1 x1002_1 from zB3_6) (zR3 HO_141000.out) (by decide)) hk (fun _ h => h.2)) (fun _ h => h.1))
    have n1_ := Aside0.mk (zh3 hk BK131.out NB131_0.out)
    have n2_ := Aside0.mk (zh3 hk BK140.out NB140_0.out)
    have n3_ := Aside0.mk (Kd.R_mono (Kd.R_keep (IsS90.apart (show IsS90 w0 _ g s0_0 x1001_1 x1002_1 from zB3_6) (zR3 HO143.out) (by decide)) hk (fun _ h => h.2)) (fun _ h => h.1))
    have n4_ := Aside0.mk (KeepBut.trans (zB3_7) hk (.inl rfl))
    have n5_ := Aside0.mk (hb)
    have n6_ := Aside0.mk (hi)
    clear HO_141000 BK131 BK140 HO143 HK HB HI0
    have HO_141000 := n0_
    have BK131 := n1_
    have BK140 := n2_
    have HO143 := n3_
    have HK := n4_
    have HB := n5_
    have HI0 := n6_
    clear n0_ n1_ n2_ n3_ n4_ n5_ n6_
    (try clear hb)
    (try clear hb2)
    (try clear hk)
    (try clear hi)
    have p16 : 0 ≤ (x4_1 : Int) := zA3
    have q16 : (x4_1 : Int) < ((x141000_1.length : Int) : Int) := zA3
    obtain ⟨go16, co16, eo16, gb16, gl16, cl16, HG16⟩ := Kd.R_form HO_141000.out (by omega)
    (first | cases eo16 | (injection eo16 with ea_ en_ ec_; (first | subst ea_ | (injection ea_ with ea_; subst ea_)); subst ec_; clear en_))
    have GB16 := Aside0.mk gb16
    have GG16 := Aside0.mk HG16
    clear gb16 gl16 HG16
    obtain ⟨hx16_0, hf16_0⟩ := Kd.R_celln 0 HO_141000.out (x4_1 : Int) p16 q16
    replace p16 := eq_true p16
    replace q16 := eq_true q16
    have HN0_go16 := Aside0.mk (show g ≠ go16 from by have h_ := IsS90.own_ne HI0.out HO_141000.out (by decide); intro e_; exact h_ (by rw [e_]; rfl))
    have HP22 := Kd.R_putn HO_141000.out (x4_1 : Int) t144
    rw [← Ny147.out] at HP22
    have HQ22 := Aside0.mk HP22
    clear HP22
    refine hK.out _ _ ⟨(blk_cell BK140.out 0).trans rfl, (blk_cell BK140.out 1).trans rfl, (blk_cell BK140.out 2).trans rfl⟩ (fun hHeld => ?_)
    clear hK K
    refine norm_ (a' := ?_) ?_ ?_
    rotate_left
    ·show Act.put _ (some 17) _ = _
     simp only [Act.put, List.setIfInBounds_toArray, List.set_cons_zero, List.set_cons_succ, i64_w, i32_w]
     rfl
    refine pure_ (i := 6) (N := some 18) (v := ?_) (a' := ?_) #[true, true, true, true, true, true, true, false] rfl rfl (any_of HT_.out (by kernel_rfl)) (fun _ _ _ h => h) (Or.inl ⟨by rfl, ?_⟩) ?_ ?_
    rotate_left
    ·intro w'
     go_simp
     with_reducible rfl
    rotate_left
    ·exact zV3
    refine last_ (i := 7) (N := none) #[true, true, true, true, true, true, true, true] rfl rfl (one_of HT_.out (by kernel_rfl)) (by decide) (fun K hK => ?_)
    refine skip_ (w1 := ?_) (by rfl) rfl ?_ ?_
    rotate_left
    ·go_simp
     rfl
    refine hK.out _ _ ?_
    clear hK K
    refine done_ (done_of HT_.out (by kernel_rfl)) ?_
    try go_wp2
    go_roundg k1
    case measure => have := HK1.out; omega
    case rel => exact ⟨(wrap64 (x4_1 + 1)), (t145), (t146), (y147), (.slice (some ⟨go16, 0, none⟩) x141000_1.length co16), (by first | rfl | (simp; done) | (simp [*]; done)), H', ⟨by have := HK1.out; omega⟩, ⟨by (with_reducible repeat (first | apply Kd.R_alloc | apply Kd.R_drewN | apply Kd.R_drew)); exact Kd.R_mono HQ22.out (fun _ hk => trivial)⟩, ⟨by refine zP3 ?_; refine blk_far ?_ (by have h_ := Kd.R_ne HO_141000.out BK131.out (by decide); intro e_; exact h_ (by rw [e_]; rfl)) _; refine zP3 ?_; exact BK131.out⟩, ⟨by refine zP3 ?_; refine blk_far ?_ (by have h_ := Kd.R_ne HO_141000.out BK140.out (by decide); intro e_; exact h_ (by rw [e_]; rfl)) _; refine zP3 ?_; exact BK140.out⟩, ⟨zB3_9⟩, ⟨zB3_10⟩, ⟨zB3_11⟩⟩
   rw [if_neg c12] at H
   have c12b0 : decide (x4_1 < 4) = false := decide_eq_false c12
   clear c12
   replace H := Option.bind_eq_some_iff.mp H
   obtain ⟨⟨t148, t149, t150⟩, A230, H⟩ := H
   replace H : (if t148 = 0 then ((spec_l1Below.f s0_0 t149 t150 5).bind fun bt151 => (some (x141000_1, t138, wrap64 (bt151.1 - 1), bt151.2.1, bt151.2.2))) else (if t148 = 1 then ((spec_l1PickInt.f s0_0 t149 t150 (([(-1), 65536] : List Int))).bind fun bt157 => (if 0 < (x141000_1.length : Int) then (some ((x141000_1.set (0 : Int).toNat bt157.1), t138, t139, bt157.2.1, bt157.2.2)) else (none))) else (if t148 = 2 then ((spec_l1PickInt.f s0_0 t149 t150 (([(-1), 24] : List Int))).bind fun bt164 => (some (x141000_1, bt164.1, t139, bt164.2.1, bt164.2.2))) else (if t148 = 3 then (if (x141000_1.length : Int) = 4 then (some ((x141000_1.drop (1 : Int).toNat), t138, t139, t149, t150)) else (none)) else (some (x141000_1, t138, t139, t149, t150)))))) = some (r1, r2, r3, r4, r5) := H
   have A23 := Aside0.mk A230
   clear A230
   by_cases c24 : t148 = 0
   ·rw [if_pos c24] at H
    have c24b0 : (t148 == 0) = true := beq_iff_eq.mpr c24
    have c24b1 : (t148 != 0) = false := bne_eq_false_iff_eq.mpr c24
    clear c24
    replace H := Option.bind_eq_some_iff.mp H
    obtain ⟨⟨t151, t152, t153⟩, A250, H⟩ := H
    replace H : (some (x141000_1, t138, wrap64 (t151 - 1), t152, t153)) = some (r1, r2, r3, r4, r5) := H
    have A25 := Aside0.mk A250
    clear A250
    simp only [Option.some.injEq, Prod.mk.injEq] at H
    obtain ⟨rfl, rfl, rfl, rfl, rfl⟩ := H
    go_wp2_with (first | ((with_reducible refine gate_callee (f := 52) rfl ?_); refine goesL_ (some 20) rfl rfl Try.func52 (by kernel_rfl) rfl #[.pointer (some ⟨g, 0, none⟩), .int .i64 12] rfl zT3 ?_; (with_reducible refine (spec_l1Below.calls g s0_0 x1001_1 x1002_1 12 t148 t149 t150 w0 _ ?side1 ?side2 A23.out).mono ?_); (case side1 => exact zB3_6); (case side2 => exact zB3_8); rintro e w26 ⟨rfl, hi, hb, hk⟩; refine ⟨_, rfl, ?_⟩; have n0_ := Aside0.mk (Kd.R_mono (Kd.R_keep (IsS90.apart (show IsS90 w0 _ g s0_0 x1001_1 x1002_1 from zB3_6) (zR3 HO_141000.out) (by decide)) hk (fun _ h => h.2)) (fun _ h => h.1)); have n1_ := Aside0.mk (zh3 hk BK131.out NB131_0.out); have n2_ := Aside0.mk (zh3 hk BK140.out NB140_0.out); have n3_ := Aside0.mk (KeepBut.trans (zB3_7) hk (.inl rfl)); have n4_ := Aside0.mk (hb); have n5_ := Aside0.mk (hi); clear HO_141000; clear BK131; clear BK140; clear HK; clear HB; clear HI0; have HO_141000 := n0_; have BK131 := n1_; have BK140 := n2_; have HK := n3_; have HB := n4_; have HI0 := n5_; clear n0_ n1_ n2_ n3_ n4_ n5_; (try clear hb); (try clear hb2); (try clear hk); (try clear hi)) | ((with_reducible refine gate_callee (f := 52) rfl ?_); refine goesL_ (some 24) rfl rfl Try.func52 (by kernel_rfl) rfl #[.pointer (some ⟨g, 0, none⟩), .int .i64 5] rfl zT3 ?_; (with_reducible refine (spec_l1Below.calls g s0_0 t149 t150 5 t151 t152 t153 w0 _ ?side1 ?side2 A25.out).mono ?_); (case side1 => exact zB3_6); (case side2 => exact zB3_8); rintro e w27 ⟨rfl, hi, hb, hk⟩; refine ⟨_, rfl, ?_⟩; have n0_ := Aside0.mk (Kd.R_mono (Kd.R_keep (IsS90.apart (show IsS90 w0 _ g s0_0 t149 t150 from zB3_6) (zR3 HO_141000.out) (by decide)) hk (fun _ h => h.2)) (fun _ h => h.1)); have n1_ := Aside0.mk (zh3 hk BK131.out NB131_0.out); have n2_ := Aside0.mk (zh3 hk BK140.out NB140_0.out); have n3_ := Aside0.mk (KeepBut.trans (zB3_7) hk (.inl rfl)); have n4_ := Aside0.mk (hb); have n5_ := Aside0.mk (hi); clear HO_141000; clear BK131; clear BK140; clear HK; clear HB; clear HI0; have HO_141000 := n0_; have BK131 := n1_; have BK140 := n2_; have HK := n3_; have HB := n4_; have HI0 := n5_; clear n0_ n1_ n2_ n3_ n4_ n5_; (try clear hb); (try clear hb2); (try clear hk); (try clear hi); have hnb28 := NB140_131.out; have hnc28 := NB131_140.out; have hnb29 := NB140_0.out; have hnc29 := NB0_140.out; obtain ⟨hcz30_0, hcz30_1, hcz30_2, hfz30_0, hfz30_1, hfz30_2⟩ := zc3_3 (w := w27) BK140.out; obtain ⟨Ao31, co31, eo31⟩ := Kd.R_slice HO_141000.out; subst eo31; have hnb32 := NB131_0.out; have hnc32 := NB0_131.out; obtain ⟨hcz33_0, hcz33_1, hcz33_2, hfz33_0, hfz33_1, hfz33_2⟩ := zc3_3 (w := w27) BK131.out))
    refine bodyPost_ret (results_cell_row rfl _ _ gb131 47 #[.slice Ao31 x141000_1.length co31, .int .i64 t138, .int .i64 (wrap64 (t151 - 1))] (0, 0) _ rfl (by refine zP3 ?_; refine blk_put (cs := #[.slice Ao31 x141000_1.length co31, .int .i64 t138, .int .i64 0]) ?_ 2 _ rfl; refine zP3 ?_; refine blk_put (cs := #[.slice Ao31 x141000_1.length co31, .int .i64 0, .int .i64 0]) ?_ 1 _ rfl; refine zP3 ?_; refine blk_put (cs := #[.slice none 0 0, .int .i64 0, .int .i64 0]) ?_ 0 _ rfl; refine zP3 ?_; refine blk_far ?_ NB131_140.out _; refine zP3 ?_; exact BK131.out) Try.underlying47 rfl (by kernel_rfl)) rfl ?_
    exact ⟨_, zE3, QR_of (by (with_reducible repeat (first | apply Kd.R_alloc | apply Kd.R_drewN | apply Kd.R_drew)); exact Kd.R_mono (Kd.R_far (p := ⟨gb131, 2, none⟩) (Kd.R_far (p := ⟨gb131, 1, none⟩) (Kd.R_far (p := ⟨gb131, 0, none⟩) (Kd.R_far (p := ⟨gb140, 2, none⟩) (Kd.R_types (Kd.R_types HO_141000.out BK140.out (by decide)) BK131.out (by decide)) (fun _ hk => hk.1.2) (.int .i64 (wrap64 (t151 - 1)))) (fun _ hk => hk.2) (.slice Ao31 x141000_1.length co31)) (fun _ hk => hk.2) (.int .i64 t138)) (fun _ hk => hk.2) (.int .i64 (wrap64 (t151 - 1)))) (fun _ hk => trivial)), zB3_6, zB3_8, zB3_7⟩
   rw [if_neg c24] at H
   have c24b0 : (t148 == 0) = false := beq_eq_false_iff_ne.mpr c24
   have c24b1 : (t148 != 0) = true := bne_iff_ne.mpr c24
   by_cases c34 : t148 = 1
   rotate_left
   ·rw [if_neg c34] at H
    have c34b0 : (t148 == 1) = false := beq_eq_false_iff_ne.mpr c34
    have c34b1 : (t148 != 1) = true := bne_iff_ne.mpr c34
    by_cases c51 : t148 = 2
    ·rw [if_pos c51] at H
     have c51b0 : (t148 == 2) = true := beq_iff_eq.mpr c51
     have c51b1 : (t148 != 2) = false := bne_eq_false_iff_eq.mpr c51
     clear c51
     obtain ⟨y161, hy161⟩ : ∃ y_ : List Int, y_ = (([(-1), 24] : List Int)) := ⟨_, rfl⟩
     replace H : ((spec_l1PickInt.f s0_0 t149 t150 y161).bind fun bt164 => (some (x141000_1, bt164.1, t139, bt164.2.1, bt164.2.2))) = some (r1, r2, r3, r4, r5) := by first | (rw [hy161]; with_reducible exact H) | (have H2_ := (Option.bind_some _ _).symm.trans H; rw [hy161]; with_reducible exact H2_) | (have H2_ := (Option.bind_some _ _).symm.trans H; with_reducible exact H2_) | with_reducible exact H | (rw [hy161]; exact H) | exact H
     have Ny161 := Aside0.mk hy161
     clear hy161
     replace H := Option.bind_eq_some_iff.mp H
     obtain ⟨⟨t164, t165, t166⟩, A520, H⟩ := H
     replace H : (some (x141000_1, t164, t139, t165, t166)) = some (r1, r2, r3, r4, r5) := H
     have A52 := Aside0.mk A520
     clear A520
     simp only [Option.some.injEq, Prod.mk.injEq] at H
     obtain ⟨rfl, rfl, rfl, rfl, rfl⟩ := H
     go_wp2_with (first | ((with_reducible refine gate_callee (f := 52) rfl ?_); refine goesL_ (some 20) rfl rfl Try.func52 (by kernel_rfl) rfl #[.pointer (some ⟨g, 0, none⟩), .int .i64 12] rfl zT3 ?_; (with_reducible refine (spec_l1Below.calls g s0_0 x1001_1 x1002_1 12 t148 t149 t150 w0 _ ?side1 ?side2 A23.out).mono ?_); (case side1 => exact zB3_6); (case side2 => exact zB3_8); rintro e w53 ⟨rfl, hi, hb, hk⟩; refine ⟨_, rfl, ?_⟩; have n0_ := Aside0.mk (Kd.R_mono (Kd.R_keep (IsS90.apart (show IsS90 w0 _ g s0_0 x1001_1 x1002_1 from zB3_6) (zR3 HO_141000.out) (by decide)) hk (fun _ h => h.2)) (fun _ h => h.1)); have n1_ := Aside0.mk (zh3 hk BK131.out NB131_0.out); have n2_ := Aside0.mk (zh3 hk BK140.out NB140_0.out); have n3_ := Aside0.mk (KeepBut.trans (zB3_7) hk (.inl rfl)); have n4_ := Aside0.mk (hb); have n5_ := Aside0.mk (hi); clear HO_141000; clear BK131; clear BK140; clear HK; clear HB; clear HI0; have HO_141000 := n0_; have BK131 := n1_; have BK140 := n2_; have HK := n3_; have HB := n4_; have HI0 := n5_; clear n0_ n1_ n2_ n3_ n4_ n5_; (try clear hb); (try clear hb2); (try clear hk); (try clear hi)) | ((with_reducible refine gate_dst (N := 38) rfl ?_); refine Kd.R_lit (Kd.int .i64) _ 3 ?hg (N := 38) ?hd (xs := ([(-1), 24] : List Int)) (inner := [.int .i64 (-1), .int .i64 24]) (ok := fun _ => True) (okp := fun _ => True) ?hr ?hp (fun _ hk => hk) trivial (Below.refl _ _) (Nat.le_refl _) (by simp) ?_; (case hd => rfl); (case hg => rfl); (case hr => first | (go_simp; done) | (go_simp; rfl)); (case hp => exact (Reps.one (show Kd.M (Kd.int .i64) _ _ _ (-1) [.int .i64 (-1)] from rfl) (Reps.one (show Kd.M (Kd.int .i64) _ _ _ 24 [.int .i64 24] from rfl) (Reps.none _ _)))); intro v162 w54 ho55 hb hg_ hnew_; clear hg_ hnew_; (first | rw [← Ny161.out] at ho55 | (simp only [Int.reduceToNat] at ho55; rw [← Ny161.out] at ho55)); have n0_ := Aside0.mk (Kd.R_elder' (zR3 HO_141000.out) (Kd.R_base ho55) hb); have n1_ := Aside0.mk (Kd.R_lower (Kd.R_new' ho55 (Kd.R_lt (zR3 HO_141000.out))) (keep_size (w := w) (g := g) (row := none) (zB3_7))); have n2_ := Aside0.mk (zb3 BK131.out hb); have n3_ := Aside0.mk (zb3 BK140.out hb); have n4_ := Aside0.mk (IsS90.below (zB3_6) hb); have n5_ := Aside0.mk (KeepBut.trans (zB3_7) (KeepBut.of_below hb g none) (.inl rfl)); have n6_ := Aside0.mk (below_step (zB3_8) hb); clear HO_141000; clear BK131; clear BK140; clear HI0; clear HK; clear HB; have HO_141000 := n0_; have HO163 := n1_; have BK131 := n2_; have BK140 := n3_; have HI0 := n4_; have HK := n5_; have HB := n6_; clear n0_ n1_ n2_ n3_ n4_ n5_ n6_; clear hb ho55; obtain ⟨Ao56, co56, eo56⟩ := Kd.R_slice HO163.out; subst eo56) | ((with_reducible refine gate_callee (f := 81) rfl ?_); refine goesL_ (some 39) rfl rfl Try.func81 (by kernel_rfl) rfl #[.pointer (some ⟨g, 0, none⟩), .slice Ao56 y161.length co56] rfl zT3 ?_; (with_reducible refine (spec_l1PickInt.calls g s0_0 t149 t150 _ _ y161 t164 t165 t166 w0 _ ?side1 ?side2 ?side3 ?side4 ?side5 A52.out).mono ?_); (case side1 => exact zB3_6); (case side2 => exact zB3_8); (case side3 => exact zC3 (Kd.R_reads' HO163.out).2.2); (case side4 => exact (Kd.R_reads' HO163.out).2.1); (case side5 => exact far_slice (IsS90.own_ne HI0.out HO163.out (by decide))); rintro e w57 ⟨rfl, hi, hb, hk⟩; refine ⟨_, rfl, ?_⟩; have n0_ := Aside0.mk (Kd.R_mono (Kd.R_keep (IsS90.apart (show IsS90 w0 _ g s0_0 t149 t150 from zB3_6) (zR3 HO_141000.out) (by decide)) hk (fun _ h => h.2)) (fun _ h => h.1)); have n1_ := Aside0.mk (zh3 hk BK131.out NB131_0.out); have n2_ := Aside0.mk (zh3 hk BK140.out NB140_0.out); have n3_ := Aside0.mk (Kd.R_mono (Kd.R_keep (IsS90.apart (show IsS90 w0 _ g s0_0 t149 t150 from zB3_6) (zR3 HO163.out) (by decide)) hk (fun _ h => h.2)) (fun _ h => h.1)); have n4_ := Aside0.mk (KeepBut.trans (zB3_7) hk (.inl rfl)); have n5_ := Aside0.mk (hb); have n6_ := Aside0.mk (hi); clear HO_141000; clear BK131; clear BK140; clear HO163; clear HK; clear HB; clear HI0; have HO_141000 := n0_; have BK131 := n1_; have BK140 := n2_; have HO163 := n3_; have HK := n4_; have HB := n5_; have HI0 := n6_; clear n0_ n1_ n2_ n3_ n4_ n5_ n6_; (try clear hb); (try clear hb2); (try clear hk); (try clear hi); have hnb58 := NB140_131.out; have hnc58 := NB131_140.out; have hnb59 := NB140_0.out; have hnc59 := NB0_140.out; obtain ⟨hcz60_0, hcz60_1, hcz60_2, hfz60_0, hfz60_1, hfz60_2⟩ := zc3_3 (w := w57) BK140.out; obtain ⟨Ao61, co61, eo61⟩ := Kd.R_slice HO_141000.out; subst eo61; have hnb62 := NB131_0.out; have hnc62 := NB0_131.out; obtain ⟨hcz63_0, hcz63_1, hcz63_2, hfz63_0, hfz63_1, hfz63_2⟩ := zc3_3 (w := w57) BK131.out))
     refine bodyPost_ret (results_cell_row rfl _ _ gb131 47 #[.slice Ao61 x141000_1.length co61, .int .i64 t164, .int .i64 t139] (0, 0) _ rfl (by refine zP3 ?_; refine blk_put (cs := #[.slice Ao61 x141000_1.length co61, .int .i64 t164, .int .i64 0]) ?_ 2 _ rfl; refine zP3 ?_; refine blk_put (cs := #[.slice Ao61 x141000_1.length co61, .int .i64 0, .int .i64 0]) ?_ 1 _ rfl; refine zP3 ?_; refine blk_put (cs := #[.slice none 0 0, .int .i64 0, .int .i64 0]) ?_ 0 _ rfl; refine zP3 ?_; refine blk_far ?_ NB131_140.out _; refine zP3 ?_; exact BK131.out) Try.underlying47 rfl (by kernel_rfl)) rfl ?_
     exact ⟨_, zE3, QR_of (by (with_reducible repeat (first | apply Kd.R_alloc | apply Kd.R_drewN | apply Kd.R_drew)); exact Kd.R_mono (Kd.R_far (p := ⟨gb131, 2, none⟩) (Kd.R_far (p := ⟨gb131, 1, none⟩) (Kd.R_far (p := ⟨gb131, 0, none⟩) (Kd.R_far (p := ⟨gb140, 1, none⟩) (Kd.R_types (Kd.R_types HO_141000.out BK140.out (by decide)) BK131.out (by decide)) (fun _ hk => hk.1.2) (.int .i64 t164)) (fun _ hk => hk.2) (.slice Ao61 x141000_1.length co61)) (fun _ hk => hk.2) (.int .i64 t164)) (fun _ hk => hk.2) (.int .i64 t139)) (fun _ hk => trivial)), zB3_6, zB3_8, zB3_7⟩
    rw [if_neg c51] at H
    have c51b0 : (t148 == 2) = false := beq_eq_false_iff_ne.mpr c51
    have c51b1 : (t148 != 2) = true := bne_iff_ne.mpr c51
    by_cases c64 : t148 = 3
    rotate_left
    ·rw [if_neg c64] at H
     have c64b0 : (t148 == 3) = false := beq_eq_false_iff_ne.mpr c64
     have c64b1 : (t148 != 3) = true := bne_iff_ne.mpr c64
     simp only [Option.some.injEq, Prod.mk.injEq] at H
     obtain ⟨rfl, rfl, rfl, rfl, rfl⟩ := H
     go_wp2_with (first | ((with_reducible refine gate_callee (f := 52) rfl ?_); refine goesL_ (some 20) rfl rfl Try.func52 (by kernel_rfl) rfl #[.pointer (some ⟨g, 0, none⟩), .int .i64 12] rfl zT3 ?_; (with_reducible refine (spec_l1Below.calls g s0_0 x1001_1 x1002_1 12 t148 t149 t150 w0 _ ?side1 ?side2 A23.out).mono ?_); (case side1 => exact zB3_6); (case side2 => exact zB3_8); rintro e w71 ⟨rfl, hi, hb, hk⟩; refine ⟨_, rfl, ?_⟩; have n0_ := Aside0.mk (Kd.R_mono (Kd.R_keep (IsS90.apart (show IsS90 w0 _ g s0_0 x1001_1 x1002_1 from zB3_6) (zR3 HO_141000.out) (by decide)) hk (fun _ h => h.2)) (fun _ h => h.1)); have n1_ := Aside0.mk (zh3 hk BK131.out NB131_0.out); have n2_ := Aside0.mk (zh3 hk BK140.out NB140_0.out); have n3_ := Aside0.mk (KeepBut.trans (zB3_7) hk (.inl rfl)); have n4_ := Aside0.mk (hb); have n5_ := Aside0.mk (hi); clear HO_141000; clear BK131; clear BK140; clear HK; clear HB; clear HI0; have HO_141000 := n0_; have BK131 := n1_; have BK140 := n2_; have HK := n3_; have HB := n4_; have HI0 := n5_; clear n0_ n1_ n2_ n3_ n4_ n5_; (try clear hb); (try clear hb2); (try clear hk); (try clear hi); have hnb72 := NB140_131.out; have hnc72 := NB131_140.out; have hnb73 := NB140_0.out; have hnc73 := NB0_140.out; obtain ⟨hcz74_0, hcz74_1, hcz74_2, hfz74_0, hfz74_1, hfz74_2⟩ := zc3_3 (w := w71) BK140.out; obtain ⟨Ao75, co75, eo75⟩ := Kd.R_slice HO_141000.out; subst eo75; have hnb76 := NB131_0.out; have hnc76 := NB0_131.out; obtain ⟨hcz77_0, hcz77_1, hcz77_2, hfz77_0, hfz77_1, hfz77_2⟩ := zc3_3 (w := w71) BK131.out))
     refine bodyPost_ret (results_cell_row rfl _ _ gb131 47 #[.slice Ao75 x141000_1.length co75, .int .i64 t138, .int .i64 t139] (0, 0) _ rfl (by refine zP3 ?_; refine blk_put (cs := #[.slice Ao75 x141000_1.length co75, .int .i64 t138, .int .i64 0]) ?_ 2 _ rfl; refine zP3 ?_; refine blk_put (cs := #[.slice Ao75 x141000_1.length co75, .int .i64 0, .int .i64 0]) ?_ 1 _ rfl; refine zP3 ?_; refine blk_put (cs := #[.slice none 0 0, .int .i64 0, .int .i64 0]) ?_ 0 _ rfl; refine zP3 ?_; exact BK131.out) Try.underlying47 rfl (by kernel_rfl)) rfl ?_
     exact ⟨_, zE3, QR_of (by (with_reducible repeat (first | apply Kd.R_alloc | apply Kd.R_drewN | apply Kd.R_drew)); exact Kd.R_mono (Kd.R_far (p := ⟨gb131, 2, none⟩) (Kd.R_far (p := ⟨gb131, 1, none⟩) (Kd.R_far (p := ⟨gb131, 0, none⟩) (Kd.R_types HO_141000.out BK131.out (by decide)) (fun _ hk => hk.2) (.slice Ao75 x141000_1.length co75)) (fun _ hk => hk.2) (.int .i64 t138)) (fun _ hk => hk.2) (.int .i64 t139)) (fun _ hk => trivial)), zB3_6, zB3_8, zB3_7⟩
    rw [if_pos c64] at H
    have c64b0 : (t148 == 3) = true := beq_iff_eq.mpr c64
    have c64b1 : (t148 != 3) = false := bne_eq_false_iff_eq.mpr c64
    clear c64
    by_cases c65 : (x141000_1.length : Int) = 4
    rotate_left
    ·rw [if_neg c65] at H
     exact absurd H (by simp)
    rw [if_pos c65] at H
    have HL4 := Aside0.mk c65
    have c65b0 := eq_true (show 1 ≤ (x141000_1.length : Int) by omega)
    have c65b1 : decide (1 ≤ (x141000_1.length : Int)) = true := decide_eq_true (by omega)
    clear c65
    obtain ⟨y167, hy167⟩ : ∃ y_ : List Int, y_ = (x141000_1.drop (1 : Int).toNat) := ⟨_, rfl⟩
    replace H : (some (y167, t138, t139, t149, t150)) = some (r1, r2, r3, r4, r5) := by first | (rw [hy167]; with_reducible exact H) | (have H2_ := (Option.bind_some _ _).symm.trans H; rw [hy167]; with_reducible exact H2_) | (have H2_ := (Option.bind_some _ _).symm.trans H; with_reducible exact H2_) | with_reducible exact H | (rw [hy167]; exact H) | exact H
    have Ny167 := Aside0.mk hy167
    clear hy167
    simp only [Option.some.injEq, Prod.mk.injEq] at H
    obtain ⟨rfl, rfl, rfl, rfl, rfl⟩ := H
    have hQ_ := Aside0.mk (Kd.Q_of_R HO_141000.out)
    clear HO_141000
    have HO_141000 := hQ_
    clear hQ_
    go_wp2_with (first | ((with_reducible refine gate_callee (f := 52) rfl ?_); refine goesL_ (some 20) rfl rfl Try.func52 (by kernel_rfl) rfl #[.pointer (some ⟨g, 0, none⟩), .int .i64 12] rfl zT3 ?_; (with_reducible refine (spec_l1Below.calls g s0_0 x1001_1 x1002_1 12 t148 t149 t150 w0 _ ?side1 ?side2 A23.out).mono ?_); (case side1 => exact zB3_6); (case side2 => exact zB3_8); rintro e w66 ⟨rfl, hi, hb, hk⟩; refine ⟨_, rfl, ?_⟩; have n0_ := Aside0.mk (Kd.Q_mono (Kd.Q_keep (IsS90.apartQ (show IsS90 w0 _ g s0_0 x1001_1 x1002_1 from zB3_6) (zQ3 HO_141000.out) (by decide)) hk (fun _ h => h.2)) (fun _ h => h.1)); have n1_ := Aside0.mk (zh3 hk BK131.out NB131_0.out); have n2_ := Aside0.mk (zh3 hk BK140.out NB140_0.out); have n3_ := Aside0.mk (KeepBut.trans (zB3_7) hk (.inl rfl)); have n4_ := Aside0.mk (hb); have n5_ := Aside0.mk (hi); clear HO_141000; clear BK131; clear BK140; clear HK; clear HB; clear HI0; have HO_141000 := n0_; have BK131 := n1_; have BK140 := n2_; have HK := n3_; have HB := n4_; have HI0 := n5_; clear n0_ n1_ n2_ n3_ n4_ n5_; (try clear hb); (try clear hb2); (try clear hk); (try clear hi); have hnb67 := NB140_131.out; have hnc67 := NB131_140.out; have hnb68 := NB140_0.out; have hnc68 := NB0_140.out; obtain ⟨hcz69_0, hcz69_1, hcz69_2, hfz69_0, hfz69_1, hfz69_2⟩ := zc3_3 (w := w66) BK140.out; obtain ⟨Ao70, co70, eo70, _⟩ := Kd.Q_slice HO_141000.out; subst eo70; have q71 : (1 : Int) ≤ ((x141000_1.length : Int) : Int) := zA3; obtain ⟨i071, hi071, _, hsz71, _⟩ := info_parts info3; have hcut71 := cut_from (P := Try.prog) 24 3 .i64 Try.underlying24 hi071 1 hsz71 Ao70 x141000_1.length co70 1 (by omega) q71; have hr71 := Kd.Q_drop (k := (1 : Int).toNat) HO_141000.out (by omega); obtain ⟨A71, hA71⟩ : ∃ A1, A1 = (if co70 = (1 : Int).toNat then Ao70 else (Ao70 : Option Addr).map (·.add ((1 : Int).toNat * 1))) := ⟨_, rfl⟩; obtain ⟨c71, hc71⟩ : ∃ c1, c1 = co70 - (1 : Int).toNat := ⟨_, rfl⟩; have hy71 : y167.length = x141000_1.length - (1 : Int).toNat := (by rw [Ny167.out, List.length_drop]); rw [← Ny167.out] at hr71; rw [← hy71, ← hA71, ← hc71] at hcut71; replace hr71 : Kd.Q (Kd.int .i64) 3 w66 w.heap.size (fun _ => True) (.slice A71 y167.length c71) y167 := (by rw [hA71, hc71, hy71]; exact hr71); have HE71 : Aside0 ((Value.slice A71 y167.length c71).ownBlock = (.slice Ao70 x141000_1.length co70 : Value).ownBlock) := ⟨by rw [hA71]; split <;> (cases (Ao70 : Option Addr) <;> rfl)⟩; clear hy71 hi071 hsz71 HO_141000 hA71 hc71; have HO169 := Aside0.mk hr71; clear hr71; replace q71 := eq_true q71; have hnb72 := NB131_0.out; have hnc72 := NB0_131.out; obtain ⟨hcz73_0, hcz73_1, hcz73_2, hfz73_0, hfz73_1, hfz73_2⟩ := zc3_3 (w := w66) BK131.out))
    refine bodyPost_ret (results_cell_row rfl _ _ gb131 47 #[.slice A71 y167.length c71, .int .i64 t138, .int .i64 t139] (0, 0) _ rfl (by refine zP3 ?_; refine blk_put (cs := #[.slice A71 y167.length c71, .int .i64 t138, .int .i64 0]) ?_ 2 _ rfl; refine zP3 ?_; refine blk_put (cs := #[.slice A71 y167.length c71, .int .i64 0, .int .i64 0]) ?_ 1 _ rfl; refine zP3 ?_; refine blk_put (cs := #[.slice none 0 0, .int .i64 0, .int .i64 0]) ?_ 0 _ rfl; refine zP3 ?_; refine blk_far ?_ NB131_140.out _; refine zP3 ?_; exact BK131.out) Try.underlying47 rfl (by kernel_rfl)) rfl ?_
    exact ⟨_, zE3, ⟨by (with_reducible repeat (first | apply Kd.Q_alloc | apply Kd.Q_drewN | apply Kd.Q_drew)); exact Kd.Q_mono (Kd.Q_far (p := ⟨gb131, 2, none⟩) (Kd.Q_far (p := ⟨gb131, 1, none⟩) (Kd.Q_far (p := ⟨gb131, 0, none⟩) (Kd.Q_far (p := ⟨gb140, 0, none⟩) (Kd.Q_types (Kd.Q_types HO169.out BK140.out (by decide)) BK131.out (by decide)) (fun _ hk => hk.1.2) (.slice A71 y167.length c71)) (fun _ hk => hk.2) (.slice A71 y167.length c71)) (fun _ hk => hk.2) (.int .i64 t138)) (fun _ hk => hk.2) (.int .i64 t139)) (fun _ hk => trivial), fun hl_ => absurd hl_ (by rw [Ny167.out, List.length_drop]; have h4_ := HL4.out; simp only [Int.toNat_one]; omega)⟩, zB3_6, zB3_8, zB3_7⟩
   rw [if_pos c34] at H
   have c34b0 : (t148 == 1) = true := beq_iff_eq.mpr c34
   have c34b1 : (t148 != 1) = false := bne_eq_false_iff_eq.mpr c34
   clear c34
   obtain ⟨y154, hy154⟩ : ∃ y_ : List Int, y_ = (([(-1), 65536] : List Int)) := ⟨_, rfl⟩
   replace H : ((spec_l1PickInt.f s0_0 t149 t150 y154).bind fun bt157 => (if 0 < (x141000_1.length : Int) then (some ((x141000_1.set (0 : Int).toNat bt157.1), t138, t139, bt157.2.1, bt157.2.2)) else (none))) = some (r1, r2, r3, r4, r5) := by first | (rw [hy154]; with_reducible exact H) | (have H2_ := (Option.bind_some _ _).symm.trans H; rw [hy154]; with_reducible exact H2_) | (have H2_ := (Option.bind_some _ _).symm.trans H; with_reducible exact H2_) | with_reducible exact H | (rw [hy154]; exact H) | exact H
   have Ny154 := Aside0.mk hy154
   clear hy154
   replace H := Option.bind_eq_some_iff.mp H
   obtain ⟨⟨t157, t158, t159⟩, A350, H⟩ := H
   replace H : (if 0 < (x141000_1.length : Int) then (some ((x141000_1.set (0 : Int).toNat t157), t138, t139, t158, t159)) else (none)) = some (r1, r2, r3, r4, r5) := H
   have A35 := Aside0.mk A350
   clear A350
   by_cases c36 : 0 < (x141000_1.length : Int)
   rotate_left
   ·rw [if_neg c36] at H
    exact absurd H (by simp)
   rw [if_pos c36] at H
   have c36b0 : decide (0 < (x141000_1.length : Int)) = true := decide_eq_true c36
   have c36b1 : decide (0 < x141000_1.length) = true := decide_eq_true (by omega)
   clear c36
   obtain ⟨y160, hy160⟩ : ∃ y_ : List Int, y_ = (x141000_1.set (0 : Int).toNat t157) := ⟨_, rfl⟩
   replace H : (some (y160, t138, t139, t158, t159)) = some (r1, r2, r3, r4, r5) := by first | (rw [hy160]; with_reducible exact H) | (have H2_ := (Option.bind_some _ _).symm.trans H; rw [hy160]; with_reducible exact H2_) | (have H2_ := (Option.bind_some _ _).symm.trans H; with_reducible exact H2_) | with_reducible exact H | (rw [hy160]; exact H) | exact H
   have Ny160 := Aside0.mk hy160
   clear hy160
   simp only [Option.some.injEq, Prod.mk.injEq] at H
   obtain ⟨rfl, rfl, rfl, rfl, rfl⟩ := H
   try go_wp2_with (first | ((with_reducible refine gate_callee (f := 52) rfl ?_); refine goesL_ (some 20) rfl rfl Try.func52 (by kernel_rfl) rfl #[.pointer (some ⟨g, 0, none⟩), .int .i64 12] rfl zT3 ?_; (with_reducible refine (spec_l1Below.calls g s0_0 x1001_1 x1002_1 12 t148 t149 t150 w0 _ ?side1 ?side2 A23.out).mono ?_); (case side1 => exact zB3_6); (case side2 => exact zB3_8); rintro e w38 ⟨rfl, hi, hb, hk⟩; refine ⟨_, rfl, ?_⟩; have n0_ := Aside0.mk (Kd.R_mono (Kd.R_keep (IsS90.apart (show IsS90 w0 _ g s0_0 x1001_1 x1002_1 from zB3_6) (zR3 HO_141000.out) (by decide)) hk (fun _ h => h.2)) (fun _ h => h.1)); have n1_ := Aside0.mk (zh3 hk BK131.out NB131_0.out); have n2_ := Aside0.mk (zh3 hk BK140.out NB140_0.out); have n3_ := Aside0.mk (KeepBut.trans (zB3_7) hk (.inl rfl)); have n4_ := Aside0.mk (hb); have n5_ := Aside0.mk (hi); clear HO_141000; clear BK131; clear BK140; clear HK; clear HB; clear HI0; have HO_141000 := n0_; have BK131 := n1_; have BK140 := n2_; have HK := n3_; have HB := n4_; have HI0 := n5_; clear n0_ n1_ n2_ n3_ n4_ n5_; (try clear hb); (try clear hb2); (try clear hk); (try clear hi)))
   have n0_ := Aside0.mk (Kd.R_drew HO_141000.out)
   have n1_ := Aside0.mk (blk_drew BK131.out)
   have n2_ := Aside0.mk (blk_drew BK140.out)
   have n3_ := Aside0.mk (IsS90.drew HI0.out)
   have n4_ := Aside0.mk (keep_drew HK.out)
   have n5_ := Aside0.mk (below_drew1 HB.out)
   clear HO_141000 BK131 BK140 HI0 HK HB
   have HO_141000 := n0_
   have BK131 := n1_
   have BK140 := n2_
   have HI0 := n3_
   have HK := n4_
   have HB := n5_
   clear n0_ n1_ n2_ n3_ n4_ n5_
   refine start_ (n := 7) (S := fun w' => w'.cell? ⟨gb140, 0, none⟩ = some (u141000) ∧ w'.cell? ⟨gb140, 1, none⟩ = some (.int .i64 t138) ∧ w'.cell? ⟨gb140, 2, none⟩ = some (.int .i64 t139)) (ds := [6]) #[false, false, false, false, false, false, false] (by kernel_rfl) rfl rfl ⟨(blk_cell BK140.out 0).trans rfl, (blk_cell BK140.out 1).trans rfl, (blk_cell BK140.out 2).trans rfl⟩ (fun hHeld => ?_)
   generalize w38.drew = w39 at HO_141000 BK131 BK140 HI0 HK HB hHeld ⊢
   refine pure_ (i := 0) (N := some 29) (v := ?_) (a' := ?_) #[true, false, false, false, false, false, false] rfl rfl (by kernel_rfl) (fun _ _ _ h => h) (Or.inl ⟨by rfl, ?_⟩) ?_ ?_
   rotate_left
   ·intro w'
    go_simp
    with_reducible rfl
   rotate_left
   ·exact zV3
   refine pure_ (i := 2) (N := some 31) (v := ?_) (a' := ?_) #[true, false, true, false, false, false, false] rfl rfl (by kernel_rfl) (fun _ _ _ h => h) (Or.inl ⟨by rfl, ?_⟩) ?_ ?_
   rotate_left
   ·intro w'
    go_simp
    with_reducible rfl
   rotate_left
   ·exact zV3
   refine take_ (i := 1) (N := some 30) (v := ?_) (a' := ?_) #[true, true, true, false, false, false, false] rfl rfl (by kernel_rfl) (fun _ _ _ h => h) (Or.inl ⟨by rfl, ?_⟩) hHeld ?_ ?_
   rotate_left
   ·rintro w' ⟨s0, s1, s2⟩
    go_simp
    with_reducible rfl
   rotate_left
   ·exact zV3
   refine one_ (i := 3) (N := some 32) #[true, true, true, true, false, false, false] rfl rfl (by kernel_rfl) (by decide) (fun K hK => ?_)
   refine Kd.R_lit_step (Kd.int .i64) _ 3 ?hg (N := 32) ?hd (xs := ([(-1), 65536] : List Int)) (inner := [.int .i64 (-1), .int .i64 65536]) (ok := fun _ => True) (okp := fun _ => True) ?hr ?hp (fun _ hk => hk) trivial (Below.refl _ _) (Nat.le_refl _) (by simp) ?_; (case hd => rfl); (case hg => rfl); (case hr => first | (go_simp; done) | (go_simp; rfl)); (case hp => exact (Reps.one (show Kd.M (Kd.int .i64) _ _ _ (-1) [.int .i64 (-1)] from rfl) (Reps.one (show Kd.M (Kd.int .i64) _ _ _ 65536 [.int .i64 65536] from rfl) (Reps.none _ _))))
   intro v155 w40 ho41 hb hg_ hnew_
   clear hg_ hnew_
   (first | rw [← Ny154.out] at ho41 | (simp only [Int.reduceToNat] at ho41; rw [← Ny154.out] at ho41))
   have n0_ := Aside0.mk (Kd.R_elder' (zR3 HO_141000.out) (Kd.R_base ho41) hb)
   have n1_ := Aside0.mk (Kd.R_lower (Kd.R_new' ho41 (Kd.R_lt (zR3 HO_141000.out))) (keep_size (w := w) (g := g) (row := none) (zB3_7)))
   have n2_ := Aside0.mk (zb3 BK131.out hb)
   have n3_ := Aside0.mk (zb3 BK140.out hb)
   have n4_ := Aside0.mk (IsS90.below (zB3_6) hb)
   have n5_ := Aside0.mk (KeepBut.trans (zB3_7) (KeepBut.of_below hb g none) (.inl rfl))
   have n6_ := Aside0.mk (below_step (zB3_8) hb)
   clear HO_141000 BK131 BK140 HI0 HK HB
   have HO_141000 := n0_
   have HO156 := n1_
   have BK131 := n2_
   have BK140 := n3_
   have HI0 := n4_
   have HK := n5_
   have HB := n6_
   clear n0_ n1_ n2_ n3_ n4_ n5_ n6_ hb ho41
   obtain ⟨Ao42, co42, eo42⟩ := Kd.R_slice HO156.out
   (first | subst eo42 | (injection eo42 with f1_ f2_ f3_; have f4_ := f1_.symm; have f5_ := f3_.symm; clear f1_ f2_ f3_; subst f4_; subst f5_))
   refine hK.out _ _ ⟨(blk_cell BK140.out 0).trans rfl, (blk_cell BK140.out 1).trans rfl, (blk_cell BK140.out 2).trans rfl⟩ (fun hHeld => ?_)
   clear hK K
   refine norm_ (a' := ?_) ?_ ?_
   rotate_left
   ·show Act.put _ (some 32) _ = _
    simp only [Act.put, List.setIfInBounds_toArray, List.set_cons_zero, List.set_cons_succ, i64_w, i32_w]
    rfl
   refine one_ (i := 4) (N := some 33) #[true, true, true, true, true, false, false] rfl rfl (by kernel_rfl) (by decide) (fun K hK => ?_)
   refine goes_ Try.func81 (by kernel_rfl) rfl #[.pointer (some ⟨g, 0, none⟩), .slice Ao42 y154.length co42] (by rfl) rfl rfl zT3 ?_
   with_reducible refine (spec_l1PickInt.calls g s0_0 t149 t150 _ _ y154 t157 t158 t159 w0 _ ?side1 ?side2 ?side3 ?side4 ?side5 A35.out).mono ?_
   (case side1 => exact zB3_6)
   (case side2 => exact zB3_8)
   (case side3 => exact zC3 (Kd.R_reads' HO156.out).2.2)
   (case side4 => exact (Kd.R_reads' HO156.out).2.1)
   (case side5 => exact far_slice (IsS90.own_ne HI0.out HO156.out (by decide)))
   rintro e w43 ⟨rfl, hi, hb, hk⟩
   refine ⟨_, rfl, ?_⟩
   have n0_ := Aside0.mk (Kd.R_mono (Kd.R_keep (IsS90.apart (show IsS90 w0 _ g s0_0 t149 t150 from zB3_6) (zR3 HO_141000.out) (by decide)) hk (fun _ h => h.2)) (fun _ h => h.1))
   have n1_ := Aside0.mk (zh3 hk BK131.out NB131_0.out)
   have n2_ := Aside0.mk (zh3 hk BK140.out NB140_0.out)
   have n3_ := Aside0.mk (Kd.R_mono (Kd.R_keep (IsS90.apart (show IsS90 w0 _ g s0_0 t149 t150 from zB3_6) (zR3 HO156.out) (by decide)) hk (fun _ h => h.2)) (fun _ h => h.1))
   have n4_ := Aside0.mk (KeepBut.trans (zB3_7) hk (.inl rfl))
   have n5_ := Aside0.mk (hb)
   have n6_ := Aside0.mk (hi)
   clear HO_141000 BK131 BK140 HO156 HK HB HI0
   have HO_141000 := n0_
   have BK131 := n1_
   have BK140 := n2_
   have HO156 := n3_
   have HK := n4_
   have HB := n5_
   have HI0 := n6_
   clear n0_ n1_ n2_ n3_ n4_ n5_ n6_
   (try clear hb)
   (try clear hb2)
   (try clear hk)
   (try clear hi)
   have p37 : 0 ≤ (0 : Int) := (by omega)
   have q37 : (0 : Int) < ((x141000_1.length : Int) : Int) := zA3
   have qi37 : (0 < x141000_1.length) = True := eq_true (by omega)
   obtain ⟨go37, co37, eo37, gb37, gl37, cl37, HG37⟩ := Kd.R_form HO_141000.out (by omega)
   (first | cases eo37 | (injection eo37 with ea_ en_ ec_; (first | subst ea_ | (injection ea_ with ea_; subst ea_)); subst ec_; clear en_))
   have GB37 := Aside0.mk gb37
   have GG37 := Aside0.mk HG37
   clear gb37 gl37 HG37
   obtain ⟨hx37_0, hf37_0⟩ := Kd.R_celln 0 HO_141000.out (0 : Int) p37 q37
   (try rw [show ((0 : Int)).toNat = 0 from rfl] at hx37_0)
   (try simp only [Nat.reduceMul, Nat.zero_mul, Nat.zero_add, Nat.reduceAdd] at hx37_0)
   (try rw [show ((0 : Int)).toNat = 0 from rfl] at hf37_0)
   (try simp only [Nat.reduceMul, Nat.zero_mul, Nat.zero_add, Nat.reduceAdd] at hf37_0)
   replace p37 := eq_true p37
   replace q37 := eq_true q37
   have HN0_go37 := Aside0.mk (show g ≠ go37 from by have h_ := IsS90.own_ne HI0.out HO_141000.out (by decide); intro e_; exact h_ (by rw [e_]; rfl))
   have HP44 := Kd.R_putn HO_141000.out (0 : Int) t157
   rw [← Ny160.out] at HP44
   have HQ44 := Aside0.mk HP44
   clear HP44
   refine hK.out _ _ ⟨(blk_cell BK140.out 0).trans rfl, (blk_cell BK140.out 1).trans rfl, (blk_cell BK140.out 2).trans rfl⟩ (fun hHeld => ?_)
   clear hK K
   refine norm_ (a' := ?_) ?_ ?_
   rotate_left
   ·show Act.put _ (some 33) _ = _
    simp only [Act.put, List.setIfInBounds_toArray, List.set_cons_zero, List.set_cons_succ, i64_w, i32_w]
    rfl
   refine pure_ (i := 5) (N := some 34) (v := ?_) (a' := ?_) #[true, true, true, true, true, true, false] rfl rfl (by kernel_rfl) (fun _ _ _ h => h) (Or.inl ⟨by rfl, ?_⟩) ?_ ?_
   rotate_left
   ·intro w'
    go_simp
    with_reducible rfl
   rotate_left
   ·exact zV3
   refine last_ (i := 6) (N := none) #[true, true, true, true, true, true, true] rfl rfl (by kernel_rfl) (by decide) (fun K hK => ?_)
   refine skip_ (w1 := ?_) (by rfl) rfl ?_ ?_
   rotate_left
   ·go_simp
    rfl
   refine hK.out _ _ ?_
   clear hK K
   refine done_ (by kernel_rfl) ?_
   have n0_ : Aside0 (Kd.R (Kd.int .i64) 3 (w43.setCell ⟨go37, 0, none⟩ (.int .i64 t157)) w.heap.size (fun k_ => some k_ ≠ (.slice Ao42 y154.length co42 : Value).ownBlock) (.slice (some ⟨go37, 0, none⟩) x141000_1.length co37) y160) := ⟨by (with_reducible repeat (first | apply Kd.R_alloc | apply Kd.R_drewN | apply Kd.R_drew)); exact Kd.R_mono HQ44.out (fun _ hk => hk.2)⟩
   have n1_ : Aside0 (Kd.R (Kd.int .i64) 3 (w43.setCell ⟨go37, 0, none⟩ (.int .i64 t157)) w.heap.size (fun k_ => some k_ ≠ (.slice (some ⟨go37, 0, none⟩) x141000_1.length co37 : Value).ownBlock) (.slice Ao42 y154.length co42) y154) := ⟨by (with_reducible repeat (first | apply Kd.R_alloc | apply Kd.R_drewN | apply Kd.R_drew)); exact Kd.R_mono (Kd.R_far (p := ⟨go37, 0, none⟩) (Kd.R_mono HO156.out (fun k_ hk => (⟨hk, fun e_ => hk.2 (by rw [e_]; rfl)⟩ : _ ∧ k_ ≠ go37))) (fun _ hk => hk.2) (.int .i64 t157)) (fun _ hk => hk.1.2)⟩
   have n2_ : Aside0 ((w43.setCell ⟨go37, 0, none⟩ (.int .i64 t157)).heap[gb131]? = some (.cells #[.slice none 0 0, .int .i64 0, .int .i64 0] 47 (0, 0))) := ⟨by refine zP3 ?_; refine blk_far ?_ (by have h_ := Kd.R_ne HO_141000.out BK131.out (by decide); intro e_; exact h_ (by rw [e_]; rfl)) _; refine zP3 ?_; exact BK131.out⟩
   have n3_ : Aside0 ((w43.setCell ⟨go37, 0, none⟩ (.int .i64 t157)).heap[gb140]? = some (.cells #[.slice (some ⟨go37, 0, none⟩) x141000_1.length co37, .int .i64 t138, .int .i64 t139] 47 (0, 0))) := ⟨by refine zP3 ?_; refine blk_far ?_ (by have h_ := Kd.R_ne HO_141000.out BK140.out (by decide); intro e_; exact h_ (by rw [e_]; rfl)) _; refine zP3 ?_; exact BK140.out⟩
   have n4_ : Aside0 (IsS90 w0 (w43.setCell ⟨go37, 0, none⟩ (.int .i64 t157)) g s0_0 t158 t159) := ⟨zB3_12⟩
   have n5_ : Aside0 (KeepBut w (w43.setCell ⟨go37, 0, none⟩ (.int .i64 t157)) g none) := ⟨zB3_13⟩
   have n6_ : Aside0 (Below w0.heap.size w0 (w43.setCell ⟨go37, 0, none⟩ (.int .i64 t157))) := ⟨zB3_14⟩
   (try clear HO_141000)
   (try clear HO156)
   (try clear BK131)
   (try clear BK140)
   (try clear HI0)
   (try clear HK)
   (try clear HB)
   generalize (w43.setCell ⟨go37, 0, none⟩ (.int .i64 t157)) = w45 at n0_ n1_ n2_ n3_ n4_ n5_ n6_ ⊢
   have HO_141000 := n0_
   have HO156 := n1_
   have BK131 := n2_
   have BK140 := n3_
   have HI0 := n4_
   have HK := n5_
   have HB := n6_
   clear n0_ n1_ n2_ n3_ n4_ n5_ n6_
   have hnb46 := NB140_131.out
   have hnc46 := NB131_140.out
   have hnb47 := NB140_0.out
   have hnc47 := NB0_140.out
   obtain ⟨hcz48_0, hcz48_1, hcz48_2, hfz48_0, hfz48_1, hfz48_2⟩ := zc3_3 (w := w45) BK140.out
   have hnb49 := NB131_0.out
   have hnc49 := NB0_131.out
   obtain ⟨hcz50_0, hcz50_1, hcz50_2, hfz50_0, hfz50_1, hfz50_2⟩ := zc3_3 (w := w45) BK131.out
   try go_wp2
   refine bodyPost_ret (results_cell_row rfl _ _ gb131 47 #[.slice (some ⟨go37, 0, none⟩) x141000_1.length co37, .int .i64 t138, .int .i64 t139] (0, 0) _ rfl (by refine zP3 ?_; refine blk_put (cs := #[.slice (some ⟨go37, 0, none⟩) x141000_1.length co37, .int .i64 t138, .int .i64 0]) ?_ 2 _ rfl; refine zP3 ?_; refine blk_put (cs := #[.slice (some ⟨go37, 0, none⟩) x141000_1.length co37, .int .i64 0, .int .i64 0]) ?_ 1 _ rfl; refine zP3 ?_; refine blk_put (cs := #[.slice none 0 0, .int .i64 0, .int .i64 0]) ?_ 0 _ rfl; refine zP3 ?_; exact BK131.out) Try.underlying47 rfl (by kernel_rfl)) rfl ?_
   exact ⟨_, zE3, QR_of (by (with_reducible repeat (first | apply Kd.R_alloc | apply Kd.R_drewN | apply Kd.R_drew)); exact Kd.R_mono (Kd.R_far (p := ⟨gb131, 2, none⟩) (Kd.R_far (p := ⟨gb131, 1, none⟩) (Kd.R_far (p := ⟨gb131, 0, none⟩) (Kd.R_types HO_141000.out BK131.out (by decide)) (fun _ hk => hk.2) (.slice (some ⟨go37, 0, none⟩) x141000_1.length co37)) (fun _ hk => hk.2) (.int .i64 t138)) (fun _ hk => hk.2) (.int .i64 t139)) (fun _ hk => trivial)), zB3_6, zB3_8, zB3_7⟩

/-! ### spec_l1Once: function 76 -/
def spec_l1Once.f (s0_0 : List Int) (s0_1 : Int) (s0_2 : Int) (a1 : Int) : Option (Bool × Int × Int) := (spec_l1Below.f s0_0 s0_1 s0_2 a1).bind fun bt167 => (some ((bt167.1 == 0), bt167.2.1, bt167.2.2))
set_option maxHeartbeats 8000000 in
set_option maxRecDepth 100000 in
theorem spec_l1Once.calls (g : Nat) (s0_0 : List Int) (s0_1 : Int) (s0_2 : Int) (a1 : Int) (r1 : Bool) (r2 : Int) (r3 : Int) (w0 w : World) (hI : IsS90 w0 w g s0_0 s0_1 s0_2) (hB : Below w0.heap.size w0 w) (h : spec_l1Once.f s0_0 s0_1 s0_2 a1 = some (r1, r2, r3)) :
  Calls Try.prog 76 #[.pointer (some ⟨g, 0, none⟩), .int .i64 a1] w fun e w' => e = .returned (.bool r1) ∧ IsS90 w0 w' g s0_0 r2 r3 ∧ Below w0.heap.size w0 w' ∧ KeepBut w w' g none := by
 have HI0 := Aside0.mk hI
 have HK := Aside0.mk (KeepBut.refl w g none)
 have HL := Aside0.mk hB.size
 clear hI
 have HW0 := Aside0.mk hB.size
 have HB := Aside0.mk hB
 clear hB
 have H : ((spec_l1Below.f s0_0 s0_1 s0_2 a1).bind fun bt167 => (some ((bt167.1 == 0), bt167.2.1, bt167.2.2))) = some (r1, r2, r3) := h
 clear h
 replace H := Option.bind_eq_some_iff.mp H
 obtain ⟨⟨t167, t168, t169⟩, A30, H⟩ := H
 replace H : (some ((t167 == 0), t168, t169)) = some (r1, r2, r3) := H
 have A3 := Aside0.mk A30
 clear A30
 simp only [Option.some.injEq, Prod.mk.injEq] at H
 obtain ⟨rfl, rfl, rfl⟩ := H
 go_enter Try.func76, Try.ntmps76
 go_wp2_with (first | ((with_reducible refine gate_callee (f := 52) rfl ?_); refine goesL_ (some 7) rfl rfl Try.func52 (by kernel_rfl) rfl #[.pointer (some ⟨g, 0, none⟩), .int .i64 a1] rfl zT3 ?_; (with_reducible refine (spec_l1Below.calls g s0_0 s0_1 s0_2 a1 t167 t168 t169 w0 _ ?side1 ?side2 A3.out).mono ?_); (case side1 => exact zB3_0); (case side2 => exact zB3_2); rintro e w4 ⟨rfl, hi, hb, hk⟩; refine ⟨_, rfl, ?_⟩; have n0_ := Aside0.mk (KeepBut.trans (zB3_1) hk (.inl rfl)); have n1_ := Aside0.mk (hb); have n2_ := Aside0.mk (hi); clear HK; clear HB; clear HI0; have HK := n0_; have HB := n1_; have HI0 := n2_; clear n0_ n1_ n2_; (try clear hb); (try clear hb2); (try clear hk); (try clear hi)))
 go_ret
 exact ⟨zE3, zB3_0, zB3_2, zB3_1⟩

/-! ### spec_l1In: function 55 -/
def spec_l1In.f (a0 : Int) (a1 : Int) (a2 : Int) : Option (Bool) := if a0 ≥ a1 then (some (decide (a0 ≤ a2))) else (some false)
set_option maxHeartbeats 8000000 in
set_option maxRecDepth 100000 in
theorem spec_l1In.calls (a0 : Int) (a1 : Int) (a2 : Int) (r : Bool) (w : World) (h : spec_l1In.f a0 a1 a2 = some r) :
  Calls Try.prog 55 #[.int .i64 a0, .int .i64 a1, .int .i64 a2] w fun e w' => e = .returned (.bool r) ∧ Drawn0 w w' := by
 have H : (if a0 ≥ a1 then (some (decide (a0 ≤ a2))) else (some false)) = some r := h
 clear h
 by_cases c4 : a0 ≥ a1
 ·rw [if_pos c4] at H
  have c4b0 : decide (a1 ≤ a0) = true := decide_eq_true c4
  clear c4
  obtain rfl := Option.some.inj H
  go_enter Try.func55, Try.ntmps55
  go_wp2
  go_ret
  exact ⟨by first | rfl | (simp; done) | (simp [*]; done), by repeat (first | exact Drawn0.refl _ | apply Drawn0.step)⟩
 rw [if_neg c4] at H
 have c4b0 : decide (a1 ≤ a0) = false := decide_eq_false c4
 clear c4
 obtain rfl := Option.some.inj H
 go_enter Try.func55, Try.ntmps55
 go_wp2
 go_ret
 exact ⟨by first | rfl | (simp; done) | (simp [*]; done), by repeat (first | exact Drawn0.refl _ | apply Drawn0.step)⟩

/-! ### spec_l8Has: function 116 -/
def spec_l8Has.f (a0 : Int) : Option (Int) := (spec_l1In.f a0 1 10).bind fun t170 => (if t170 = true then ((some (([0, 9, 7, 11, 11, 14, 15, 10, 8, 0, 7] : List Int) : List Int)).bind fun y171 => (if 0 ≤ a0 then (if a0 < (y171.length : Int) then (some (rd y171 a0)) else (none)) else (none))) else (some 0))
set_option maxHeartbeats 8000000 in
set_option maxRecDepth 100000 in
theorem spec_l8Has.calls (a0 : Int) (r : Int) (w : World) (h : spec_l8Has.f a0 = some r) :
  Calls Try.prog 116 #[.int .i64 a0] w fun e w' => e = .returned (.int .i64 r) ∧ Below w.heap.size w w' := by
 have HB := Aside0.mk (Below.refl w.heap.size w)
 have H : ((spec_l1In.f a0 1 10).bind fun t170 => (if t170 = true then ((some (([0, 9, 7, 11, 11, 14, 15, 10, 8, 0, 7] : List Int) : List Int)).bind fun y171 => (if 0 ≤ a0 then (if a0 < (y171.length : Int) then (some (rd y171 a0)) else (none)) else (none))) else (some 0))) = some r := h
 clear h
 replace H := Option.bind_eq_some_iff.mp H
 obtain ⟨t170, A20, H⟩ := H
 replace H : (if t170 = true then ((some (([0, 9, 7, 11, 11, 14, 15, 10, 8, 0, 7] : List Int) : List Int)).bind fun y171 => (if 0 ≤ a0 then (if a0 < (y171.length : Int) then (some (rd y171 a0)) else (none)) else (none))) else (some 0)) = some r := H
 have A2 := Aside0.mk A20
 clear A20
 by_cases c3 : t170 = true
 rotate_left
 ·replace c3 := Bool.eq_false_iff.mpr c3
  subst c3
  have H1 : (some 0) = some r := by rw [if_neg (show ¬ (false = true) by decide)] at H; exact H
  clear H
  have H := H1
  clear H1
  obtain rfl := Option.some.inj H
  go_enter Try.func116, Try.ntmps116
  go_wp2_with (first | ((with_reducible refine gate_callee (f := 55) rfl ?_); refine goesL_ (some 4) rfl rfl Try.func55 (by kernel_rfl) rfl #[.int .i64 a0, .int .i64 1, .int .i64 10] rfl zT3 ?_; (with_reducible refine (spec_l1In.calls a0 1 10 false _ A2.out).mono ?_); rintro e w' ⟨rfl, ⟨nd, rfl⟩⟩; refine ⟨_, rfl, ?_⟩))
  go_ret
  exact ⟨zE3, zB3_15⟩
 subst c3
 have H1 : ((some (([0, 9, 7, 11, 11, 14, 15, 10, 8, 0, 7] : List Int) : List Int)).bind fun y171 => (if 0 ≤ a0 then (if a0 < (y171.length : Int) then (some (rd y171 a0)) else (none)) else (none))) = some r := by rw [if_pos rfl] at H; exact H
 clear H
 have H := H1
 clear H1
 obtain ⟨y171, hy171⟩ : ∃ y_ : List Int, y_ = (([0, 9, 7, 11, 11, 14, 15, 10, 8, 0, 7] : List Int)) := ⟨_, rfl⟩
 replace H : (if 0 ≤ a0 then (if a0 < (y171.length : Int) then (some (rd y171 a0)) else (none)) else (none)) = some r := by first | (rw [hy171]; with_reducible exact H) | (have H2_ := (Option.bind_some _ _).symm.trans H; rw [hy171]; with_reducible exact H2_) | (have H2_ := (Option.bind_some _ _).symm.trans H; with_reducible exact H2_) | with_reducible exact H | (rw [hy171]; exact H) | exact H
 have Ny171 := Aside0.mk hy171
 clear hy171
 by_cases c4 : 0 ≤ a0
 rotate_left
 ·rw [if_neg c4] at H
  exact absurd H (by simp)
 rw [if_pos c4] at H
 have c4b0 : decide (0 ≤ a0) = true := decide_eq_true c4
 clear c4
 by_cases c5 : a0 < (y171.length : Int)
 rotate_left
 ·rw [if_neg c5] at H
  exact absurd H (by simp)
 rw [if_pos c5] at H
 have c5b0 : decide (a0 < (y171.length : Int)) = true := decide_eq_true c5
 clear c5
 obtain rfl := Option.some.inj H
 go_enter Try.func116, Try.ntmps116
 go_wp2_with (first | ((with_reducible refine gate_callee (f := 55) rfl ?_); refine goesL_ (some 4) rfl rfl Try.func55 (by kernel_rfl) rfl #[.int .i64 a0, .int .i64 1, .int .i64 10] rfl zT3 ?_; (with_reducible refine (spec_l1In.calls a0 1 10 true _ A2.out).mono ?_); rintro e w' ⟨rfl, ⟨nd, rfl⟩⟩; refine ⟨_, rfl, ?_⟩) | ((with_reducible refine gate_dst (N := 6) rfl ?_); refine Kd.R_lit (Kd.int .i64) _ 3 ?hg (N := 6) ?hd (xs := ([0, 9, 7, 11, 11, 14, 15, 10, 8, 0, 7] : List Int)) (inner := [.int .i64 0, .int .i64 9, .int .i64 7, .int .i64 11, .int .i64 11, .int .i64 14, .int .i64 15, .int .i64 10, .int .i64 8, .int .i64 0, .int .i64 7]) (ok := fun _ => True) (okp := fun _ => True) ?hr ?hp (fun _ hk => hk) trivial (Below.refl _ _) (Nat.le_refl _) (by simp) ?_; (case hd => rfl); (case hg => rfl); (case hr => first | (go_simp; done) | (go_simp; rfl)); (case hp => exact (Reps.one (show Kd.M (Kd.int .i64) _ _ _ 0 [.int .i64 0] from rfl) (Reps.one (show Kd.M (Kd.int .i64) _ _ _ 9 [.int .i64 9] from rfl) (Reps.one (show Kd.M (Kd.int .i64) _ _ _ 7 [.int .i64 7] from rfl) (Reps.one (show Kd.M (Kd.int .i64) _ _ _ 11 [.int .i64 11] from rfl) (Reps.one (show Kd.M (Kd.int .i64) _ _ _ 11 [.int .i64 11] from rfl) (Reps.one (show Kd.M (Kd.int .i64) _ _ _ 14 [.int .i64 14] from rfl) (Reps.one (show Kd.M (Kd.int .i64) _ _ _ 15 [.int .i64 15] from rfl) (Reps.one (show Kd.M (Kd.int .i64) _ _ _ 10 [.int .i64 10] from rfl) (Reps.one (show Kd.M (Kd.int .i64) _ _ _ 8 [.int .i64 8] from rfl) (Reps.one (show Kd.M (Kd.int .i64) _ _ _ 0 [.int .i64 0] from rfl) (Reps.one (show Kd.M (Kd.int .i64) _ _ _ 7 [.int .i64 7] from rfl) (Reps.none _ _))))))))))))); intro v172 w6 ho7 hb hg_ hnew_; clear hg_ hnew_; (first | rw [← Ny171.out] at ho7 | (simp only [Int.reduceToNat] at ho7; rw [← Ny171.out] at ho7)); have n0_ := Aside0.mk (Kd.R_lower ho7 (below_size (zB3_15))); have n1_ := Aside0.mk (below_step (zB3_15) hb); clear HB; have HO173 := n0_; have HB := n1_; clear n0_ n1_; clear hb ho7; obtain ⟨Ao8, co8, eo8⟩ := Kd.R_slice HO173.out; subst eo8; have p174 : 0 ≤ (a0 : Int) := zA3; have q174 : a0 < (y171.length : Int) := zA3; obtain ⟨ad174, e174, hx174_0⟩ := Kd.at_int (Kd.R_reads' HO173.out).2.2 a0 p174 q174; cases e174; replace p174 := eq_true p174; replace q174 := eq_true q174))
 go_ret
 exact ⟨zE3, zB3_15⟩

/-! ### spec_l8Field: function 117 -/
def spec_l8Field.f (a0 : Int) (a1 : Int) (a2 : Bool) : Option (Bool) := (spec_l1In.f a0 0 a1).bind fun t175 => (if t175 = true then (if a2 = true then (some true) else (some (a0 == 0))) else (some false))
set_option maxHeartbeats 8000000 in
set_option maxRecDepth 100000 in
theorem spec_l8Field.calls (a0 : Int) (a1 : Int) (a2 : Bool) (r : Bool) (w : World) (h : spec_l8Field.f a0 a1 a2 = some r) :
  Calls Try.prog 117 #[.int .i64 a0, .int .i64 a1, .bool a2] w fun e w' => e = .returned (.bool r) ∧ Drawn0 w w' := by
 have H : ((spec_l1In.f a0 0 a1).bind fun t175 => (if t175 = true then (if a2 = true then (some true) else (some (a0 == 0))) else (some false))) = some r := h
 clear h
 replace H := Option.bind_eq_some_iff.mp H
 obtain ⟨t175, A40, H⟩ := H
 replace H : (if t175 = true then (if a2 = true then (some true) else (some (a0 == 0))) else (some false)) = some r := H
 have A4 := Aside0.mk A40
 clear A40
 by_cases c5 : t175 = true
 rotate_left
 ·replace c5 := Bool.eq_false_iff.mpr c5
  subst c5
  have H1 : (some false) = some r := by rw [if_neg (show ¬ (false = true) by decide)] at H; exact H
  clear H
  have H := H1
  clear H1
  obtain rfl := Option.some.inj H
  go_enter Try.func117, Try.ntmps117
  go_wp2_with (first | ((with_reducible refine gate_callee (f := 55) rfl ?_); refine goesL_ (some 9) rfl rfl Try.func55 (by kernel_rfl) rfl #[.int .i64 a0, .int .i64 0, .int .i64 a1] rfl zT3 ?_; (with_reducible refine (spec_l1In.calls a0 0 a1 false _ A4.out).mono ?_); rintro e w' ⟨rfl, ⟨nd, rfl⟩⟩; refine ⟨_, rfl, ?_⟩))
  go_ret
  exact ⟨by first | rfl | (simp; done) | (simp [*]; done), by repeat (first | exact Drawn0.refl _ | apply Drawn0.step)⟩
 subst c5
 have H1 : (if a2 = true then (some true) else (some (a0 == 0))) = some r := by rw [if_pos rfl] at H; exact H
 clear H
 have H := H1
 clear H1
 by_cases c6 : a2 = true
 ·subst c6
  have H1 : (some true) = some r := by rw [if_pos rfl] at H; exact H
  clear H
  have H := H1
  clear H1
  obtain rfl := Option.some.inj H
  go_enter Try.func117, Try.ntmps117
  go_wp2_with (first | ((with_reducible refine gate_callee (f := 55) rfl ?_); refine goesL_ (some 9) rfl rfl Try.func55 (by kernel_rfl) rfl #[.int .i64 a0, .int .i64 0, .int .i64 a1] rfl zT3 ?_; (with_reducible refine (spec_l1In.calls a0 0 a1 true _ A4.out).mono ?_); rintro e w' ⟨rfl, ⟨nd, rfl⟩⟩; refine ⟨_, rfl, ?_⟩))
  go_ret
  exact ⟨by first | rfl | (simp; done) | (simp [*]; done), by repeat (first | exact Drawn0.refl _ | apply Drawn0.step)⟩
 replace c6 := Bool.eq_false_iff.mpr c6
 subst c6
 have H1 : (some (a0 == 0)) = some r := by rw [if_neg (show ¬ (false = true) by decide)] at H; exact H
 clear H
 have H := H1
 clear H1
 obtain rfl := Option.some.inj H
 go_enter Try.func117, Try.ntmps117
 go_wp2_with (first | ((with_reducible refine gate_callee (f := 55) rfl ?_); refine goesL_ (some 9) rfl rfl Try.func55 (by kernel_rfl) rfl #[.int .i64 a0, .int .i64 0, .int .i64 a1] rfl zT3 ?_; (with_reducible refine (spec_l1In.calls a0 0 a1 true _ A4.out).mono ?_); rintro e w' ⟨rfl, ⟨nd, rfl⟩⟩; refine ⟨_, rfl, ?_⟩))
 go_ret
 exact ⟨by first | rfl | (simp; done) | (simp [*]; done), by repeat (first | exact Drawn0.refl _ | apply Drawn0.step)⟩

/-! ### spec_InsOk: function 94 -/
def spec_InsOk.f (a0_0 : Int) (a0_1 : Int) (a0_2 : Int) (a0_3 : Int) (a0_4 : Int) : Option (Bool) := (spec_l8Has.f a0_0).bind fun t177 => ((spec_l1In.f a0_0 1 10).bind fun t178 => (if t178 = true then ((spec_l8Field.f a0_1 3 ((Go.bits .and .i64 t177 1) != 0)).bind fun t179 => (if t179 = true then ((spec_l8Field.f a0_2 3 ((Go.bits .and .i64 t177 2) != 0)).bind fun t180 => (if t180 = true then ((spec_l8Field.f a0_3 3 ((Go.bits .and .i64 t177 4) != 0)).bind fun t181 => (if t181 = true then ((spec_l8Field.f a0_4 63 ((Go.bits .and .i64 t177 8) != 0)).bind fun t182 => (some t182)) else (some false))) else (some false))) else (some false))) else (some false)))
set_option maxHeartbeats 8000000 in
set_option maxRecDepth 100000 in
theorem spec_InsOk.calls (a0_0 : Int) (a0_1 : Int) (a0_2 : Int) (a0_3 : Int) (a0_4 : Int) (r : Bool) (w : World) (h : spec_InsOk.f a0_0 a0_1 a0_2 a0_3 a0_4 = some r) :
  Calls Try.prog 94 #[.agg #[.int .i64 a0_0, .int .i64 a0_1, .int .i64 a0_2, .int .i64 a0_3, .int .i64 a0_4]] w fun e w' => e = .returned (.bool r) ∧ Below w.heap.size w w' := by
 have hu66 := Try.underlying66
 have HB := Aside0.mk (Below.refl w.heap.size w)
 have H : ((spec_l8Has.f a0_0).bind fun t177 => ((spec_l1In.f a0_0 1 10).bind fun t178 => (if t178 = true then ((spec_l8Field.f a0_1 3 ((Go.bits .and .i64 t177 1) != 0)).bind fun t179 => (if t179 = true then ((spec_l8Field.f a0_2 3 ((Go.bits .and .i64 t177 2) != 0)).bind fun t180 => (if t180 = true then ((spec_l8Field.f a0_3 3 ((Go.bits .and .i64 t177 4) != 0)).bind fun t181 => (if t181 = true then ((spec_l8Field.f a0_4 63 ((Go.bits .and .i64 t177 8) != 0)).bind fun t182 => (some t182)) else (some false))) else (some false))) else (some false))) else (some false)))) = some r := h
 clear h
 replace H := Option.bind_eq_some_iff.mp H
 obtain ⟨t177, A20, H⟩ := H
 replace H : ((spec_l1In.f a0_0 1 10).bind fun t178 => (if t178 = true then ((spec_l8Field.f a0_1 3 ((Go.bits .and .i64 t177 1) != 0)).bind fun t179 => (if t179 = true then ((spec_l8Field.f a0_2 3 ((Go.bits .and .i64 t177 2) != 0)).bind fun t180 => (if t180 = true then ((spec_l8Field.f a0_3 3 ((Go.bits .and .i64 t177 4) != 0)).bind fun t181 => (if t181 = true then ((spec_l8Field.f a0_4 63 ((Go.bits .and .i64 t177 8) != 0)).bind fun t182 => (some t182)) else (some false))) else (some false))) else (some false))) else (some false))) = some r := H
 have A2 := Aside0.mk A20
 clear A20
 replace H := Option.bind_eq_some_iff.mp H
 obtain ⟨t178, A30, H⟩ := H
 replace H : (if t178 = true then ((spec_l8Field.f a0_1 3 ((Go.bits .and .i64 t177 1) != 0)).bind fun t179 => (if t179 = true then ((spec_l8Field.f a0_2 3 ((Go.bits .and .i64 t177 2) != 0)).bind fun t180 => (if t180 = true then ((spec_l8Field.f a0_3 3 ((Go.bits .and .i64 t177 4) != 0)).bind fun t181 => (if t181 = true then ((spec_l8Field.f a0_4 63 ((Go.bits .and .i64 t177 8) != 0)).bind fun t182 => (some t182)) else (some false))) else (some false))) else (some false))) else (some false)) = some r := H
 have A3 := Aside0.mk A30
 clear A30
 by_cases c4 : t178 = true
 rotate_left
 ·replace c4 := Bool.eq_false_iff.mpr c4
  subst c4
  have H1 : (some false) = some r := by rw [if_neg (show ¬ (false = true) by decide)] at H; exact H
  clear H
  have H := H1
  clear H1
  obtain rfl := Option.some.inj H
  go_enter Try.func94, Try.ntmps94
  go_wp2_with (first | ((with_reducible refine gate_dst (N := 1) rfl ?_); refine box_event ?hg (N := 1) ?hd (cs := #[.int .i64 a0_0, .int .i64 a0_1, .int .i64 a0_2, .int .i64 a0_3, .int .i64 a0_4]) (t := 66) ?hr ?_; (case hd => rfl); (case hg => rfl); (case hr => first | (go_simp; done) | (go_simp; rfl)); intro gb176 hg w28 hbox hb; have n0_ := Aside0.mk (below_step (zB3_15) hb); have n1_ := Aside0.mk (hbox); have n2_ := Aside0.mk ((by rw [hg]; exact (below_size (zB3_15)) : w.heap.size ≤ gb176)); have n3_ := Aside0.mk ((by rw [hg]; exact (below_size (zB3_15)) : w.heap.size ≤ gb176)); clear HB; have HB := n0_; have BK176 := n1_; have GW176 := n2_; have GE176 := n3_; clear n0_ n1_ n2_ n3_; clear hb hbox hg; obtain ⟨hcz29_0, hcz29_1, hcz29_2, hcz29_3, hcz29_4, hfz29_0, hfz29_1, hfz29_2, hfz29_3, hfz29_4⟩ := zc3_5 (w := w28) BK176.out) | ((with_reducible refine gate_callee (f := 116) rfl ?_); refine goesL_ (some 6) rfl rfl Try.func116 (by kernel_rfl) rfl #[.int .i64 a0_0] rfl zT3 ?_; (with_reducible refine (spec_l8Has.calls a0_0 t177 _ A2.out).mono ?_); rintro e w30 ⟨rfl, hb⟩; refine ⟨_, rfl, ?_⟩; have n0_ := Aside0.mk (zb3 BK176.out hb); have n1_ := Aside0.mk (below_step (zB3_16) hb); clear BK176; clear HB; have BK176 := n0_; have HB := n1_; clear n0_ n1_; (try clear hb); (try clear hb2); (try clear hk); (try clear hi); obtain ⟨hcz31_0, hcz31_1, hcz31_2, hcz31_3, hcz31_4, hfz31_0, hfz31_1, hfz31_2, hfz31_3, hfz31_4⟩ := zc3_5 (w := w30) BK176.out) | ((with_reducible refine gate_callee (f := 55) rfl ?_); refine goesL_ (some 9) rfl rfl Try.func55 (by kernel_rfl) rfl #[.int .i64 a0_0, .int .i64 1, .int .i64 10] rfl zT3 ?_; (with_reducible refine (spec_l1In.calls a0_0 1 10 false _ A3.out).mono ?_); rintro e w' ⟨rfl, ⟨nd, rfl⟩⟩; refine ⟨_, rfl, ?_⟩))
  go_ret
  exact ⟨zE3, zB3_16⟩
 subst c4
 have H1 : ((spec_l8Field.f a0_1 3 ((Go.bits .and .i64 t177 1) != 0)).bind fun t179 => (if t179 = true then ((spec_l8Field.f a0_2 3 ((Go.bits .and .i64 t177 2) != 0)).bind fun t180 => (if t180 = true then ((spec_l8Field.f a0_3 3 ((Go.bits .and .i64 t177 4) != 0)).bind fun t181 => (if t181 = true then ((spec_l8Field.f a0_4 63 ((Go.bits .and .i64 t177 8) != 0)).bind fun t182 => (some t182)) else (some false))) else (some false))) else (some false))) = some r := by rw [if_pos rfl] at H; exact H
 clear H
 have H := H1
 clear H1
 replace H := Option.bind_eq_some_iff.mp H
 obtain ⟨t179, A50, H⟩ := H
 replace H : (if t179 = true then ((spec_l8Field.f a0_2 3 ((Go.bits .and .i64 t177 2) != 0)).bind fun t180 => (if t180 = true then ((spec_l8Field.f a0_3 3 ((Go.bits .and .i64 t177 4) != 0)).bind fun t181 => (if t181 = true then ((spec_l8Field.f a0_4 63 ((Go.bits .and .i64 t177 8) != 0)).bind fun t182 => (some t182)) else (some false))) else (some false))) else (some false)) = some r := H
 have A5 := Aside0.mk A50
 clear A50
 by_cases c6 : t179 = true
 rotate_left
 ·replace c6 := Bool.eq_false_iff.mpr c6
  subst c6
  have H1 : (some false) = some r := by rw [if_neg (show ¬ (false = true) by decide)] at H; exact H
  clear H
  have H := H1
  clear H1
  obtain rfl := Option.some.inj H
  go_enter Try.func94, Try.ntmps94
  go_wp2_with (first | ((with_reducible refine gate_dst (N := 1) rfl ?_); refine box_event ?hg (N := 1) ?hd (cs := #[.int .i64 a0_0, .int .i64 a0_1, .int .i64 a0_2, .int .i64 a0_3, .int .i64 a0_4]) (t := 66) ?hr ?_; (case hd => rfl); (case hg => rfl); (case hr => first | (go_simp; done) | (go_simp; rfl)); intro gb176 hg w24 hbox hb; have n0_ := Aside0.mk (below_step (zB3_15) hb); have n1_ := Aside0.mk (hbox); have n2_ := Aside0.mk ((by rw [hg]; exact (below_size (zB3_15)) : w.heap.size ≤ gb176)); have n3_ := Aside0.mk ((by rw [hg]; exact (below_size (zB3_15)) : w.heap.size ≤ gb176)); clear HB; have HB := n0_; have BK176 := n1_; have GW176 := n2_; have GE176 := n3_; clear n0_ n1_ n2_ n3_; clear hb hbox hg; obtain ⟨hcz25_0, hcz25_1, hcz25_2, hcz25_3, hcz25_4, hfz25_0, hfz25_1, hfz25_2, hfz25_3, hfz25_4⟩ := zc3_5 (w := w24) BK176.out) | ((with_reducible refine gate_callee (f := 116) rfl ?_); refine goesL_ (some 6) rfl rfl Try.func116 (by kernel_rfl) rfl #[.int .i64 a0_0] rfl zT3 ?_; (with_reducible refine (spec_l8Has.calls a0_0 t177 _ A2.out).mono ?_); rintro e w26 ⟨rfl, hb⟩; refine ⟨_, rfl, ?_⟩; have n0_ := Aside0.mk (zb3 BK176.out hb); have n1_ := Aside0.mk (below_step (zB3_16) hb); clear BK176; clear HB; have BK176 := n0_; have HB := n1_; clear n0_ n1_; (try clear hb); (try clear hb2); (try clear hk); (try clear hi); obtain ⟨hcz27_0, hcz27_1, hcz27_2, hcz27_3, hcz27_4, hfz27_0, hfz27_1, hfz27_2, hfz27_3, hfz27_4⟩ := zc3_5 (w := w26) BK176.out) | ((with_reducible refine gate_callee (f := 55) rfl ?_); refine goesL_ (some 9) rfl rfl Try.func55 (by kernel_rfl) rfl #[.int .i64 a0_0, .int .i64 1, .int .i64 10] rfl zT3 ?_; (with_reducible refine (spec_l1In.calls a0_0 1 10 true _ A3.out).mono ?_); rintro e w' ⟨rfl, ⟨nd, rfl⟩⟩; refine ⟨_, rfl, ?_⟩) | (go_at_call 117; (with_reducible refine (spec_l8Field.calls a0_1 3 ((Go.bits .and .i64 t177 1) != 0) false _ A5.out).mono ?_); rintro e w' ⟨rfl, ⟨nd, rfl⟩⟩))
  go_ret
  exact ⟨zE3, zB3_16⟩
 subst c6
 have H1 : ((spec_l8Field.f a0_2 3 ((Go.bits .and .i64 t177 2) != 0)).bind fun t180 => (if t180 = true then ((spec_l8Field.f a0_3 3 ((Go.bits .and .i64 t177 4) != 0)).bind fun t181 => (if t181 = true then ((spec_l8Field.f a0_4 63 ((Go.bits .and .i64 t177 8) != 0)).bind fun t182 => (some t182)) else (some false))) else (some false))) = some r := by rw [if_pos rfl] at H; exact H
 clear H
 have H := H1
 clear H1
 replace H := Option.bind_eq_some_iff.mp H
 obtain ⟨t180, A70, H⟩ := H
 replace H : (if t180 = true then ((spec_l8Field.f a0_3 3 ((Go.bits .and .i64 t177 4) != 0)).bind fun t181 => (if t181 = true then ((spec_l8Field.f a0_4 63 ((Go.bits .and .i64 t177 8) != 0)).bind fun t182 => (some t182)) else (some false))) else (some false)) = some r := H
 have A7 := Aside0.mk A70
 clear A70
 by_cases c8 : t180 = true
 rotate_left
 ·replace c8 := Bool.eq_false_iff.mpr c8
  subst c8
  have H1 : (some false) = some r := by rw [if_neg (show ¬ (false = true) by decide)] at H; exact H
  clear H
  have H := H1
  clear H1
  obtain rfl := Option.some.inj H
  go_enter Try.func94, Try.ntmps94
  go_wp2_with (first | ((with_reducible refine gate_dst (N := 1) rfl ?_); refine box_event ?hg (N := 1) ?hd (cs := #[.int .i64 a0_0, .int .i64 a0_1, .int .i64 a0_2, .int .i64 a0_3, .int .i64 a0_4]) (t := 66) ?hr ?_; (case hd => rfl); (case hg => rfl); (case hr => first | (go_simp; done) | (go_simp; rfl)); intro gb176 hg w20 hbox hb; have n0_ := Aside0.mk (below_step (zB3_15) hb); have n1_ := Aside0.mk (hbox); have n2_ := Aside0.mk ((by rw [hg]; exact (below_size (zB3_15)) : w.heap.size ≤ gb176)); have n3_ := Aside0.mk ((by rw [hg]; exact (below_size (zB3_15)) : w.heap.size ≤ gb176)); clear HB; have HB := n0_; have BK176 := n1_; have GW176 := n2_; have GE176 := n3_; clear n0_ n1_ n2_ n3_; clear hb hbox hg; obtain ⟨hcz21_0, hcz21_1, hcz21_2, hcz21_3, hcz21_4, hfz21_0, hfz21_1, hfz21_2, hfz21_3, hfz21_4⟩ := zc3_5 (w := w20) BK176.out) | ((with_reducible refine gate_callee (f := 116) rfl ?_); refine goesL_ (some 6) rfl rfl Try.func116 (by kernel_rfl) rfl #[.int .i64 a0_0] rfl zT3 ?_; (with_reducible refine (spec_l8Has.calls a0_0 t177 _ A2.out).mono ?_); rintro e w22 ⟨rfl, hb⟩; refine ⟨_, rfl, ?_⟩; have n0_ := Aside0.mk (zb3 BK176.out hb); have n1_ := Aside0.mk (below_step (zB3_16) hb); clear BK176; clear HB; have BK176 := n0_; have HB := n1_; clear n0_ n1_; (try clear hb); (try clear hb2); (try clear hk); (try clear hi); obtain ⟨hcz23_0, hcz23_1, hcz23_2, hcz23_3, hcz23_4, hfz23_0, hfz23_1, hfz23_2, hfz23_3, hfz23_4⟩ := zc3_5 (w := w22) BK176.out) | ((with_reducible refine gate_callee (f := 55) rfl ?_); refine goesL_ (some 9) rfl rfl Try.func55 (by kernel_rfl) rfl #[.int .i64 a0_0, .int .i64 1, .int .i64 10] rfl zT3 ?_; (with_reducible refine (spec_l1In.calls a0_0 1 10 true _ A3.out).mono ?_); rintro e w' ⟨rfl, ⟨nd, rfl⟩⟩; refine ⟨_, rfl, ?_⟩) | (go_at_call 117; (with_reducible refine (spec_l8Field.calls a0_1 3 ((Go.bits .and .i64 t177 1) != 0) true _ A5.out).mono ?_); rintro e w' ⟨rfl, ⟨nd, rfl⟩⟩) | (go_at_call 117; (with_reducible refine (spec_l8Field.calls a0_2 3 ((Go.bits .and .i64 t177 2) != 0) false _ A7.out).mono ?_); rintro e w' ⟨rfl, ⟨nd, rfl⟩⟩))
  go_ret
  exact ⟨zE3, zB3_16⟩
 subst c8
 have H1 : ((spec_l8Field.f a0_3 3 ((Go.bits .and .i64 t177 4) != 0)).bind fun t181 => (if t181 = true then ((spec_l8Field.f a0_4 63 ((Go.bits .and .i64 t177 8) != 0)).bind fun t182 => (some t182)) else (some false))) = some r := by rw [if_pos rfl] at H; exact H
 clear H
 have H := H1
 clear H1
 replace H := Option.bind_eq_some_iff.mp H
 obtain ⟨t181, A90, H⟩ := H
 replace H : (if t181 = true then ((spec_l8Field.f a0_4 63 ((Go.bits .and .i64 t177 8) != 0)).bind fun t182 => (some t182)) else (some false)) = some r := H
 have A9 := Aside0.mk A90
 clear A90
 by_cases c10 : t181 = true
 rotate_left
 ·replace c10 := Bool.eq_false_iff.mpr c10
  subst c10
  have H1 : (some false) = some r := by rw [if_neg (show ¬ (false = true) by decide)] at H; exact H
  clear H
  have H := H1
  clear H1
  obtain rfl := Option.some.inj H
  go_enter Try.func94, Try.ntmps94
  go_wp2_with (first | ((with_reducible refine gate_dst (N := 1) rfl ?_); refine box_event ?hg (N := 1) ?hd (cs := #[.int .i64 a0_0, .int .i64 a0_1, .int .i64 a0_2, .int .i64 a0_3, .int .i64 a0_4]) (t := 66) ?hr ?_; (case hd => rfl); (case hg => rfl); (case hr => first | (go_simp; done) | (go_simp; rfl)); intro gb176 hg w16 hbox hb; have n0_ := Aside0.mk (below_step (zB3_15) hb); have n1_ := Aside0.mk (hbox); have n2_ := Aside0.mk ((by rw [hg]; exact (below_size (zB3_15)) : w.heap.size ≤ gb176)); have n3_ := Aside0.mk ((by rw [hg]; exact (below_size (zB3_15)) : w.heap.size ≤ gb176)); clear HB; have HB := n0_; have BK176 := n1_; have GW176 := n2_; have GE176 := n3_; clear n0_ n1_ n2_ n3_; clear hb hbox hg; obtain ⟨hcz17_0, hcz17_1, hcz17_2, hcz17_3, hcz17_4, hfz17_0, hfz17_1, hfz17_2, hfz17_3, hfz17_4⟩ := zc3_5 (w := w16) BK176.out) | ((with_reducible refine gate_callee (f := 116) rfl ?_); refine goesL_ (some 6) rfl rfl Try.func116 (by kernel_rfl) rfl #[.int .i64 a0_0] rfl zT3 ?_; (with_reducible refine (spec_l8Has.calls a0_0 t177 _ A2.out).mono ?_); rintro e w18 ⟨rfl, hb⟩; refine ⟨_, rfl, ?_⟩; have n0_ := Aside0.mk (zb3 BK176.out hb); have n1_ := Aside0.mk (below_step (zB3_16) hb); clear BK176; clear HB; have BK176 := n0_; have HB := n1_; clear n0_ n1_; (try clear hb); (try clear hb2); (try clear hk); (try clear hi); obtain ⟨hcz19_0, hcz19_1, hcz19_2, hcz19_3, hcz19_4, hfz19_0, hfz19_1, hfz19_2, hfz19_3, hfz19_4⟩ := zc3_5 (w := w18) BK176.out) | ((with_reducible refine gate_callee (f := 55) rfl ?_); refine goesL_ (some 9) rfl rfl Try.func55 (by kernel_rfl) rfl #[.int .i64 a0_0, .int .i64 1, .int .i64 10] rfl zT3 ?_; (with_reducible refine (spec_l1In.calls a0_0 1 10 true _ A3.out).mono ?_); rintro e w' ⟨rfl, ⟨nd, rfl⟩⟩; refine ⟨_, rfl, ?_⟩) | (go_at_call 117; (with_reducible refine (spec_l8Field.calls a0_1 3 ((Go.bits .and .i64 t177 1) != 0) true _ A5.out).mono ?_); rintro e w' ⟨rfl, ⟨nd, rfl⟩⟩) | (go_at_call 117; (with_reducible refine (spec_l8Field.calls a0_2 3 ((Go.bits .and .i64 t177 2) != 0) true _ A7.out).mono ?_); rintro e w' ⟨rfl, ⟨nd, rfl⟩⟩) | (go_at_call 117; (with_reducible refine (spec_l8Field.calls a0_3 3 ((Go.bits .and .i64 t177 4) != 0) false _ A9.out).mono ?_); rintro e w' ⟨rfl, ⟨nd, rfl⟩⟩))
  go_ret
  exact ⟨zE3, zB3_16⟩
 subst c10
 have H1 : ((spec_l8Field.f a0_4 63 ((Go.bits .and .i64 t177 8) != 0)).bind fun t182 => (some t182)) = some r := by rw [if_pos rfl] at H; exact H
 clear H
 have H := H1
 clear H1
 replace H := Option.bind_eq_some_iff.mp H
 obtain ⟨t182, A110, H⟩ := H
 replace H : (some t182) = some r := H
 have A11 := Aside0.mk A110
 clear A110
 obtain rfl := Option.some.inj H
 go_enter Try.func94, Try.ntmps94
 go_wp2_with (first | ((with_reducible refine gate_dst (N := 1) rfl ?_); refine box_event ?hg (N := 1) ?hd (cs := #[.int .i64 a0_0, .int .i64 a0_1, .int .i64 a0_2, .int .i64 a0_3, .int .i64 a0_4]) (t := 66) ?hr ?_; (case hd => rfl); (case hg => rfl); (case hr => first | (go_simp; done) | (go_simp; rfl)); intro gb176 hg w12 hbox hb; have n0_ := Aside0.mk (below_step (zB3_15) hb); have n1_ := Aside0.mk (hbox); have n2_ := Aside0.mk ((by rw [hg]; exact (below_size (zB3_15)) : w.heap.size ≤ gb176)); have n3_ := Aside0.mk ((by rw [hg]; exact (below_size (zB3_15)) : w.heap.size ≤ gb176)); clear HB; have HB := n0_; have BK176 := n1_; have GW176 := n2_; have GE176 := n3_; clear n0_ n1_ n2_ n3_; clear hb hbox hg; obtain ⟨hcz13_0, hcz13_1, hcz13_2, hcz13_3, hcz13_4, hfz13_0, hfz13_1, hfz13_2, hfz13_3, hfz13_4⟩ := zc3_5 (w := w12) BK176.out) | ((with_reducible refine gate_callee (f := 116) rfl ?_); refine goesL_ (some 6) rfl rfl Try.func116 (by kernel_rfl) rfl #[.int .i64 a0_0] rfl zT3 ?_; (with_reducible refine (spec_l8Has.calls a0_0 t177 _ A2.out).mono ?_); rintro e w14 ⟨rfl, hb⟩; refine ⟨_, rfl, ?_⟩; have n0_ := Aside0.mk (zb3 BK176.out hb); have n1_ := Aside0.mk (below_step (zB3_16) hb); clear BK176; clear HB; have BK176 := n0_; have HB := n1_; clear n0_ n1_; (try clear hb); (try clear hb2); (try clear hk); (try clear hi); obtain ⟨hcz15_0, hcz15_1, hcz15_2, hcz15_3, hcz15_4, hfz15_0, hfz15_1, hfz15_2, hfz15_3, hfz15_4⟩ := zc3_5 (w := w14) BK176.out) | ((with_reducible refine gate_callee (f := 55) rfl ?_); refine goesL_ (some 9) rfl rfl Try.func55 (by kernel_rfl) rfl #[.int .i64 a0_0, .int .i64 1, .int .i64 10] rfl zT3 ?_; (with_reducible refine (spec_l1In.calls a0_0 1 10 true _ A3.out).mono ?_); rintro e w' ⟨rfl, ⟨nd, rfl⟩⟩; refine ⟨_, rfl, ?_⟩) | (go_at_call 117; (with_reducible refine (spec_l8Field.calls a0_1 3 ((Go.bits .and .i64 t177 1) != 0) true _ A5.out).mono ?_); rintro e w' ⟨rfl, ⟨nd, rfl⟩⟩) | (go_at_call 117; (with_reducible refine (spec_l8Field.calls a0_2 3 ((Go.bits .and .i64 t177 2) != 0) true _ A7.out).mono ?_); rintro e w' ⟨rfl, ⟨nd, rfl⟩⟩) | (go_at_call 117; (with_reducible refine (spec_l8Field.calls a0_3 3 ((Go.bits .and .i64 t177 4) != 0) true _ A9.out).mono ?_); rintro e w' ⟨rfl, ⟨nd, rfl⟩⟩) | (go_at_call 117; (with_reducible refine (spec_l8Field.calls a0_4 63 ((Go.bits .and .i64 t177 8) != 0) t182 _ A11.out).mono ?_); rintro e w' ⟨rfl, ⟨nd, rfl⟩⟩))
 go_ret
 exact ⟨zE3, zB3_16⟩

/-! ### spec_Code: function 100 -/
def spec_Code.f (a0_0 : Int) (a0_1 : Int) (a0_2 : Int) (a0_3 : Int) (a0_4 : Int) : Option (Int × Bool) := (spec_InsOk.f a0_0 a0_1 a0_2 a0_3 a0_4).bind fun t184 => (if t184 = true then (some (wrap64 ((wrap64 ((wrap64 ((wrap64 (a0_0 + (wrap64 (16 * a0_1)))) + (wrap64 (64 * a0_2)))) + (wrap64 (256 * a0_3)))) + (wrap64 (1024 * a0_4))), true)) else (some (0, false)))
set_option maxHeartbeats 8000000 in
set_option maxRecDepth 100000 in
theorem spec_Code.calls (a0_0 : Int) (a0_1 : Int) (a0_2 : Int) (a0_3 : Int) (a0_4 : Int) (r1 : Int) (r2 : Bool) (w : World) (h : spec_Code.f a0_0 a0_1 a0_2 a0_3 a0_4 = some (r1, r2)) :
  Calls Try.prog 100 #[.agg #[.int .i64 a0_0, .int .i64 a0_1, .int .i64 a0_2, .int .i64 a0_3, .int .i64 a0_4]] w fun e w' => e = .returned (.tuple #[.int .i64 r1, .bool r2]) ∧ Below w.heap.size w w' := by
 have hu66 := Try.underlying66
 have HB := Aside0.mk (Below.refl w.heap.size w)
 have H : ((spec_InsOk.f a0_0 a0_1 a0_2 a0_3 a0_4).bind fun t184 => (if t184 = true then (some (wrap64 ((wrap64 ((wrap64 ((wrap64 (a0_0 + (wrap64 (16 * a0_1)))) + (wrap64 (64 * a0_2)))) + (wrap64 (256 * a0_3)))) + (wrap64 (1024 * a0_4))), true)) else (some (0, false)))) = some (r1, r2) := h
 clear h
 replace H := Option.bind_eq_some_iff.mp H
 obtain ⟨t184, A20, H⟩ := H
 replace H : (if t184 = true then (some (wrap64 ((wrap64 ((wrap64 ((wrap64 (a0_0 + (wrap64 (16 * a0_1)))) + (wrap64 (64 * a0_2)))) + (wrap64 (256 * a0_3)))) + (wrap64 (1024 * a0_4))), true)) else (some (0, false))) = some (r1, r2) := H
 have A2 := Aside0.mk A20
 clear A20
 by_cases c3 : t184 = true
 rotate_left
 ·replace c3 := Bool.eq_false_iff.mpr c3
  subst c3
  have H1 : (some (0, false)) = some (r1, r2) := by rw [if_neg (show ¬ (false = true) by decide)] at H; exact H
  clear H
  have H := H1
  clear H1
  simp only [Option.some.injEq, Prod.mk.injEq] at H
  obtain ⟨rfl, rfl⟩ := H
  go_enter Try.func100, Try.ntmps100
  go_wp2_with (first | ((with_reducible refine gate_dst (N := 1) rfl ?_); refine box_event ?hg (N := 1) ?hd (cs := #[.int .i64 a0_0, .int .i64 a0_1, .int .i64 a0_2, .int .i64 a0_3, .int .i64 a0_4]) (t := 66) ?hr ?_; (case hd => rfl); (case hg => rfl); (case hr => first | (go_simp; done) | (go_simp; rfl)); intro gb183 hg w8 hbox hb; have n0_ := Aside0.mk (below_step (zB3_15) hb); have n1_ := Aside0.mk (hbox); have n2_ := Aside0.mk ((by rw [hg]; exact (below_size (zB3_15)) : w.heap.size ≤ gb183)); have n3_ := Aside0.mk ((by rw [hg]; exact (below_size (zB3_15)) : w.heap.size ≤ gb183)); clear HB; have HB := n0_; have BK183 := n1_; have GW183 := n2_; have GE183 := n3_; clear n0_ n1_ n2_ n3_; clear hb hbox hg; obtain ⟨hcz9_0, hcz9_1, hcz9_2, hcz9_3, hcz9_4, hfz9_0, hfz9_1, hfz9_2, hfz9_3, hfz9_4⟩ := zc3_5 (w := w8) BK183.out) | ((with_reducible refine gate_callee (f := 94) rfl ?_); refine goesL_ (some 5) rfl rfl Try.func94 (by kernel_rfl) rfl #[.agg #[.int .i64 a0_0, .int .i64 a0_1, .int .i64 a0_2, .int .i64 a0_3, .int .i64 a0_4]] rfl zT3 ?_; (with_reducible refine (spec_InsOk.calls a0_0 a0_1 a0_2 a0_3 a0_4 false _ A2.out).mono ?_); rintro e w10 ⟨rfl, hb⟩; refine ⟨_, rfl, ?_⟩; have n0_ := Aside0.mk (zb3 BK183.out hb); have n1_ := Aside0.mk (below_step (zB3_17) hb); clear BK183; clear HB; have BK183 := n0_; have HB := n1_; clear n0_ n1_; (try clear hb); (try clear hb2); (try clear hk); (try clear hi)))
  go_ret2
  exact ⟨zE3, zB3_17⟩
 subst c3
 have H1 : (some (wrap64 ((wrap64 ((wrap64 ((wrap64 (a0_0 + (wrap64 (16 * a0_1)))) + (wrap64 (64 * a0_2)))) + (wrap64 (256 * a0_3)))) + (wrap64 (1024 * a0_4))), true)) = some (r1, r2) := by rw [if_pos rfl] at H; exact H
 clear H
 have H := H1
 clear H1
 simp only [Option.some.injEq, Prod.mk.injEq] at H
 obtain ⟨rfl, rfl⟩ := H
 go_enter Try.func100, Try.ntmps100
 go_wp2_with (first | ((with_reducible refine gate_dst (N := 1) rfl ?_); refine box_event ?hg (N := 1) ?hd (cs := #[.int .i64 a0_0, .int .i64 a0_1, .int .i64 a0_2, .int .i64 a0_3, .int .i64 a0_4]) (t := 66) ?hr ?_; (case hd => rfl); (case hg => rfl); (case hr => first | (go_simp; done) | (go_simp; rfl)); intro gb183 hg w4 hbox hb; have n0_ := Aside0.mk (below_step (zB3_15) hb); have n1_ := Aside0.mk (hbox); have n2_ := Aside0.mk ((by rw [hg]; exact (below_size (zB3_15)) : w.heap.size ≤ gb183)); have n3_ := Aside0.mk ((by rw [hg]; exact (below_size (zB3_15)) : w.heap.size ≤ gb183)); clear HB; have HB := n0_; have BK183 := n1_; have GW183 := n2_; have GE183 := n3_; clear n0_ n1_ n2_ n3_; clear hb hbox hg; obtain ⟨hcz5_0, hcz5_1, hcz5_2, hcz5_3, hcz5_4, hfz5_0, hfz5_1, hfz5_2, hfz5_3, hfz5_4⟩ := zc3_5 (w := w4) BK183.out) | ((with_reducible refine gate_callee (f := 94) rfl ?_); refine goesL_ (some 5) rfl rfl Try.func94 (by kernel_rfl) rfl #[.agg #[.int .i64 a0_0, .int .i64 a0_1, .int .i64 a0_2, .int .i64 a0_3, .int .i64 a0_4]] rfl zT3 ?_; (with_reducible refine (spec_InsOk.calls a0_0 a0_1 a0_2 a0_3 a0_4 true _ A2.out).mono ?_); rintro e w6 ⟨rfl, hb⟩; refine ⟨_, rfl, ?_⟩; have n0_ := Aside0.mk (zb3 BK183.out hb); have n1_ := Aside0.mk (below_step (zB3_17) hb); clear BK183; clear HB; have BK183 := n0_; have HB := n1_; clear n0_ n1_; (try clear hb); (try clear hb2); (try clear hk); (try clear hi); obtain ⟨hcz7_0, hcz7_1, hcz7_2, hcz7_3, hcz7_4, hfz7_0, hfz7_1, hfz7_2, hfz7_3, hfz7_4⟩ := zc3_5 (w := w6) BK183.out))
 go_ret2
 exact ⟨zE3, zB3_17⟩

end Go.Proofs.Ytajhfpeijagpnaa.PFnResumes
