-- made by wip/tools/myprint.py out of the seat's translation
import Derived.Test.YtgbjengnkbomoaaPFnByHartx0
import Derived.Test.YtgbjengnkbomoaaPFnByHartx2
import Derived.Test.YtgbjengnkbomoaaPFnByHartx6
import Derived.Test.YtgbjengnkbomoaaPFnByHartx7
import Derived.Test.YtgbjengnkbomoaaPFnByHartx8
namespace Go.Proofs.Ytgbjengnkbomoaa.PFnByHart
open Go.RowKit Go.Proofs.YtgbjengnkbomoaaW.PrintWords Go.Proofs.YtgbjengnkbomoaaW.PrintLast Go.Proofs.YtgbjengnkbomoaaW.PrintMore
attribute [local go_sem] max2_int min2_int max_two min_two max_three min_three max_four min_four   -- for this text's walks alone
set_option linter.unusedVariables false
set_option linter.unusedSimpArgs false
theorem zc9_3 {w : World} {g : Nat} {a0 a1 a2 : Value} {t : TypeId} (h : w.heap[g]? = some (.cells #[a0, a1, a2] t (0, 0))) : w.cell? ⟨g, 0, none⟩ = some a0 ∧ w.cell? ⟨g, 1, none⟩ = some a1 ∧ w.cell? ⟨g, 2, none⟩ = some a2 ∧ w.frozen? ⟨g, 0, none⟩ = false ∧ w.frozen? ⟨g, 1, none⟩ = false ∧ w.frozen? ⟨g, 2, none⟩ = false := ⟨(blk_cell h 0).trans rfl, (blk_cell h 1).trans rfl, (blk_cell h 2).trans rfl, blk_frozen h 0, blk_frozen h 1, blk_frozen h 2⟩
theorem zc9_5 {w : World} {g : Nat} {a0 a1 a2 a3 a4 : Value} {t : TypeId} (h : w.heap[g]? = some (.cells #[a0, a1, a2, a3, a4] t (0, 0))) : w.cell? ⟨g, 0, none⟩ = some a0 ∧ w.cell? ⟨g, 1, none⟩ = some a1 ∧ w.cell? ⟨g, 2, none⟩ = some a2 ∧ w.cell? ⟨g, 3, none⟩ = some a3 ∧ w.cell? ⟨g, 4, none⟩ = some a4 ∧ w.frozen? ⟨g, 0, none⟩ = false ∧ w.frozen? ⟨g, 1, none⟩ = false ∧ w.frozen? ⟨g, 2, none⟩ = false ∧ w.frozen? ⟨g, 3, none⟩ = false ∧ w.frozen? ⟨g, 4, none⟩ = false := ⟨(blk_cell h 0).trans rfl, (blk_cell h 1).trans rfl, (blk_cell h 2).trans rfl, (blk_cell h 3).trans rfl, (blk_cell h 4).trans rfl, blk_frozen h 0, blk_frozen h 1, blk_frozen h 2, blk_frozen h 3, blk_frozen h 4⟩
theorem zR9 {p q : Prop} (x : q) (h : q → p := by intro h; (with_reducible repeat (first | apply Kd.R_alloc | apply Kd.R_drewN | apply Kd.R_drew)); exact h) : p := h x
theorem zS9 {p q : Prop} (x : q) (h : q → p := by intro h; (with_reducible repeat (first | apply Kd.S_alloc | apply Kd.S_drewN | apply Kd.S_drew)); exact h) : p := h x
theorem zQ9 {p q : Prop} (x : q) (h : q → p := by intro h; (with_reducible repeat (first | apply Kd.Q_alloc | apply Kd.Q_drewN | apply Kd.Q_drew)); exact h) : p := h x
theorem zK9 {p q : Prop} (x : q) (h : q → p := by intro h; (with_reducible repeat (first | refine blk_drewN ?_ _ | refine blk_drew ?_ | refine blk_alloc ?_ _)); exact h) : p := h x
theorem zA9 {p : Prop} [Decidable p] (h : decide p = true := by first | (with_reducible assumption) | assumption) : p := of_decide_eq_true h
theorem zT9 {p : Prop} (h : p := by (try simp only [List.map_toArray, List.map_cons, List.map_nil]); first | done | rfl | (simp only [List.length_drop, List.length_take]; rfl)) : p := h
theorem zC9 {p q : Prop} (x : q) (h : q → p := by intro h; repeat (first | exact h | (with_reducible refine Kd.C_alloc ?_ _) | (with_reducible refine Kd.C_drewN ?_ _) | (with_reducible refine Kd.C_drew ?_))) : p := h x
theorem zb9 {W w w1 : World} {g : Nat} {o : Obj} (x : W.heap[g]? = some o) (hb : Below w.heap.size w w1) (h : W.heap[g]? = some o → w.heap[g]? = some o := by intro h; (with_reducible repeat (first | refine blk_drewN ?_ _ | refine blk_drew ?_ | refine blk_alloc ?_ _)); exact h) : w1.heap[g]? = some o := blk_below (h x) hb
theorem zg9 {W w w1 : World} {g : Nat} {o : Obj} {row : Option Nat} (x : W.heap[g]? = some o) (hg : w.grownBy w1 row) (hne : some g ≠ row) (h : W.heap[g]? = some o → w.heap[g]? = some o := by intro h; (with_reducible repeat (first | refine blk_drewN ?_ _ | refine blk_drew ?_ | refine blk_alloc ?_ _)); exact h) : w1.heap[g]? = some o := blk_grown (h x) hg hne
theorem zh9 {W w w1 : World} {g g' : Nat} {o : Obj} (hk : KeepBut w w1 g none) (x : W.heap[g']? = some o) (hn : g' ≠ g) (h : W.heap[g']? = some o → w.heap[g']? = some o := by intro h; (with_reducible repeat (first | refine blk_drewN ?_ _ | refine blk_drew ?_ | refine blk_alloc ?_ _)); exact h) : w1.heap[g']? = some o := KeepBut.blk hk (h x) hn (by simp)
theorem zn9 {W w : World} {g g' : Nat} {o : Obj} (x : W.heap[g]? = some o) (hg : g' = w.heap.size) (h : W.heap[g]? = some o → w.heap[g]? = some o := by intro h; (with_reducible repeat (first | refine blk_drewN ?_ _ | refine blk_drew ?_ | refine blk_alloc ?_ _)); exact h) : g ≠ g' := by rw [hg]; exact Nat.ne_of_lt (blk_lt (h x))
theorem zm9 {W w : World} {g g' : Nat} {o : Obj} (x : W.heap[g]? = some o) (hg : g' = w.heap.size) (h : W.heap[g]? = some o → w.heap[g]? = some o := by intro h; (with_reducible repeat (first | refine blk_drewN ?_ _ | refine blk_drew ?_ | refine blk_alloc ?_ _)); exact h) : g' ≠ g := by rw [hg]; exact Nat.ne_of_gt (blk_lt (h x))
theorem zP9 {p q : Prop} (x : q) (h : q → p := by intro h; (with_reducible repeat (first | refine blk_drewN ?_ _ | refine blk_drew ?_ | refine blk_alloc ?_ _)); exact h) : p := h x
theorem zE9 {p : Prop} (h : p := by first | rfl | (simp [errW_none, errW_some] <;> rfl) | (simp [*, errW_none, errW_some] <;> rfl)) : p := h
theorem zB9_0 {p : Prop} (h : p := by repeat (first | (with_reducible first | exact HI0.out | apply IsS90.alloc | apply IsS90.drewN | apply IsS90.drew | apply IsS90.set_1 | apply IsS90.set_2) | exact HI0.out)) : p := h
theorem zB9_1 {p : Prop} (h : p := by repeat (first | (with_reducible first | exact HB.out | apply below_alloc | apply pw_below_drewN | apply below_drew1 | refine below_set ?_ (IsS90.ge HI0.out)) | exact HB.out)) : p := h
theorem zB9_2 {p : Prop} (h : p := by repeat (first | (with_reducible first | exact HK.out | apply KeepBut.set_ | apply keep_drewN | apply keep_drew | apply keep_alloc) | exact HK.out)) : p := h
theorem zB9_3 {p : Prop} (h : p := by repeat (first | (with_reducible first | exact HI0.out | apply IsS90.alloc | apply IsS90.drewN | apply IsS90.drew | apply IsS90.set_1 | apply IsS90.set_2 | refine IsS90.far ?_ NB0_447.out _) | exact HI0.out)) : p := h
theorem zB9_4 {p : Prop} (h : p := by repeat (first | (with_reducible first | exact HK.out | apply KeepBut.set_ | apply keep_drewN | apply keep_drew | apply keep_alloc | refine keep_far ?_ GW447.out _) | exact HK.out)) : p := h
theorem zB9_5 {p : Prop} (h : p := by repeat (first | (with_reducible first | exact HB.out | apply below_alloc | apply pw_below_drewN | apply below_drew1 | refine below_set ?_ (IsS90.ge HI0.out) | refine below_set ?_ GE447.out) | exact HB.out)) : p := h
theorem zB9_6 {p : Prop} (h : p := by repeat (first | (with_reducible first | exact HI0.out | apply IsS90.alloc | apply IsS90.drewN | apply IsS90.drew | apply IsS90.set_1 | apply IsS90.set_2 | refine IsS90.far ?_ NB0_475.out _) | exact HI0.out)) : p := h
theorem zB9_7 {p : Prop} (h : p := by repeat (first | (with_reducible first | exact HB.out | apply below_alloc | apply pw_below_drewN | apply below_drew1 | refine below_set ?_ (IsS90.ge HI0.out) | refine below_set ?_ GE475.out) | exact HB.out)) : p := h
theorem zB9_8 {p : Prop} (h : p := by repeat (first | (with_reducible first | exact HK.out | apply KeepBut.set_ | apply keep_drewN | apply keep_drew | apply keep_alloc | refine keep_far ?_ GW475.out _) | exact HK.out)) : p := h
theorem zB9_9 {p : Prop} (h : p := by repeat (first | (with_reducible first | exact HI0.out | apply IsS90.alloc | apply IsS90.drewN | apply IsS90.drew | apply IsS90.set_1 | apply IsS90.set_2 | refine IsS90.far ?_ NB0_475.out _ | refine IsS90.far ?_ NB0_482.out _) | exact HI0.out)) : p := h
theorem zB9_10 {p : Prop} (h : p := by repeat (first | (with_reducible first | exact HB.out | apply below_alloc | apply pw_below_drewN | apply below_drew1 | refine below_set ?_ (IsS90.ge HI0.out) | refine below_set ?_ GE475.out | refine below_set ?_ GE482.out) | exact HB.out)) : p := h
theorem zB9_11 {p : Prop} (h : p := by repeat (first | (with_reducible first | exact HK.out | apply KeepBut.set_ | apply keep_drewN | apply keep_drew | apply keep_alloc | refine keep_far ?_ GW475.out _ | refine keep_far ?_ GW482.out _) | exact HK.out)) : p := h
theorem zB9_12 {p : Prop} (h : p := by repeat (first | (with_reducible first | exact HB.out | apply below_alloc | apply pw_below_drewN | apply below_drew1) | exact HB.out)) : p := h
theorem zB9_13 {p : Prop} (h : p := by repeat (first | (with_reducible first | exact HBW.out | apply below_alloc | apply pw_below_drewN | apply below_drew1) | exact HBW.out)) : p := h
theorem zB9_14 {p : Prop} (h : p := by repeat (first | (with_reducible first | exact HB.out | apply below_alloc | apply pw_below_drewN | apply below_drew1 | refine below_set ?_ GE547.out) | exact HB.out)) : p := h
theorem zB9_15 {p : Prop} (h : p := by repeat (first | (with_reducible first | exact HBW.out | apply below_alloc | apply pw_below_drewN | apply below_drew1 | refine below_set ?_ GW547.out) | exact HBW.out)) : p := h
theorem zB9_16 {p : Prop} (h : p := by repeat (first | (with_reducible first | exact HB.out | apply below_alloc | apply pw_below_drewN | apply below_drew1 | refine below_set ?_ GE548.out) | exact HB.out)) : p := h
theorem zB9_17 {p : Prop} (h : p := by repeat (first | (with_reducible first | exact HBW.out | apply below_alloc | apply pw_below_drewN | apply below_drew1 | refine below_set ?_ GW548.out) | exact HBW.out)) : p := h
theorem zB9_18 {p : Prop} (h : p := by repeat (first | (with_reducible first | exact HI552.out | apply IsS90.alloc | apply IsS90.drewN | apply IsS90.drew | apply IsS90.set_1 | apply IsS90.set_2) | exact HI552.out)) : p := h
theorem zB9_19 {p : Prop} (h : p := by repeat (first | (with_reducible first | exact HB.out | apply below_alloc | apply pw_below_drewN | apply below_drew1 | refine below_set ?_ (IsS90.ge HI552.out)) | exact HB.out)) : p := h

/-! ### spec_l18DrawRun: function 59 -/
mutual
def spec_l18DrawRun.l0 : Nat → Int → List Int → List (S49) → Int → List Int → Int → Int → Option (List Int × (List (S49)) × List Int × Int × Int)
 | 0, _, _, _, _, _, _, _ => none
 | k + 1, x1, x7, x8, x9, x1000, x1001, x1002 => (spec_l1Below.f x1000 x1001 x1002 3).bind fun bt437 => (if x9 < (wrap64 (1 + bt437.1)) then ((spec_l9DrawHart.f k x1000 bt437.2.1 bt437.2.2).bind fun bt440 => ((spec_HartOk.f k bt440.1 bt440.2.1 bt440.2.2.1).bind fun t448 => (if t448 = true then (if x8.length < 3518437208883 then (spec_l18DrawRun.l0 k x1 x7 (x8 ++ [(⟨bt440.1, bt440.2.1, bt440.2.2.1⟩ : S49)]) (wrap64 (x9 + 1)) x1000 bt440.2.2.2.1 bt440.2.2.2.2) else (none)) else ((spec_l1Below.f x1000 bt440.2.2.2.1 bt440.2.2.2.2 20).bind fun bt452 => ((spec_HartNew.f bt452.1).bind fun bt455 => (if x8.length < 3518437208883 then (spec_l18DrawRun.l0 k x1 x7 (x8 ++ [(⟨bt455.1, bt455.2.1, bt455.2.2⟩ : S49)]) (wrap64 (x9 + 1)) x1000 bt452.2.1 bt452.2.2) else (none))))))) else (spec_l18DrawRun.l1 k x1 x7 x8 (([] : List Int)) 0 x1000 bt437.2.1 bt437.2.2))
def spec_l18DrawRun.l1 : Nat → Int → List Int → List (S49) → List Int → Int → List Int → Int → Int → Option (List Int × (List (S49)) × List Int × Int × Int)
 | 0, _, _, _, _, _, _, _, _ => none
 | k + 1, x1, x7, x8, x11, x12, x1000, x1001, x1002 => (spec_l1Below.f x1000 x1001 x1002 x1).bind fun bt466 => (if x12 < bt466.1 then ((spec_l1Below.f x1000 bt466.2.1 bt466.2.2 (x8.length : Int)).bind fun bt469 => (if x11.length < 17592186044416 then (spec_l18DrawRun.l1 k x1 x7 x8 (x11 ++ [bt469.1]) (wrap64 (x12 + 1)) x1000 bt469.2.1 bt469.2.2) else (none))) else (some (x7, x8, x11, bt466.2.1, bt466.2.2)))
end
def spec_l18DrawRun.f (k : Nat) (s0_0 : List Int) (s0_1 : Int) (s0_2 : Int) (a1 : Int) : Option (List Int × (List (S49)) × List Int × Int × Int) := (spec_l9DrawMem.f k s0_0 s0_1 s0_2).bind fun bt429 => (spec_l18DrawRun.l0 k a1 bt429.1 (([] : List (S49))) 0 s0_0 bt429.2.1 bt429.2.2)
theorem spec_l18DrawRun.mono_l : ∀ k, (∀ y0 y1 y2 y3 y4 y5 y6, LeO (spec_l18DrawRun.l0 k y0 y1 y2 y3 y4 y5 y6) (spec_l18DrawRun.l0 (k + 1) y0 y1 y2 y3 y4 y5 y6)) ∧ (∀ y0 y1 y2 y3 y4 y5 y6 y7, LeO (spec_l18DrawRun.l1 k y0 y1 y2 y3 y4 y5 y6 y7) (spec_l18DrawRun.l1 (k + 1) y0 y1 y2 y3 y4 y5 y6 y7))
 | 0 => ⟨fun _ _ _ _ _ _ _ r h => by simp [spec_l18DrawRun.l0] at h, fun _ _ _ _ _ _ _ _ r h => by simp [spec_l18DrawRun.l1] at h⟩
 | k + 1 => by
  obtain ⟨ih0, ih1⟩ := spec_l18DrawRun.mono_l k
  refine ⟨?_, ?_⟩
  ·intro y0 y1 y2 y3 y4 y5 y6
   unfold spec_l18DrawRun.l0
   repeat' first
   | (with_reducible exact ih0 _ _ _ _ _ _ _)
   | (with_reducible exact ih1 _ _ _ _ _ _ _ _)
   | (with_reducible exact spec_HartOk.mono _ _ _ _)
   | (with_reducible exact spec_l9DrawHart.mono _ _ _ _)
   | (with_reducible exact spec_l9DrawMem.mono _ _ _ _)
   | (with_reducible exact LeO.refl _)
   | (with_reducible exact LeO.none _)
   | (with_reducible refine LeO.ite ?_ ?_)
   | (with_reducible refine LeO.bind ?_ (fun _ => ?_))
   | exact ih0 _ _ _ _ _ _ _
   | exact ih1 _ _ _ _ _ _ _ _
   | exact spec_HartOk.mono _ _ _ _
   | exact spec_l9DrawHart.mono _ _ _ _
   | exact spec_l9DrawMem.mono _ _ _ _
   | exact LeO.none _
   | refine LeO.ite ?_ ?_
   | refine LeO.bind ?_ (fun _ => ?_)
  ·intro y0 y1 y2 y3 y4 y5 y6 y7
   unfold spec_l18DrawRun.l1
   repeat' first
   | (with_reducible exact ih0 _ _ _ _ _ _ _)
   | (with_reducible exact ih1 _ _ _ _ _ _ _ _)
   | (with_reducible exact spec_HartOk.mono _ _ _ _)
   | (with_reducible exact spec_l9DrawHart.mono _ _ _ _)
   | (with_reducible exact spec_l9DrawMem.mono _ _ _ _)
   | (with_reducible exact LeO.refl _)
   | (with_reducible exact LeO.none _)
   | (with_reducible refine LeO.ite ?_ ?_)
   | (with_reducible refine LeO.bind ?_ (fun _ => ?_))
   | exact ih0 _ _ _ _ _ _ _
   | exact ih1 _ _ _ _ _ _ _ _
   | exact spec_HartOk.mono _ _ _ _
   | exact spec_l9DrawHart.mono _ _ _ _
   | exact spec_l9DrawMem.mono _ _ _ _
   | exact LeO.none _
   | refine LeO.ite ?_ ?_
   | refine LeO.bind ?_ (fun _ => ?_)
theorem spec_l18DrawRun.mono : ∀ a0 a1 a2 a3 k, LeO (spec_l18DrawRun.f k a0 a1 a2 a3) (spec_l18DrawRun.f (k + 1) a0 a1 a2 a3) := by
 intro a0 a1 a2 a3 k
 obtain ⟨ih0, ih1⟩ := spec_l18DrawRun.mono_l k
 unfold spec_l18DrawRun.f
 repeat' first
   | (with_reducible exact ih0 _ _ _ _ _ _ _)
   | (with_reducible exact ih1 _ _ _ _ _ _ _ _)
   | (with_reducible exact spec_HartOk.mono _ _ _ _)
   | (with_reducible exact spec_l9DrawHart.mono _ _ _ _)
   | (with_reducible exact spec_l9DrawMem.mono _ _ _ _)
   | (with_reducible exact LeO.refl _)
   | (with_reducible exact LeO.none _)
   | (with_reducible refine LeO.ite ?_ ?_)
   | (with_reducible refine LeO.bind ?_ (fun _ => ?_))
   | exact ih0 _ _ _ _ _ _ _
   | exact ih1 _ _ _ _ _ _ _ _
   | exact spec_HartOk.mono _ _ _ _
   | exact spec_l9DrawHart.mono _ _ _ _
   | exact spec_l9DrawMem.mono _ _ _ _
   | exact LeO.none _
   | refine LeO.ite ?_ ?_
   | refine LeO.bind ?_ (fun _ => ?_)
theorem l1Words_len {n : Int} : ∀ (k : Nat) (r : List Int) (x : Int), spec_l1Words.l0 k r n x = some true → (r.length : Int) = n
 | 0, r, x, h => by simp [spec_l1Words.l0] at h
 | k + 1, r, x, h => by
  unfold spec_l1Words.l0 at h
  by_cases c : x < (r.length : Int)
  rotate_left
  ·rw [if_neg c] at h; simpa using h
  rw [if_pos c] at h
  by_cases c2 : 0 ≤ x
  rotate_left
  ·rw [if_neg c2] at h; cases h
  rw [if_pos c2] at h
  obtain ⟨b, hb, h⟩ := Option.bind_eq_some_iff.1 h
  cases b with
  | true => exact l1Words_len k r _ (by simpa using h)
  | false => simp at h
theorem hartOk_len {k : Nat} {r : List Int} {p s : Int} (h : spec_HartOk.f k r p s = some true) : r.length = 4 := by
 unfold spec_HartOk.f at h
 obtain ⟨b, hb, h⟩ := Option.bind_eq_some_iff.1 h
 cases b with
 | false => simp at h
 | true =>
  have := l1Words_len k r 0 (show spec_l1Words.l0 k r 4 0 = some true from hb)
  omega
set_option maxHeartbeats 8000000 in
set_option maxRecDepth 100000 in
theorem spec_l18DrawRun.calls (k : Nat) (g : Nat) (s0_0 : List Int) (s0_1 : Int) (s0_2 : Int) (a1 : Int) (r1 : List Int) (r2 : List (S49)) (r3 : List Int) (r4 : Int) (r5 : Int) (w0 w : World) (hI : IsS90 w0 w g s0_0 s0_1 s0_2) (hB : Below w0.heap.size w0 w) (h : spec_l18DrawRun.f k s0_0 s0_1 s0_2 a1 = some (r1, r2, r3, r4, r5)) :
  Calls Try.prog 59 #[.pointer (some ⟨g, 0, none⟩), .int .i64 a1] w fun e w' => ∃ v0_ v1_ v2_ : Value, e = .returned (.tuple #[v0_, v1_, v2_]) ∧ Kd.R (Kd.int .i64) 3 w' w.heap.size (fun k_ => some k_ ≠ (v2_ : Value).ownBlock) v0_ r1 ∧ Kd.S k49 49 w' w.heap.size (fun k_ => some k_ ≠ (v0_ : Value).ownBlock ∧ some k_ ≠ (v2_ : Value).ownBlock) v1_ r2 ∧ Kd.R (Kd.int .i64) 3 w' w.heap.size (fun k_ => some k_ ≠ (v0_ : Value).ownBlock) v2_ r3 ∧ IsS90 w0 w' g s0_0 r4 r5 ∧ Below w0.heap.size w0 w' ∧ KeepBut w w' g none := by
 have hu49 := Try.underlying49
 have HI0 := Aside0.mk hI
 have HK := Aside0.mk (KeepBut.refl w g none)
 have HL := Aside0.mk hB.size
 clear hI
 have HW0 := Aside0.mk hB.size
 have HB := Aside0.mk hB
 clear hB
 have H : ((spec_l9DrawMem.f k s0_0 s0_1 s0_2).bind fun bt429 => (spec_l18DrawRun.l0 k a1 bt429.1 (([] : List (S49))) 0 s0_0 bt429.2.1 bt429.2.2)) = some (r1, r2, r3, r4, r5) := h
 clear h
 replace H := Option.bind_eq_some_iff.mp H
 obtain ⟨⟨t429, t432, t433⟩, A30, H⟩ := H
 replace H : (spec_l18DrawRun.l0 k a1 t429 (([] : List (S49))) 0 s0_0 t432 t433) = some (r1, r2, r3, r4, r5) := H
 have A3 := Aside0.mk A30
 clear A30
 obtain ⟨y434, hy434⟩ : ∃ y_ : List (S49), y_ = (([] : List (S49))) := ⟨_, rfl⟩
 replace H : (spec_l18DrawRun.l0 k a1 t429 y434 0 s0_0 t432 t433) = some (r1, r2, r3, r4, r5) := by first | (rw [hy434]; with_reducible exact H) | (have H2_ := (Option.bind_some _ _).symm.trans H; rw [hy434]; with_reducible exact H2_) | (have H2_ := (Option.bind_some _ _).symm.trans H; with_reducible exact H2_) | with_reducible exact H | (rw [hy434]; exact H) | exact H
 have Ny434 := Aside0.mk hy434
 clear hy434
 have H' := Aside0.mk H
 clear H
 go_enter Try.func59, Try.ntmps59
 go_wp2_with (first | ((with_reducible refine gate_callee (f := 81) rfl ?_); refine goesL_ (some 14) rfl rfl Try.func81 (by kernel_rfl) rfl #[.pointer (some ⟨g, 0, none⟩)] rfl zT9 ?_; (with_reducible refine (spec_l9DrawMem.calls k g s0_0 s0_1 s0_2 t429 t432 t433 w0 _ ?side1 ?side2 A3.out).mono ?_); (case side1 => exact zB9_0); (case side2 => exact zB9_1); rintro e w4 ⟨v430, rfl, ho0, hi, hb, hk⟩; refine ⟨_, rfl, ?_⟩; have n0_ := Aside0.mk (Kd.R_lower ho0 (keep_size (w := w) (g := g) (row := none) (zB9_2))); have n1_ := Aside0.mk (KeepBut.trans (zB9_2) hk (.inl rfl)); have n2_ := Aside0.mk (hb); have n3_ := Aside0.mk (hi); clear HK; clear HB; clear HI0; have HO431 := n0_; have HK := n1_; have HB := n2_; have HI0 := n3_; clear n0_ n1_ n2_ n3_; (try clear hb); (try clear hb2); (try clear hk); (try clear hi); (try clear ho0)) | ((with_reducible refine gate_dst (N := 15) rfl ?_); refine Kd.S_lit k49 _ 49 ?hg (N := 15) ?hd (xs := ([] : List (S49))) (inner := []) (ok := fun _ => True) (okp := fun _ => True) ?hr ?hp (fun _ hk => hk) trivial (Below.refl _ _) (Nat.le_refl _) (by simp) ?_; (case hd => rfl); (case hg => rfl); (case hr => first | (go_simp; done) | (go_simp; rfl)); (case hp => exact (Reps.none _ _)); intro v435 w5 ho6 hb hg_ hnew_; clear hg_ hnew_; (first | rw [← Ny434.out] at ho6 | (simp only [Int.reduceToNat] at ho6; rw [← Ny434.out] at ho6)); have n0_ := Aside0.mk (Kd.R_below (zR9 HO431.out) hb); have n1_ := Aside0.mk (Kd.S_lower (Kd.S_new' ho6 (Kd.R_lt (zR9 HO431.out))) (keep_size (w := w) (g := g) (row := none) (zB9_2))); have n2_ := Aside0.mk (IsS90.below (zB9_0) hb); have n3_ := Aside0.mk (KeepBut.trans (zB9_2) (KeepBut.of_below hb g none) (.inl rfl)); have n4_ := Aside0.mk (below_step (zB9_1) hb); clear HO431; clear HI0; clear HK; clear HB; have HO431 := n0_; have HO436 := n1_; have HI0 := n2_; have HK := n3_; have HB := n4_; clear n0_ n1_ n2_ n3_ n4_; clear hb ho6))
 go_loopg [8, 9] k (fun kq v8 v9 w' => ∃ (x8_1 : List (S49)) (x9_1 : Int) (x1001_1 : Int) (x1002_1 : Int), v9 = .int .i64 x9_1 ∧ Aside0 (spec_l18DrawRun.l0 kq a1 t429 x8_1 x9_1 s0_0 x1001_1 x1002_1 = some (r1, r2, r3, r4, r5)) ∧ Aside0 (kq ≤ k) ∧ Aside0 (Kd.R (Kd.int .i64) 3 w' w.heap.size (fun _ => True) v430 t429) ∧ Aside0 (Kd.S k49 49 w' w.heap.size (fun k_ => some k_ ≠ (v430 : Value).ownBlock) v8 x8_1) ∧ Aside0 (IsS90 w0 w' g s0_0 x1001_1 x1002_1) ∧ Aside0 (KeepBut w w' g none) ∧ Aside0 (Below w0.heap.size w0 w'))
 case atStart => exact ⟨(y434), (0), (t432), (t433), (by first | rfl | (simp; done) | (simp [*]; done)), H', ⟨Nat.le_refl _⟩, ⟨zR9 HO431.out⟩, ⟨by (with_reducible repeat (first | apply Kd.S_alloc | apply Kd.S_drewN | apply Kd.S_drew)); exact Kd.S_mono HO436.out (fun _ hk => hk.2)⟩, ⟨zB9_0⟩, ⟨zB9_2⟩, ⟨zB9_1⟩⟩
 case round =>
  clear H'
  try clear p2
  try clear c5
  obtain ⟨x8_1, x9_1, x1001_1, x1002_1, rfl, HA, HK1, HO_7, HO_8, HI0, HK, HB⟩ := hrel
  cases gk with
  | zero => exact absurd HA.out (by simp [spec_l18DrawRun.l0])
  | succ k1 =>
   have H := HA.out
   clear HA
   simp only [spec_l18DrawRun.l0] at H
   replace H := Option.bind_eq_some_iff.mp H
   obtain ⟨⟨t437, t438, t439⟩, A70, H⟩ := H
   replace H : (if x9_1 < (wrap64 (1 + t437)) then ((spec_l9DrawHart.f k1 s0_0 t438 t439).bind fun bt440 => ((spec_HartOk.f k1 bt440.1 bt440.2.1 bt440.2.2.1).bind fun t448 => (if t448 = true then (if x8_1.length < 3518437208883 then (spec_l18DrawRun.l0 k1 a1 t429 (x8_1 ++ [(⟨bt440.1, bt440.2.1, bt440.2.2.1⟩ : S49)]) (wrap64 (x9_1 + 1)) s0_0 bt440.2.2.2.1 bt440.2.2.2.2) else (none)) else ((spec_l1Below.f s0_0 bt440.2.2.2.1 bt440.2.2.2.2 20).bind fun bt452 => ((spec_HartNew.f bt452.1).bind fun bt455 => (if x8_1.length < 3518437208883 then (spec_l18DrawRun.l0 k1 a1 t429 (x8_1 ++ [(⟨bt455.1, bt455.2.1, bt455.2.2⟩ : S49)]) (wrap64 (x9_1 + 1)) s0_0 bt452.2.1 bt452.2.2) else (none))))))) else (spec_l18DrawRun.l1 k1 a1 t429 x8_1 (([] : List Int)) 0 s0_0 t438 t439)) = some (r1, r2, r3, r4, r5) := H
   have A7 := Aside0.mk A70
   clear A70
   by_cases c8 : x9_1 < (wrap64 (1 + t437))
   rotate_left
   ·rw [if_neg c8] at H
    have c8b0 : decide (x9_1 < (wrap64 (1 + t437))) = false := decide_eq_false c8
    clear c8
    obtain ⟨y463, hy463⟩ : ∃ y_ : List Int, y_ = (([] : List Int)) := ⟨_, rfl⟩
    replace H : (spec_l18DrawRun.l1 k1 a1 t429 x8_1 y463 0 s0_0 t438 t439) = some (r1, r2, r3, r4, r5) := by first | (rw [hy463]; with_reducible exact H) | (have H2_ := (Option.bind_some _ _).symm.trans H; rw [hy463]; with_reducible exact H2_) | (have H2_ := (Option.bind_some _ _).symm.trans H; with_reducible exact H2_) | with_reducible exact H | (rw [hy463]; exact H) | exact H
    have Ny463 := Aside0.mk hy463
    clear hy463
    have H' := Aside0.mk H
    clear H
    go_wp2_with (first | ((with_reducible refine gate_callee (f := 42) rfl ?_); refine goesL_ (some 18) rfl rfl Try.func42 (by kernel_rfl) rfl #[.pointer (some ⟨g, 0, none⟩), .int .i64 3] rfl zT9 ?_; (with_reducible refine (spec_l1Below.calls g s0_0 x1001_1 x1002_1 3 t437 t438 t439 w0 _ ?side1 ?side2 A7.out).mono ?_); (case side1 => exact zB9_0); (case side2 => exact zB9_1); rintro e w39 ⟨rfl, hi, hb, hk⟩; refine ⟨_, rfl, ?_⟩; have n0_ := Aside0.mk (Kd.R_mono (Kd.R_keep (IsS90.apart (show IsS90 w0 _ g s0_0 x1001_1 x1002_1 from zB9_0) (zR9 HO_7.out) (by decide)) hk (fun _ h => h.2)) (fun _ h => h.1)); have n1_ := Aside0.mk (Kd.S_mono (Kd.S_keep (IsS90.apartS (show IsS90 w0 _ g s0_0 x1001_1 x1002_1 from zB9_0) (zS9 HO_8.out) (by decide)) hk (fun _ h => h.2)) (fun _ h => h.1)); have n2_ := Aside0.mk (KeepBut.trans (zB9_2) hk (.inl rfl)); have n3_ := Aside0.mk (hb); have n4_ := Aside0.mk (hi); clear HO_7; clear HO_8; clear HK; clear HB; clear HI0; have HO_7 := n0_; have HO_8 := n1_; have HK := n2_; have HB := n3_; have HI0 := n4_; clear n0_ n1_ n2_ n3_ n4_; (try clear hb); (try clear hb2); (try clear hk); (try clear hi)) | ((with_reducible refine gate_dst (N := 35) rfl ?_); refine Kd.R_lit (Kd.int .i64) _ 3 ?hg (N := 35) ?hd (xs := ([] : List Int)) (inner := []) (ok := fun _ => True) (okp := fun _ => True) ?hr ?hp (fun _ hk => hk) trivial (Below.refl _ _) (Nat.le_refl _) (by simp) ?_; (case hd => rfl); (case hg => rfl); (case hr => first | (go_simp; done) | (go_simp; rfl)); (case hp => exact (Reps.none _ _)); intro v464 w40 ho41 hb hg_ hnew_; clear hg_ hnew_; (first | rw [← Ny463.out] at ho41 | (simp only [Int.reduceToNat] at ho41; rw [← Ny463.out] at ho41)); have n0_ := Aside0.mk (Kd.R_elder' (zR9 HO_7.out) (Kd.R_base ho41) hb); have n1_ := Aside0.mk (Kd.S_elder' (zS9 HO_8.out) (Kd.R_base ho41) hb); have n2_ := Aside0.mk (Kd.R_lower (Kd.R_new' ho41 (Kd.R_lt (zR9 HO_7.out))) (keep_size (w := w) (g := g) (row := none) (zB9_2))); have n3_ := Aside0.mk (IsS90.below (zB9_0) hb); have n4_ := Aside0.mk (KeepBut.trans (zB9_2) (KeepBut.of_below hb g none) (.inl rfl)); have n5_ := Aside0.mk (below_step (zB9_1) hb); clear HO_7; clear HO_8; clear HI0; clear HK; clear HB; have HO_7 := n0_; have HO_8 := n1_; have HO465 := n2_; have HI0 := n3_; have HK := n4_; have HB := n5_; clear n0_ n1_ n2_ n3_ n4_ n5_; clear hb ho41))
    go_loopg [11, 12] k1 (fun kq v11 v12 w' => ∃ (x11_2 : List Int) (x12_2 : Int) (x1001_2 : Int) (x1002_2 : Int), v12 = .int .i64 x12_2 ∧ Aside0 (spec_l18DrawRun.l1 kq a1 t429 x8_1 x11_2 x12_2 s0_0 x1001_2 x1002_2 = some (r1, r2, r3, r4, r5)) ∧ Aside0 (kq ≤ k1) ∧ Aside0 (Kd.R (Kd.int .i64) 3 w' w.heap.size (fun k_ => some k_ ≠ (v11 : Value).ownBlock) v430 t429) ∧ Aside0 (Kd.S k49 49 w' w.heap.size (fun k_ => some k_ ≠ (v430 : Value).ownBlock ∧ some k_ ≠ (v11 : Value).ownBlock) u8 x8_1) ∧ Aside0 (Kd.R (Kd.int .i64) 3 w' w.heap.size (fun k_ => some k_ ≠ (v430 : Value).ownBlock) v11 x11_2) ∧ Aside0 (IsS90 w0 w' g s0_0 x1001_2 x1002_2) ∧ Aside0 (KeepBut w w' g none) ∧ Aside0 (Below w0.heap.size w0 w'))
    case atStart => exact ⟨(y463), (0), (t438), (t439), (by first | rfl | (simp; done) | (simp [*]; done)), H', ⟨Nat.le_refl _⟩, ⟨by (with_reducible repeat (first | apply Kd.R_alloc | apply Kd.R_drewN | apply Kd.R_drew)); exact Kd.R_mono HO_7.out (fun _ hk => hk.2)⟩, ⟨zS9 HO_8.out⟩, ⟨by (with_reducible repeat (first | apply Kd.R_alloc | apply Kd.R_drewN | apply Kd.R_drew)); exact Kd.R_mono HO465.out (fun _ hk => hk.2)⟩, ⟨zB9_0⟩, ⟨zB9_2⟩, ⟨zB9_1⟩⟩
    case round =>
     clear H'
     try clear c1
     try clear c2
     try clear p2
     try clear c4
     try clear c5
     try clear p6
     try clear c7
     try clear c8
     try clear c8b0
     try clear c11
     try clear c12
     try clear c17
     try clear c24
     try clear c29
     try clear hcz18_0
     try clear hcz18_1
     try clear hcz18_2
     try clear hcz20_0
     try clear hcz20_1
     try clear hcz20_2
     try clear hcz30_0
     try clear hcz30_1
     try clear hcz30_2
     try clear hcz35_0
     try clear hcz35_1
     try clear hcz35_2
     try clear hcz37_0
     try clear hcz37_1
     try clear hcz37_2
     try clear hfz18_0
     try clear hfz18_1
     try clear hfz18_2
     try clear hfz20_0
     try clear hfz20_1
     try clear hfz20_2
     try clear hfz30_0
     try clear hfz30_1
     try clear hfz30_2
     try clear hfz35_0
     try clear hfz35_1
     try clear hfz35_2
     try clear hfz37_0
     try clear hfz37_1
     try clear hfz37_2
     try clear p2
     obtain ⟨x11_2, x12_2, x1001_2, x1002_2, rfl, HA, HK2, HO_7, HO_8, HO_11, HI0, HK, HB⟩ := hrel
     cases gk with
     | zero => exact absurd HA.out (by simp [spec_l18DrawRun.l1])
     | succ k2 =>
      have H := HA.out
      clear HA
      simp only [spec_l18DrawRun.l1] at H
      replace H := Option.bind_eq_some_iff.mp H
      obtain ⟨⟨t466, t467, t468⟩, A420, H⟩ := H
      replace H : (if x12_2 < t466 then ((spec_l1Below.f s0_0 t467 t468 (x8_1.length : Int)).bind fun bt469 => (if x11_2.length < 17592186044416 then (spec_l18DrawRun.l1 k2 a1 t429 x8_1 (x11_2 ++ [bt469.1]) (wrap64 (x12_2 + 1)) s0_0 bt469.2.1 bt469.2.2) else (none))) else (some (t429, x8_1, x11_2, t467, t468))) = some (r1, r2, r3, r4, r5) := H
      have A42 := Aside0.mk A420
      clear A420
      by_cases c43 : x12_2 < t466
      rotate_left
      ·rw [if_neg c43] at H
       have c43b0 : decide (x12_2 < t466) = false := decide_eq_false c43
       clear c43
       simp only [Option.some.injEq, Prod.mk.injEq] at H
       obtain ⟨rfl, rfl, rfl, rfl, rfl⟩ := H
       go_wp2_with (first | ((with_reducible refine gate_callee (f := 42) rfl ?_); refine goesL_ (some 39) rfl rfl Try.func42 (by kernel_rfl) rfl #[.pointer (some ⟨g, 0, none⟩), .int .i64 a1] rfl zT9 ?_; (with_reducible refine (spec_l1Below.calls g s0_0 x1001_2 x1002_2 a1 t466 t467 t468 w0 _ ?side1 ?side2 A42.out).mono ?_); (case side1 => exact zB9_0); (case side2 => exact zB9_1); rintro e w50 ⟨rfl, hi, hb, hk⟩; refine ⟨_, rfl, ?_⟩; have n0_ := Aside0.mk (Kd.R_mono (Kd.R_keep (IsS90.apart (show IsS90 w0 _ g s0_0 x1001_2 x1002_2 from zB9_0) (zR9 HO_7.out) (by decide)) hk (fun _ h => h.2)) (fun _ h => h.1)); have n1_ := Aside0.mk (Kd.S_mono (Kd.S_keep (IsS90.apartS (show IsS90 w0 _ g s0_0 x1001_2 x1002_2 from zB9_0) (zS9 HO_8.out) (by decide)) hk (fun _ h => h.2)) (fun _ h => h.1)); have n2_ := Aside0.mk (Kd.R_mono (Kd.R_keep (IsS90.apart (show IsS90 w0 _ g s0_0 x1001_2 x1002_2 from zB9_0) (zR9 HO_11.out) (by decide)) hk (fun _ h => h.2)) (fun _ h => h.1)); have n3_ := Aside0.mk (KeepBut.trans (zB9_2) hk (.inl rfl)); have n4_ := Aside0.mk (hb); have n5_ := Aside0.mk (hi); clear HO_7; clear HO_8; clear HO_11; clear HK; clear HB; clear HI0; have HO_7 := n0_; have HO_8 := n1_; have HO_11 := n2_; have HK := n3_; have HB := n4_; have HI0 := n5_; clear n0_ n1_ n2_ n3_ n4_ n5_; (try clear hb); (try clear hb2); (try clear hk); (try clear hi)))
       go_ret3
       exact ⟨_, _, _, zE9, zR9 HO_7.out, zS9 HO_8.out, zR9 HO_11.out, zB9_0, zB9_1, zB9_2⟩
      rw [if_pos c43] at H
      have c43b0 : decide (x12_2 < t466) = true := decide_eq_true c43
      clear c43
      replace H := Option.bind_eq_some_iff.mp H
      obtain ⟨⟨t469, t470, t471⟩, A440, H⟩ := H
      replace H : (if x11_2.length < 17592186044416 then (spec_l18DrawRun.l1 k2 a1 t429 x8_1 (x11_2 ++ [t469]) (wrap64 (x12_2 + 1)) s0_0 t470 t471) else (none)) = some (r1, r2, r3, r4, r5) := H
      have A44 := Aside0.mk A440
      clear A440
      by_cases c45 : x11_2.length < 17592186044416
      rotate_left
      ·rw [if_neg c45] at H
       exact absurd H (by simp)
      rw [if_pos c45] at H
      have LMc45 := Aside0.mk c45
      clear c45
      obtain ⟨y472, hy472⟩ : ∃ y_ : List Int, y_ = (x11_2 ++ [t469]) := ⟨_, rfl⟩
      replace H : (spec_l18DrawRun.l1 k2 a1 t429 x8_1 y472 (wrap64 (x12_2 + 1)) s0_0 t470 t471) = some (r1, r2, r3, r4, r5) := by first | (rw [hy472]; with_reducible exact H) | (have H2_ := (Option.bind_some _ _).symm.trans H; rw [hy472]; with_reducible exact H2_) | (have H2_ := (Option.bind_some _ _).symm.trans H; with_reducible exact H2_) | with_reducible exact H | (rw [hy472]; exact H) | exact H
      have Ny472 := Aside0.mk hy472
      clear hy472
      have H' := Aside0.mk H
      clear H
      go_wp2_with (first | ((with_reducible refine gate_callee (f := 42) rfl ?_); refine goesL_ (some 39) rfl rfl Try.func42 (by kernel_rfl) rfl #[.pointer (some ⟨g, 0, none⟩), .int .i64 a1] rfl zT9 ?_; (with_reducible refine (spec_l1Below.calls g s0_0 x1001_2 x1002_2 a1 t466 t467 t468 w0 _ ?side1 ?side2 A42.out).mono ?_); (case side1 => exact zB9_0); (case side2 => exact zB9_1); rintro e w46 ⟨rfl, hi, hb, hk⟩; refine ⟨_, rfl, ?_⟩; have n0_ := Aside0.mk (Kd.R_mono (Kd.R_keep (IsS90.apart (show IsS90 w0 _ g s0_0 x1001_2 x1002_2 from zB9_0) (zR9 HO_7.out) (by decide)) hk (fun _ h => h.2)) (fun _ h => h.1)); have n1_ := Aside0.mk (Kd.S_mono (Kd.S_keep (IsS90.apartS (show IsS90 w0 _ g s0_0 x1001_2 x1002_2 from zB9_0) (zS9 HO_8.out) (by decide)) hk (fun _ h => h.2)) (fun _ h => h.1)); have n2_ := Aside0.mk (Kd.R_mono (Kd.R_keep (IsS90.apart (show IsS90 w0 _ g s0_0 x1001_2 x1002_2 from zB9_0) (zR9 HO_11.out) (by decide)) hk (fun _ h => h.2)) (fun _ h => h.1)); have n3_ := Aside0.mk (KeepBut.trans (zB9_2) hk (.inl rfl)); have n4_ := Aside0.mk (hb); have n5_ := Aside0.mk (hi); clear HO_7; clear HO_8; clear HO_11; clear HK; clear HB; clear HI0; have HO_7 := n0_; have HO_8 := n1_; have HO_11 := n2_; have HK := n3_; have HB := n4_; have HI0 := n5_; clear n0_ n1_ n2_ n3_ n4_ n5_; (try clear hb); (try clear hb2); (try clear hk); (try clear hi); obtain ⟨Ao47, co47, eo47⟩ := Kd.S_slice HO_8.out; subst eo47) | ((with_reducible refine gate_callee (f := 42) rfl ?_); refine goesL_ (some 47) rfl rfl Try.func42 (by kernel_rfl) rfl #[.pointer (some ⟨g, 0, none⟩), .int .i64 (x8_1.length : Int)] rfl zT9 ?_; (with_reducible refine (spec_l1Below.calls g s0_0 t467 t468 (x8_1.length : Int) t469 t470 t471 w0 _ ?side1 ?side2 A44.out).mono ?_); (case side1 => exact zB9_0); (case side2 => exact zB9_1); rintro e w48 ⟨rfl, hi, hb, hk⟩; refine ⟨_, rfl, ?_⟩; have n0_ := Aside0.mk (Kd.R_mono (Kd.R_keep (IsS90.apart (show IsS90 w0 _ g s0_0 t467 t468 from zB9_0) (zR9 HO_7.out) (by decide)) hk (fun _ h => h.2)) (fun _ h => h.1)); have n1_ := Aside0.mk (Kd.S_mono (Kd.S_keep (IsS90.apartS (show IsS90 w0 _ g s0_0 t467 t468 from zB9_0) (zS9 HO_8.out) (by decide)) hk (fun _ h => h.2)) (fun _ h => h.1)); have n2_ := Aside0.mk (Kd.R_mono (Kd.R_keep (IsS90.apart (show IsS90 w0 _ g s0_0 t467 t468 from zB9_0) (zR9 HO_11.out) (by decide)) hk (fun _ h => h.2)) (fun _ h => h.1)); have n3_ := Aside0.mk (KeepBut.trans (zB9_2) hk (.inl rfl)); have n4_ := Aside0.mk (hb); have n5_ := Aside0.mk (hi); clear HO_7; clear HO_8; clear HO_11; clear HK; clear HB; clear HI0; have HO_7 := n0_; have HO_8 := n1_; have HO_11 := n2_; have HK := n3_; have HB := n4_; have HI0 := n5_; clear n0_ n1_ n2_ n3_ n4_ n5_; (try clear hb); (try clear hb2); (try clear hk); (try clear hi)) | ((with_reducible refine gate_builtin (b := .append) (xs := #[.tmp 43, .tmp 48]) rfl ?_); at_builtin; refine Kd.R_append (Kd.int .i64) w.heap.size rfl (.tmp 43) (.tmp 48) 29 3 (.int .i64 0) 8 rfl Try.underlying29 info3 rfl (by decide) (by omega) u11 x11_2 t469 [.int .i64 t469] (fun k_ => some k_ ≠ (v430 : Value).ownBlock) (fun _ => False) rfl rfl ?aP (fun _ hk => hk.elim) ?aF ?aO (Below.refl _ _) ?aS ?aL ?_; (case aP => exact rfl); (case aF => exact (fun k_ hk => Kd.fresh' (Kd.R_lt (zR9 HO_7.out)) k_ hk)); (case aO => exact (zR9 HO_11.out)); (case aS => exact (keep_size (w := w) (g := g) (row := none) (zB9_2))); (case aL => have := LMc45.out; omega); intro v473 w49 ho hb hg hat; rw [← Ny472.out] at ho; have n0_ := Aside0.mk (Kd.R_after (ok := (fun _ => True)) (by (with_reducible repeat (first | apply Kd.R_alloc | apply Kd.R_drewN | apply Kd.R_drew)); exact Kd.R_mono HO_7.out (fun _ hk => ⟨trivial, hk⟩)) hg hat); have n1_ := Aside0.mk (Kd.S_after (ok := (fun k_ => some k_ ≠ (v430 : Value).ownBlock)) (zS9 HO_8.out) hg hat); have n2_ := Aside0.mk (IsS90.grown (show IsS90 w0 _ g s0_0 t470 t471 from zB9_0) hg (IsS90.own_ne HI0.out HO_11.out (by decide))); have n3_ := Aside0.mk (below_weaken (zB9_1) HL.out hb); have n4_ := Aside0.mk (KeepBut.trans (zB9_2) (KeepBut.of_grown hg g) (Kd.R_base2 HO_11.out)); have n5_ := Aside0.mk (ho); clear HO_7; clear HO_8; clear HI0; clear HB; clear HK; clear HO_11; have HO_7 := n0_; have HO_8 := n1_; have HI0 := n2_; have HB := n3_; have HK := n4_; have HO474 := n5_; clear n0_ n1_ n2_ n3_ n4_ n5_; clear ho hb hg hat))
      go_roundg k2
      case measure => have := HK1.out; have := HK2.out; omega
      case rel => exact ⟨(y472), (wrap64 (x12_2 + 1)), (t470), (t471), (by first | rfl | (simp; done) | (simp [*]; done)), H', ⟨by have := HK1.out; have := HK2.out; omega⟩, ⟨by (with_reducible repeat (first | apply Kd.R_alloc | apply Kd.R_drewN | apply Kd.R_drew)); exact Kd.R_mono HO_7.out (fun _ hk => hk.2)⟩, ⟨zS9 HO_8.out⟩, ⟨zR9 HO474.out⟩, ⟨zB9_0⟩, ⟨zB9_2⟩, ⟨zB9_1⟩⟩
   rw [if_pos c8] at H
   have c8b0 : decide (x9_1 < (wrap64 (1 + t437))) = true := decide_eq_true c8
   clear c8
   replace H := Option.bind_eq_some_iff.mp H
   obtain ⟨⟨t440, t443, t444, t445, t446⟩, A90, H⟩ := H
   replace H : ((spec_HartOk.f k1 t440 t443 t444).bind fun t448 => (if t448 = true then (if x8_1.length < 3518437208883 then (spec_l18DrawRun.l0 k1 a1 t429 (x8_1 ++ [(⟨t440, t443, t444⟩ : S49)]) (wrap64 (x9_1 + 1)) s0_0 t445 t446) else (none)) else ((spec_l1Below.f s0_0 t445 t446 20).bind fun bt452 => ((spec_HartNew.f bt452.1).bind fun bt455 => (if x8_1.length < 3518437208883 then (spec_l18DrawRun.l0 k1 a1 t429 (x8_1 ++ [(⟨bt455.1, bt455.2.1, bt455.2.2⟩ : S49)]) (wrap64 (x9_1 + 1)) s0_0 bt452.2.1 bt452.2.2) else (none)))))) = some (r1, r2, r3, r4, r5) := H
   have A9 := Aside0.mk A90
   clear A90
   replace H := Option.bind_eq_some_iff.mp H
   obtain ⟨t448, A100, H⟩ := H
   replace H : (if t448 = true then (if x8_1.length < 3518437208883 then (spec_l18DrawRun.l0 k1 a1 t429 (x8_1 ++ [(⟨t440, t443, t444⟩ : S49)]) (wrap64 (x9_1 + 1)) s0_0 t445 t446) else (none)) else ((spec_l1Below.f s0_0 t445 t446 20).bind fun bt452 => ((spec_HartNew.f bt452.1).bind fun bt455 => (if x8_1.length < 3518437208883 then (spec_l18DrawRun.l0 k1 a1 t429 (x8_1 ++ [(⟨bt455.1, bt455.2.1, bt455.2.2⟩ : S49)]) (wrap64 (x9_1 + 1)) s0_0 bt452.2.1 bt452.2.2) else (none))))) = some (r1, r2, r3, r4, r5) := H
   have A10 := Aside0.mk A100
   clear A100
   by_cases c11 : t448 = true
   ·subst c11
    have H1 : (if x8_1.length < 3518437208883 then (spec_l18DrawRun.l0 k1 a1 t429 (x8_1 ++ [(⟨t440, t443, t444⟩ : S49)]) (wrap64 (x9_1 + 1)) s0_0 t445 t446) else (none)) = some (r1, r2, r3, r4, r5) := by rw [if_pos rfl] at H; exact H
    clear H
    have H := H1
    clear H1
    by_cases c12 : x8_1.length < 3518437208883
    rotate_left
    ·rw [if_neg c12] at H
     exact absurd H (by simp)
    rw [if_pos c12] at H
    have LMc12 := Aside0.mk c12
    clear c12
    obtain ⟨y449, hy449⟩ : ∃ y_ : List (S49), y_ = (x8_1 ++ [(⟨t440, t443, t444⟩ : S49)]) := ⟨_, rfl⟩
    replace H : (spec_l18DrawRun.l0 k1 a1 t429 y449 (wrap64 (x9_1 + 1)) s0_0 t445 t446) = some (r1, r2, r3, r4, r5) := by first | (rw [hy449]; with_reducible exact H) | (have H2_ := (Option.bind_some _ _).symm.trans H; rw [hy449]; with_reducible exact H2_) | (have H2_ := (Option.bind_some _ _).symm.trans H; with_reducible exact H2_) | with_reducible exact H | (rw [hy449]; exact H) | exact H
    have Ny449 := Aside0.mk hy449
    clear hy449
    have H' := Aside0.mk H
    clear H
    go_wp2_with (first | ((with_reducible refine gate_callee (f := 42) rfl ?_); refine goesL_ (some 18) rfl rfl Try.func42 (by kernel_rfl) rfl #[.pointer (some ⟨g, 0, none⟩), .int .i64 3] rfl zT9 ?_; (with_reducible refine (spec_l1Below.calls g s0_0 x1001_1 x1002_1 3 t437 t438 t439 w0 _ ?side1 ?side2 A7.out).mono ?_); (case side1 => exact zB9_0); (case side2 => exact zB9_1); rintro e w13 ⟨rfl, hi, hb, hk⟩; refine ⟨_, rfl, ?_⟩; have n0_ := Aside0.mk (Kd.R_mono (Kd.R_keep (IsS90.apart (show IsS90 w0 _ g s0_0 x1001_1 x1002_1 from zB9_0) (zR9 HO_7.out) (by decide)) hk (fun _ h => h.2)) (fun _ h => h.1)); have n1_ := Aside0.mk (Kd.S_mono (Kd.S_keep (IsS90.apartS (show IsS90 w0 _ g s0_0 x1001_1 x1002_1 from zB9_0) (zS9 HO_8.out) (by decide)) hk (fun _ h => h.2)) (fun _ h => h.1)); have n2_ := Aside0.mk (KeepBut.trans (zB9_2) hk (.inl rfl)); have n3_ := Aside0.mk (hb); have n4_ := Aside0.mk (hi); clear HO_7; clear HO_8; clear HK; clear HB; clear HI0; have HO_7 := n0_; have HO_8 := n1_; have HK := n2_; have HB := n3_; have HI0 := n4_; clear n0_ n1_ n2_ n3_ n4_; (try clear hb); (try clear hb2); (try clear hk); (try clear hi)) | ((with_reducible refine gate_callee (f := 82) rfl ?_); refine goesL_ (some 24) rfl rfl Try.func82 (by kernel_rfl) rfl #[.pointer (some ⟨g, 0, none⟩)] rfl zT9 ?_; (with_reducible refine (spec_l9DrawHart.calls k1 g s0_0 t438 t439 t440 t443 t444 t445 t446 w0 _ ?side1 ?side2 A9.out).mono ?_); (case side1 => exact zB9_0); (case side2 => exact zB9_1); rintro e w14 ⟨v441, rfl, hoq_, hi, hb, hk⟩; have ho0 := hoq_.2 (hartOk_len A10.out); clear hoq_; refine ⟨_, rfl, ?_⟩; have n0_ := Aside0.mk (Kd.R_mono (Kd.R_told (Kd.R_oldK (IsS90.apart (show IsS90 w0 _ g s0_0 t438 t439 from zB9_0) (zR9 HO_7.out) (by decide)) hk) (Kd.R_base ho0)) (fun _ h_ => h_.1)); have n1_ := Aside0.mk (Kd.S_mono (Kd.S_told (Kd.S_oldK (IsS90.apartS (show IsS90 w0 _ g s0_0 t438 t439 from zB9_0) (zS9 HO_8.out) (by decide)) hk) (Kd.R_base ho0)) (fun _ h_ => h_.1)); have n2_ := Aside0.mk (Kd.R_lower (Kd.R_new' ho0 (Kd.R_lt (zR9 HO_7.out))) (keep_size (w := w) (g := g) (row := none) (zB9_2))); have n3_ := Aside0.mk (KeepBut.trans (zB9_2) hk (.inl rfl)); have n4_ := Aside0.mk (hb); have n5_ := Aside0.mk (hi); clear HO_7; clear HO_8; clear HK; clear HB; clear HI0; have HO_7 := n0_; have HO_8 := n1_; have HO442 := n2_; have HK := n3_; have HB := n4_; have HI0 := n5_; clear n0_ n1_ n2_ n3_ n4_ n5_; (try clear hb); (try clear hb2); (try clear hk); (try clear hi); (try clear ho0)) | ((with_reducible refine gate_dst (N := 10) rfl ?_); refine box_event ?hg (N := 10) ?hd (cs := #[.slice none 0 0, .int .i64 0, .int .i64 0]) (t := 49) ?hr ?_; (case hd => rfl); (case hg => rfl); (case hr => first | (go_simp; done) | (go_simp; rfl)); intro gb447 hg w15 hbox hb; have n0_ := Aside0.mk (Kd.R_below (zR9 HO_7.out) hb); have n1_ := Aside0.mk (Kd.S_below (Kd.S_elderB (zS9 HO_8.out) gb447 (Nat.le_of_eq hg.symm)) hb); have n2_ := Aside0.mk (Kd.R_below (zR9 HO442.out) hb); have n3_ := Aside0.mk (IsS90.below (zB9_0) hb); have n4_ := Aside0.mk (KeepBut.trans (zB9_2) (KeepBut.of_below hb g none) (.inl rfl)); have n5_ := Aside0.mk (below_step (zB9_1) hb); have n6_ := Aside0.mk (hbox); have n7_ := Aside0.mk ((by rw [hg]; exact (keep_size (w := w) (g := g) (row := none) (zB9_2)) : w.heap.size ≤ gb447)); have n8_ := Aside0.mk ((Nat.le_trans HW0.out (by rw [hg]; exact (keep_size (w := w) (g := g) (row := none) (zB9_2)) : w.heap.size ≤ gb447) : w0.heap.size ≤ gb447)); have n9_ := Aside0.mk ((by rw [hg]; exact Nat.ne_of_lt (IsS90.lt (show IsS90 w0 _ g s0_0 t445 t446 from zB9_0)) : g ≠ gb447)); have n10_ := Aside0.mk ((by rw [hg]; exact Nat.ne_of_gt (IsS90.lt (show IsS90 w0 _ g s0_0 t445 t446 from zB9_0)) : gb447 ≠ g)); clear HO_7; clear HO_8; clear HO442; clear HI0; clear HK; clear HB; have HO_7 := n0_; have HO_8 := n1_; have HO442 := n2_; have HI0 := n3_; have HK := n4_; have HB := n5_; have BK447 := n6_; have GW447 := n7_; have GE447 := n8_; have NB0_447 := n9_; have NB447_0 := n10_; clear n0_ n1_ n2_ n3_ n4_ n5_ n6_ n7_ n8_ n9_ n10_; clear hb hbox hg; obtain ⟨Ao16, co16, eo16⟩ := Kd.R_slice HO442.out; subst eo16; have hnb17 := NB447_0.out; have hnc17 := NB0_447.out; obtain ⟨hcz18_0, hcz18_1, hcz18_2, hfz18_0, hfz18_1, hfz18_2⟩ := zc9_3 (w := w15) BK447.out) | ((with_reducible refine gate_callee (f := 76) rfl ?_); refine goesL_ (some 26) rfl rfl Try.func76 (by kernel_rfl) rfl #[.agg #[.slice Ao16 t440.length co16, .int .i64 t443, .int .i64 t444]] rfl zT9 ?_; (with_reducible refine (spec_HartOk.calls k1 _ _ t440 t443 t444 true _ ?side1 ?side2 A10.out).mono ?_); (case side1 => refine (Kd.R_reads' (e := 3) (base := w.heap.size) (ok := fun k_ => (True ∧ some k_ ≠ (v430 : Value).ownBlock)) (n := t440.length) (c := co16) ?_).2.2; exact (by (with_reducible repeat (first | apply Kd.R_alloc | apply Kd.R_drewN | apply Kd.R_drew)); exact (Kd.R_mono (Kd.R_far (p := ⟨gb447, 2, none⟩) (Kd.R_far (p := ⟨gb447, 1, none⟩) (Kd.R_far (p := ⟨gb447, 0, none⟩) (Kd.R_types HO442.out BK447.out (by decide)) (fun _ hk => hk.2) (.slice Ao16 t440.length co16)) (fun _ hk => hk.2) (.int .i64 t443)) (fun _ hk => hk.2) (.int .i64 t444)) (fun _ h_ => h_.1)))); (case side2 => exact (Kd.R_reads' HO442.out).2.1); rintro e w19 ⟨rfl, hb⟩; refine ⟨_, rfl, ?_⟩; have n0_ := Aside0.mk (Kd.R_below (by (with_reducible repeat (first | apply Kd.R_alloc | apply Kd.R_drewN | apply Kd.R_drew)); exact (Kd.R_mono (Kd.R_far (p := ⟨gb447, 2, none⟩) (Kd.R_far (p := ⟨gb447, 1, none⟩) (Kd.R_far (p := ⟨gb447, 0, none⟩) (Kd.R_types HO_7.out BK447.out (by decide)) (fun _ hk => hk.2) (.slice Ao16 t440.length co16)) (fun _ hk => hk.2) (.int .i64 t443)) (fun _ hk => hk.2) (.int .i64 t444)) (fun _ h_ => h_.1))) hb); have n1_ := Aside0.mk (Kd.S_below (by (with_reducible repeat (first | apply Kd.S_alloc | apply Kd.S_drewN | apply Kd.S_drew)); exact (Kd.S_mono (Kd.S_far (p := ⟨gb447, 2, none⟩) (Kd.S_far (p := ⟨gb447, 1, none⟩) (Kd.S_far (p := ⟨gb447, 0, none⟩) (Kd.S_mono HO_8.out (fun k_ hk => (⟨hk, hk.2⟩ : _ ∧ k_ ≠ gb447))) (fun _ hk => hk.2) (.slice Ao16 t440.length co16)) (fun _ hk => hk.2) (.int .i64 t443)) (fun _ hk => hk.2) (.int .i64 t444)) (fun _ h_ => h_.1))) hb); have n2_ := Aside0.mk (Kd.R_below (by (with_reducible repeat (first | apply Kd.R_alloc | apply Kd.R_drewN | apply Kd.R_drew)); exact (Kd.R_mono (Kd.R_far (p := ⟨gb447, 2, none⟩) (Kd.R_far (p := ⟨gb447, 1, none⟩) (Kd.R_far (p := ⟨gb447, 0, none⟩) (Kd.R_types HO442.out BK447.out (by decide)) (fun _ hk => hk.2) (.slice Ao16 t440.length co16)) (fun _ hk => hk.2) (.int .i64 t443)) (fun _ hk => hk.2) (.int .i64 t444)) (fun _ h_ => h_.1))) hb); have n3_ := Aside0.mk (IsS90.below (show IsS90 w0 (((w15.setCell ⟨gb447, 0, none⟩ (.slice Ao16 t440.length co16)).setCell ⟨gb447, 1, none⟩ (.int .i64 t443)).setCell ⟨gb447, 2, none⟩ (.int .i64 t444)) g s0_0 t445 t446 from zB9_3) hb); have n4_ := Aside0.mk (blk_below (g := gb447) (o := .cells #[.slice Ao16 t440.length co16, .int .i64 t443, .int .i64 t444] 49 (0, 0)) (by refine zP9 ?_; refine blk_put (cs := #[.slice Ao16 t440.length co16, .int .i64 t443, .int .i64 0]) ?_ 2 _ rfl; refine zP9 ?_; refine blk_put (cs := #[.slice Ao16 t440.length co16, .int .i64 0, .int .i64 0]) ?_ 1 _ rfl; refine zP9 ?_; refine blk_put (cs := #[.slice none 0 0, .int .i64 0, .int .i64 0]) ?_ 0 _ rfl; refine zP9 ?_; exact BK447.out) hb); have n5_ := Aside0.mk (KeepBut.trans (zB9_4) (KeepBut.of_below hb g none) (.inl rfl)); have n6_ := Aside0.mk (below_step (zB9_5) hb); clear HO_7; clear HO_8; clear HO442; clear HI0; clear BK447; clear HK; clear HB; have HO_7 := n0_; have HO_8 := n1_; have HO442 := n2_; have HI0 := n3_; have BK447 := n4_; have HK := n5_; have HB := n6_; clear n0_ n1_ n2_ n3_ n4_ n5_ n6_; (try clear hb); (try clear hb2); (try clear hk); (try clear hi); obtain ⟨hcz20_0, hcz20_1, hcz20_2, hfz20_0, hfz20_1, hfz20_2⟩ := zc9_3 (w := w19) BK447.out) | ((with_reducible refine gate_builtin (b := .append) (xs := #[.tmp 31, .tmp 33]) rfl ?_); at_builtin; refine Kd.S_append k49 w.heap.size rfl (.tmp 31) (.tmp 33) 51 49 (.agg #[(.slice none 0 0), (.int .i64 0), (.int .i64 0)]) 40 rfl Try.underlying51 info49 rfl (by decide) (by omega) u8 x8_1 (⟨t440, t443, t444⟩ : S49) [.slice Ao16 t440.length co16, .int .i64 t443, .int .i64 t444] (fun k_ => some k_ ≠ (v430 : Value).ownBlock ∧ k_ ≠ gb447) (fun k_ => some k_ = (.slice Ao16 t440.length co16 : Value).ownBlock) rfl rfl ?aP (fun k_ hk_ => ((Kd.R_mono (ok' := fun k_ => ((fun k_ => some k_ ≠ (v430 : Value).ownBlock ∧ k_ ≠ gb447)) k_ ∧ some k_ ≠ (u8 : Value).ownBlock) (Kd.R_types (Kd.R_apart' (HO442.out) (Kd.S_typed HO_8.out) (by decide)) BK447.out (by decide)) (fun k_ hk => ⟨⟨hk.1.1.2, hk.2⟩, hk.1.2⟩))).1 k_ hk_.symm) ?aF ?aO (Below.refl _ _) ?aS ?aL ?_; (case aP => exact k49_mkM _ _ _ (⟨t440, t443, t444⟩ : S49) (Kd.R_mono (Kd.R_tight rfl (Kd.R_mono (ok' := fun k_ => ((fun k_ => some k_ ≠ (v430 : Value).ownBlock ∧ k_ ≠ gb447)) k_ ∧ some k_ ≠ (u8 : Value).ownBlock) (Kd.R_types (Kd.R_apart' (HO442.out) (Kd.S_typed HO_8.out) (by decide)) BK447.out (by decide)) (fun k_ hk => ⟨⟨hk.1.1.2, hk.2⟩, hk.1.2⟩))) (fun _ h_ => h_))); (case aF => exact (fun k_ hk => ⟨Kd.fresh' (Kd.R_lt (zR9 HO_7.out)) k_ hk, Kd.freshB (g := gb447) (o := .cells #[.slice Ao16 t440.length co16, .int .i64 t443, .int .i64 t444] 49 (0, 0)) (zK9 BK447.out) k_ hk⟩)); (case aO => exact (by (with_reducible repeat (first | apply Kd.S_alloc | apply Kd.S_drewN | apply Kd.S_drew)); exact Kd.S_mono HO_8.out (fun k_ hk => ⟨⟨hk.1.1, hk.2⟩, fun e_ => hk.1.2 e_⟩))); (case aS => exact (keep_size (w := w) (g := g) (row := none) (zB9_4))); (case aL => have := LMc12.out; omega); intro v450 w21 ho hb hg hat; rw [← Ny449.out] at ho; have n0_ := Aside0.mk (Kd.R_over' (zR9 HO_7.out) (Kd.S_typed (zS9 HO_8.out)) (by decide) hg); have n1_ := Aside0.mk (IsS90.grown (show IsS90 w0 _ g s0_0 t445 t446 from zB9_3) hg (IsS90.own_neS HI0.out HO_8.out (by decide))); have n2_ := Aside0.mk (zg9 BK447.out hg (Kd.S_away HO_8.out (fun _ hk => hk.2))); have n3_ := Aside0.mk (below_weaken (zB9_5) HL.out hb); have n4_ := Aside0.mk (KeepBut.trans (zB9_4) (KeepBut.of_grown hg g) (Kd.S_base2 HO_8.out)); have n5_ := Aside0.mk (ho); clear HO_7; clear HI0; clear BK447; clear HB; clear HK; clear HO_8; clear HO442; have HO_7 := n0_; have HI0 := n1_; have BK447 := n2_; have HB := n3_; have HK := n4_; have HO451 := n5_; clear n0_ n1_ n2_ n3_ n4_ n5_; clear ho hb hg hat))
    go_roundg k1
    case measure => have := HK1.out; omega
    case rel => exact ⟨(y449), (wrap64 (x9_1 + 1)), (t445), (t446), (by first | rfl | (simp; done) | (simp [*]; done)), H', ⟨by have := HK1.out; omega⟩, ⟨by (with_reducible repeat (first | apply Kd.R_alloc | apply Kd.R_drewN | apply Kd.R_drew)); exact Kd.R_mono HO_7.out (fun _ hk => trivial)⟩, ⟨by (with_reducible repeat (first | apply Kd.S_alloc | apply Kd.S_drewN | apply Kd.S_drew)); exact Kd.S_mono HO451.out (fun _ hk => hk.1)⟩, ⟨zB9_3⟩, ⟨zB9_4⟩, ⟨zB9_5⟩⟩
   replace c11 := Bool.eq_false_iff.mpr c11
   subst c11
   have H1 : ((spec_l1Below.f s0_0 t445 t446 20).bind fun bt452 => ((spec_HartNew.f bt452.1).bind fun bt455 => (if x8_1.length < 3518437208883 then (spec_l18DrawRun.l0 k1 a1 t429 (x8_1 ++ [(⟨bt455.1, bt455.2.1, bt455.2.2⟩ : S49)]) (wrap64 (x9_1 + 1)) s0_0 bt452.2.1 bt452.2.2) else (none)))) = some (r1, r2, r3, r4, r5) := by rw [if_neg (show ¬ (false = true) by decide)] at H; exact H
   clear H
   have H := H1
   clear H1
   replace H := Option.bind_eq_some_iff.mp H
   obtain ⟨⟨t452, t453, t454⟩, A220, H⟩ := H
   replace H : ((spec_HartNew.f t452).bind fun bt455 => (if x8_1.length < 3518437208883 then (spec_l18DrawRun.l0 k1 a1 t429 (x8_1 ++ [(⟨bt455.1, bt455.2.1, bt455.2.2⟩ : S49)]) (wrap64 (x9_1 + 1)) s0_0 t453 t454) else (none))) = some (r1, r2, r3, r4, r5) := H
   have A22 := Aside0.mk A220
   clear A220
   replace H := Option.bind_eq_some_iff.mp H
   obtain ⟨⟨t455, t458, t459⟩, A230, H⟩ := H
   replace H : (if x8_1.length < 3518437208883 then (spec_l18DrawRun.l0 k1 a1 t429 (x8_1 ++ [(⟨t455, t458, t459⟩ : S49)]) (wrap64 (x9_1 + 1)) s0_0 t453 t454) else (none)) = some (r1, r2, r3, r4, r5) := H
   have A23 := Aside0.mk A230
   clear A230
   by_cases c24 : x8_1.length < 3518437208883
   rotate_left
   ·rw [if_neg c24] at H
    exact absurd H (by simp)
   rw [if_pos c24] at H
   have LMc24 := Aside0.mk c24
   clear c24
   obtain ⟨y460, hy460⟩ : ∃ y_ : List (S49), y_ = (x8_1 ++ [(⟨t455, t458, t459⟩ : S49)]) := ⟨_, rfl⟩
   replace H : (spec_l18DrawRun.l0 k1 a1 t429 y460 (wrap64 (x9_1 + 1)) s0_0 t453 t454) = some (r1, r2, r3, r4, r5) := by first | (rw [hy460]; with_reducible exact H) | (have H2_ := (Option.bind_some _ _).symm.trans H; rw [hy460]; with_reducible exact H2_) | (have H2_ := (Option.bind_some _ _).symm.trans H; with_reducible exact H2_) | with_reducible exact H | (rw [hy460]; exact H) | exact H
   have Ny460 := Aside0.mk hy460
   clear hy460
   have H' := Aside0.mk H
   clear H
   go_wp2_with (first | ((with_reducible refine gate_callee (f := 42) rfl ?_); refine goesL_ (some 18) rfl rfl Try.func42 (by kernel_rfl) rfl #[.pointer (some ⟨g, 0, none⟩), .int .i64 3] rfl zT9 ?_; (with_reducible refine (spec_l1Below.calls g s0_0 x1001_1 x1002_1 3 t437 t438 t439 w0 _ ?side1 ?side2 A7.out).mono ?_); (case side1 => exact zB9_0); (case side2 => exact zB9_1); rintro e w25 ⟨rfl, hi, hb, hk⟩; refine ⟨_, rfl, ?_⟩; have n0_ := Aside0.mk (Kd.R_mono (Kd.R_keep (IsS90.apart (show IsS90 w0 _ g s0_0 x1001_1 x1002_1 from zB9_0) (zR9 HO_7.out) (by decide)) hk (fun _ h => h.2)) (fun _ h => h.1)); have n1_ := Aside0.mk (Kd.S_mono (Kd.S_keep (IsS90.apartS (show IsS90 w0 _ g s0_0 x1001_1 x1002_1 from zB9_0) (zS9 HO_8.out) (by decide)) hk (fun _ h => h.2)) (fun _ h => h.1)); have n2_ := Aside0.mk (KeepBut.trans (zB9_2) hk (.inl rfl)); have n3_ := Aside0.mk (hb); have n4_ := Aside0.mk (hi); clear HO_7; clear HO_8; clear HK; clear HB; clear HI0; have HO_7 := n0_; have HO_8 := n1_; have HK := n2_; have HB := n3_; have HI0 := n4_; clear n0_ n1_ n2_ n3_ n4_; (try clear hb); (try clear hb2); (try clear hk); (try clear hi)) | ((with_reducible refine gate_callee (f := 82) rfl ?_); refine goesL_ (some 24) rfl rfl Try.func82 (by kernel_rfl) rfl #[.pointer (some ⟨g, 0, none⟩)] rfl zT9 ?_; (with_reducible refine (spec_l9DrawHart.calls k1 g s0_0 t438 t439 t440 t443 t444 t445 t446 w0 _ ?side1 ?side2 A9.out).mono ?_); (case side1 => exact zB9_0); (case side2 => exact zB9_1); rintro e w26 ⟨v441, rfl, hoq_, hi, hb, hk⟩; have ho0 := hoq_.1; clear hoq_; refine ⟨_, rfl, ?_⟩; have n0_ := Aside0.mk (Kd.R_mono (Kd.R_told (Kd.R_oldK (IsS90.apart (show IsS90 w0 _ g s0_0 t438 t439 from zB9_0) (zR9 HO_7.out) (by decide)) hk) (Kd.Q_base ho0)) (fun _ h_ => h_.1)); have n1_ := Aside0.mk (Kd.S_mono (Kd.S_told (Kd.S_oldK (IsS90.apartS (show IsS90 w0 _ g s0_0 t438 t439 from zB9_0) (zS9 HO_8.out) (by decide)) hk) (Kd.Q_base ho0)) (fun _ h_ => h_.1)); have n2_ := Aside0.mk (Kd.Q_lower (Kd.Q_new' ho0 (Kd.R_lt (zR9 HO_7.out))) (keep_size (w := w) (g := g) (row := none) (zB9_2))); have n3_ := Aside0.mk (KeepBut.trans (zB9_2) hk (.inl rfl)); have n4_ := Aside0.mk (hb); have n5_ := Aside0.mk (hi); clear HO_7; clear HO_8; clear HK; clear HB; clear HI0; have HO_7 := n0_; have HO_8 := n1_; have HO442 := n2_; have HK := n3_; have HB := n4_; have HI0 := n5_; clear n0_ n1_ n2_ n3_ n4_ n5_; (try clear hb); (try clear hb2); (try clear hk); (try clear hi); (try clear ho0)) | ((with_reducible refine gate_dst (N := 10) rfl ?_); refine box_event ?hg (N := 10) ?hd (cs := #[.slice none 0 0, .int .i64 0, .int .i64 0]) (t := 49) ?hr ?_; (case hd => rfl); (case hg => rfl); (case hr => first | (go_simp; done) | (go_simp; rfl)); intro gb447 hg w27 hbox hb; have n0_ := Aside0.mk (Kd.R_below (zR9 HO_7.out) hb); have n1_ := Aside0.mk (Kd.S_below (Kd.S_elderB (zS9 HO_8.out) gb447 (Nat.le_of_eq hg.symm)) hb); have n2_ := Aside0.mk (Kd.Q_below (zQ9 HO442.out) hb); have n3_ := Aside0.mk (IsS90.below (zB9_0) hb); have n4_ := Aside0.mk (KeepBut.trans (zB9_2) (KeepBut.of_below hb g none) (.inl rfl)); have n5_ := Aside0.mk (below_step (zB9_1) hb); have n6_ := Aside0.mk (hbox); have n7_ := Aside0.mk ((by rw [hg]; exact (keep_size (w := w) (g := g) (row := none) (zB9_2)) : w.heap.size ≤ gb447)); have n8_ := Aside0.mk ((Nat.le_trans HW0.out (by rw [hg]; exact (keep_size (w := w) (g := g) (row := none) (zB9_2)) : w.heap.size ≤ gb447) : w0.heap.size ≤ gb447)); have n9_ := Aside0.mk ((by rw [hg]; exact Nat.ne_of_lt (IsS90.lt (show IsS90 w0 _ g s0_0 t445 t446 from zB9_0)) : g ≠ gb447)); have n10_ := Aside0.mk ((by rw [hg]; exact Nat.ne_of_gt (IsS90.lt (show IsS90 w0 _ g s0_0 t445 t446 from zB9_0)) : gb447 ≠ g)); clear HO_7; clear HO_8; clear HO442; clear HI0; clear HK; clear HB; have HO_7 := n0_; have HO_8 := n1_; have HO442 := n2_; have HI0 := n3_; have HK := n4_; have HB := n5_; have BK447 := n6_; have GW447 := n7_; have GE447 := n8_; have NB0_447 := n9_; have NB447_0 := n10_; clear n0_ n1_ n2_ n3_ n4_ n5_ n6_ n7_ n8_ n9_ n10_; clear hb hbox hg; obtain ⟨Ao28, co28, eo28, _⟩ := Kd.Q_slice HO442.out; subst eo28; have hnb29 := NB447_0.out; have hnc29 := NB0_447.out; obtain ⟨hcz30_0, hcz30_1, hcz30_2, hfz30_0, hfz30_1, hfz30_2⟩ := zc9_3 (w := w27) BK447.out) | ((with_reducible refine gate_callee (f := 76) rfl ?_); refine goesL_ (some 26) rfl rfl Try.func76 (by kernel_rfl) rfl #[.agg #[.slice Ao28 t440.length co28, .int .i64 t443, .int .i64 t444]] rfl zT9 ?_; (with_reducible refine (spec_HartOk.calls k1 _ _ t440 t443 t444 false _ ?side1 ?side2 A10.out).mono ?_); (case side1 => refine (Kd.Q_reads' (e := 3) (base := w.heap.size) (ok := fun k_ => (True ∧ some k_ ≠ (v430 : Value).ownBlock)) (n := t440.length) (c := co28) ?_).2.2; exact (by (with_reducible repeat (first | apply Kd.Q_alloc | apply Kd.Q_drewN | apply Kd.Q_drew)); exact (Kd.Q_mono (Kd.Q_far (p := ⟨gb447, 2, none⟩) (Kd.Q_far (p := ⟨gb447, 1, none⟩) (Kd.Q_far (p := ⟨gb447, 0, none⟩) (Kd.Q_types HO442.out BK447.out (by decide)) (fun _ hk => hk.2) (.slice Ao28 t440.length co28)) (fun _ hk => hk.2) (.int .i64 t443)) (fun _ hk => hk.2) (.int .i64 t444)) (fun _ h_ => h_.1)))); (case side2 => exact (Kd.Q_reads' HO442.out).2.1); rintro e w31 ⟨rfl, hb⟩; refine ⟨_, rfl, ?_⟩; have n0_ := Aside0.mk (Kd.R_below (by (with_reducible repeat (first | apply Kd.R_alloc | apply Kd.R_drewN | apply Kd.R_drew)); exact (Kd.R_mono (Kd.R_far (p := ⟨gb447, 2, none⟩) (Kd.R_far (p := ⟨gb447, 1, none⟩) (Kd.R_far (p := ⟨gb447, 0, none⟩) (Kd.R_types HO_7.out BK447.out (by decide)) (fun _ hk => hk.2) (.slice Ao28 t440.length co28)) (fun _ hk => hk.2) (.int .i64 t443)) (fun _ hk => hk.2) (.int .i64 t444)) (fun _ h_ => h_.1))) hb); have n1_ := Aside0.mk (Kd.S_below (by (with_reducible repeat (first | apply Kd.S_alloc | apply Kd.S_drewN | apply Kd.S_drew)); exact (Kd.S_mono (Kd.S_far (p := ⟨gb447, 2, none⟩) (Kd.S_far (p := ⟨gb447, 1, none⟩) (Kd.S_far (p := ⟨gb447, 0, none⟩) (Kd.S_mono HO_8.out (fun k_ hk => (⟨hk, hk.2⟩ : _ ∧ k_ ≠ gb447))) (fun _ hk => hk.2) (.slice Ao28 t440.length co28)) (fun _ hk => hk.2) (.int .i64 t443)) (fun _ hk => hk.2) (.int .i64 t444)) (fun _ h_ => h_.1))) hb); have n2_ := Aside0.mk (Kd.Q_below (by (with_reducible repeat (first | apply Kd.Q_alloc | apply Kd.Q_drewN | apply Kd.Q_drew)); exact (Kd.Q_mono (Kd.Q_far (p := ⟨gb447, 2, none⟩) (Kd.Q_far (p := ⟨gb447, 1, none⟩) (Kd.Q_far (p := ⟨gb447, 0, none⟩) (Kd.Q_types HO442.out BK447.out (by decide)) (fun _ hk => hk.2) (.slice Ao28 t440.length co28)) (fun _ hk => hk.2) (.int .i64 t443)) (fun _ hk => hk.2) (.int .i64 t444)) (fun _ h_ => h_.1))) hb); have n3_ := Aside0.mk (IsS90.below (show IsS90 w0 (((w27.setCell ⟨gb447, 0, none⟩ (.slice Ao28 t440.length co28)).setCell ⟨gb447, 1, none⟩ (.int .i64 t443)).setCell ⟨gb447, 2, none⟩ (.int .i64 t444)) g s0_0 t445 t446 from zB9_3) hb); have n4_ := Aside0.mk (blk_below (g := gb447) (o := .cells #[.slice Ao28 t440.length co28, .int .i64 t443, .int .i64 t444] 49 (0, 0)) (by refine zP9 ?_; refine blk_put (cs := #[.slice Ao28 t440.length co28, .int .i64 t443, .int .i64 0]) ?_ 2 _ rfl; refine zP9 ?_; refine blk_put (cs := #[.slice Ao28 t440.length co28, .int .i64 0, .int .i64 0]) ?_ 1 _ rfl; refine zP9 ?_; refine blk_put (cs := #[.slice none 0 0, .int .i64 0, .int .i64 0]) ?_ 0 _ rfl; refine zP9 ?_; exact BK447.out) hb); have n5_ := Aside0.mk (KeepBut.trans (zB9_4) (KeepBut.of_below hb g none) (.inl rfl)); have n6_ := Aside0.mk (below_step (zB9_5) hb); clear HO_7; clear HO_8; clear HO442; clear HI0; clear BK447; clear HK; clear HB; have HO_7 := n0_; have HO_8 := n1_; have HO442 := n2_; have HI0 := n3_; have BK447 := n4_; have HK := n5_; have HB := n6_; clear n0_ n1_ n2_ n3_ n4_ n5_ n6_; (try clear hb); (try clear hb2); (try clear hk); (try clear hi)) | ((with_reducible refine gate_callee (f := 42) rfl ?_); refine goesL_ (some 29) rfl rfl Try.func42 (by kernel_rfl) rfl #[.pointer (some ⟨g, 0, none⟩), .int .i64 20] rfl zT9 ?_; (with_reducible refine (spec_l1Below.calls g s0_0 t445 t446 20 t452 t453 t454 w0 _ ?side1 ?side2 A22.out).mono ?_); (case side1 => exact zB9_3); (case side2 => exact zB9_5); rintro e w32 ⟨rfl, hi, hb, hk⟩; refine ⟨_, rfl, ?_⟩; have n0_ := Aside0.mk (Kd.R_mono (Kd.R_keep (IsS90.apart (show IsS90 w0 _ g s0_0 t445 t446 from zB9_3) (zR9 HO_7.out) (by decide)) hk (fun _ h => h.2)) (fun _ h => h.1)); have n1_ := Aside0.mk (Kd.S_mono (Kd.S_keep (IsS90.apartS (show IsS90 w0 _ g s0_0 t445 t446 from zB9_3) (zS9 HO_8.out) (by decide)) hk (fun _ h => h.2)) (fun _ h => h.1)); have n2_ := Aside0.mk (Kd.Q_mono (Kd.Q_keep (IsS90.apartQ (show IsS90 w0 _ g s0_0 t445 t446 from zB9_3) (zQ9 HO442.out) (by decide)) hk (fun _ h => h.2)) (fun _ h => h.1)); have n3_ := Aside0.mk (zh9 hk BK447.out NB447_0.out); have n4_ := Aside0.mk (KeepBut.trans (zB9_4) hk (.inl rfl)); have n5_ := Aside0.mk (hb); have n6_ := Aside0.mk (hi); clear HO_7; clear HO_8; clear HO442; clear BK447; clear HK; clear HB; clear HI0; have HO_7 := n0_; have HO_8 := n1_; have HO442 := n2_; have BK447 := n3_; have HK := n4_; have HB := n5_; have HI0 := n6_; clear n0_ n1_ n2_ n3_ n4_ n5_ n6_; (try clear hb); (try clear hb2); (try clear hk); (try clear hi)) | ((with_reducible refine gate_callee (f := 83) rfl ?_); refine goesL_ (some 30) rfl rfl Try.func83 (by kernel_rfl) rfl #[.int .i64 t452] rfl zT9 ?_; (with_reducible refine (spec_HartNew.calls t452 t455 t458 t459 _ A23.out).mono ?_); rintro e w33 ⟨v456, rfl, ho0, hb⟩; refine ⟨_, rfl, ?_⟩; have n0_ := Aside0.mk (Kd.R_elder' (zR9 HO_7.out) (Kd.R_base ho0) hb); have n1_ := Aside0.mk (Kd.S_elder' (zS9 HO_8.out) (Kd.R_base ho0) hb); have n2_ := Aside0.mk (Kd.Q_elder' (zQ9 HO442.out) (Kd.R_base ho0) hb); have n3_ := Aside0.mk (Kd.R_lower (Kd.R_new' (Kd.R_new' ho0 (Kd.R_lt (zR9 HO_7.out))) (Kd.Q_lt (zQ9 HO442.out))) (keep_size (w := w) (g := g) (row := none) (zB9_4))); have n4_ := Aside0.mk (IsS90.below (zB9_3) hb); have n5_ := Aside0.mk (zb9 BK447.out hb); have n6_ := Aside0.mk (KeepBut.trans (zB9_4) (KeepBut.of_below hb g none) (.inl rfl)); have n7_ := Aside0.mk (below_step (zB9_5) hb); clear HO_7; clear HO_8; clear HO442; clear HI0; clear BK447; clear HK; clear HB; have HO_7 := n0_; have HO_8 := n1_; have HO442 := n2_; have HO457 := n3_; have HI0 := n4_; have BK447 := n5_; have HK := n6_; have HB := n7_; clear n0_ n1_ n2_ n3_ n4_ n5_ n6_ n7_; (try clear hb); (try clear hb2); (try clear hk); (try clear hi); (try clear ho0); obtain ⟨Ao34, co34, eo34⟩ := Kd.R_slice HO457.out; subst eo34; obtain ⟨hcz35_0, hcz35_1, hcz35_2, hfz35_0, hfz35_1, hfz35_2⟩ := zc9_3 (w := w33) BK447.out) | ((with_reducible refine gate_store (t := 49) (p := 10) rfl ?_); refine store_event (t := 49) (p := 10) (v := ?vo_w36) (w1 := (((w33.setCell ⟨gb447, 0, none⟩ (.slice Ao34 t455.length co34)).setCell ⟨gb447, 1, none⟩ (.int .i64 t458)).setCell ⟨gb447, 2, none⟩ (.int .i64 t459))) ?hg ?ho ?hn ?hr ?_; (case ho => rfl); (case hg => rfl); (case hn => rfl); (case hr => first | (go_simp; done) | (go_simp; rfl)); intro w36 hw; have n0_ : Aside0 (Kd.R (Kd.int .i64) 3 w36 w.heap.size (fun k_ => some k_ ≠ (.slice Ao28 t440.length co28 : Value).ownBlock ∧ some k_ ≠ (.slice Ao34 t455.length co34 : Value).ownBlock) v430 t429) := ⟨(by rw [hw]; exact (by (with_reducible repeat (first | apply Kd.R_alloc | apply Kd.R_drewN | apply Kd.R_drew)); exact Kd.R_mono (Kd.R_far (p := ⟨gb447, 2, none⟩) (Kd.R_far (p := ⟨gb447, 1, none⟩) (Kd.R_far (p := ⟨gb447, 0, none⟩) (Kd.R_types HO_7.out BK447.out (by decide)) (fun _ hk => hk.2) (.slice Ao34 t455.length co34)) (fun _ hk => hk.2) (.int .i64 t458)) (fun _ hk => hk.2) (.int .i64 t459)) (fun _ hk => ⟨hk.1.1.2, hk.1.2⟩)))⟩; have n1_ : Aside0 (Kd.S k49 49 w36 w.heap.size (fun k_ => some k_ ≠ (v430 : Value).ownBlock ∧ some k_ ≠ (.slice Ao28 t440.length co28 : Value).ownBlock ∧ some k_ ≠ (.slice Ao34 t455.length co34 : Value).ownBlock ∧ k_ ≠ gb447) u8 x8_1) := ⟨(by rw [hw]; exact (by (with_reducible repeat (first | apply Kd.S_alloc | apply Kd.S_drewN | apply Kd.S_drew)); exact Kd.S_mono (Kd.S_far (p := ⟨gb447, 2, none⟩) (Kd.S_far (p := ⟨gb447, 1, none⟩) (Kd.S_far (p := ⟨gb447, 0, none⟩) (Kd.S_mono HO_8.out (fun k_ hk => (⟨hk, hk.1.2⟩ : _ ∧ k_ ≠ gb447))) (fun _ hk => hk.2) (.slice Ao34 t455.length co34)) (fun _ hk => hk.2) (.int .i64 t458)) (fun _ hk => hk.2) (.int .i64 t459)) (fun _ hk => ⟨hk.1.1.1.1, ⟨hk.1.1.1.2, ⟨hk.1.2, hk.1.1.2⟩⟩⟩)))⟩; have n2_ : Aside0 (Kd.Q (Kd.int .i64) 3 w36 w.heap.size (fun k_ => some k_ ≠ (v430 : Value).ownBlock ∧ some k_ ≠ (.slice Ao34 t455.length co34 : Value).ownBlock) (.slice Ao28 t440.length co28) t440) := ⟨(by rw [hw]; exact (by (with_reducible repeat (first | apply Kd.Q_alloc | apply Kd.Q_drewN | apply Kd.Q_drew)); exact Kd.Q_mono (Kd.Q_far (p := ⟨gb447, 2, none⟩) (Kd.Q_far (p := ⟨gb447, 1, none⟩) (Kd.Q_far (p := ⟨gb447, 0, none⟩) (Kd.Q_types HO442.out BK447.out (by decide)) (fun _ hk => hk.2) (.slice Ao34 t455.length co34)) (fun _ hk => hk.2) (.int .i64 t458)) (fun _ hk => hk.2) (.int .i64 t459)) (fun _ hk => ⟨hk.1.1.2, hk.1.2⟩)))⟩; have n3_ : Aside0 (Kd.R (Kd.int .i64) 3 w36 w.heap.size (fun k_ => some k_ ≠ (v430 : Value).ownBlock ∧ some k_ ≠ (.slice Ao28 t440.length co28 : Value).ownBlock) (.slice Ao34 t455.length co34) t455) := ⟨(by rw [hw]; exact (by (with_reducible repeat (first | apply Kd.R_alloc | apply Kd.R_drewN | apply Kd.R_drew)); exact Kd.R_mono (Kd.R_far (p := ⟨gb447, 2, none⟩) (Kd.R_far (p := ⟨gb447, 1, none⟩) (Kd.R_far (p := ⟨gb447, 0, none⟩) (Kd.R_types HO457.out BK447.out (by decide)) (fun _ hk => hk.2) (.slice Ao34 t455.length co34)) (fun _ hk => hk.2) (.int .i64 t458)) (fun _ hk => hk.2) (.int .i64 t459)) (fun _ hk => ⟨hk.1.1.2, hk.1.2⟩)))⟩; have n4_ : Aside0 (w36.heap[gb447]? = some (.cells #[.slice Ao34 t455.length co34, .int .i64 t458, .int .i64 t459] 49 (0, 0))) := ⟨(by rw [hw]; exact (by refine zP9 ?_; refine blk_put (cs := #[.slice Ao34 t455.length co34, .int .i64 t458, .int .i64 t444]) ?_ 2 _ rfl; refine zP9 ?_; refine blk_put (cs := #[.slice Ao34 t455.length co34, .int .i64 t443, .int .i64 t444]) ?_ 1 _ rfl; refine zP9 ?_; refine blk_put (cs := #[.slice Ao28 t440.length co28, .int .i64 t443, .int .i64 t444]) ?_ 0 _ rfl; refine zP9 ?_; exact BK447.out))⟩; have n5_ : Aside0 (IsS90 w0 w36 g s0_0 t453 t454) := ⟨(by rw [hw]; exact (zB9_3))⟩; have n6_ : Aside0 (KeepBut w w36 g none) := ⟨(by rw [hw]; exact (zB9_4))⟩; have n7_ : Aside0 (Below w0.heap.size w0 w36) := ⟨(by rw [hw]; exact (zB9_5))⟩; clear hw; clear HO_7; clear HO_8; clear HO442; clear HO457; clear BK447; clear HI0; clear HK; clear HB; have HO_7 := n0_; have HO_8 := n1_; have HO442 := n2_; have HO457 := n3_; have BK447 := n4_; have HI0 := n5_; have HK := n6_; have HB := n7_; clear n0_ n1_ n2_ n3_ n4_ n5_ n6_ n7_; obtain ⟨hcz37_0, hcz37_1, hcz37_2, hfz37_0, hfz37_1, hfz37_2⟩ := zc9_3 (w := w36) BK447.out) | ((with_reducible refine gate_builtin (b := .append) (xs := #[.tmp 31, .tmp 33]) rfl ?_); at_builtin; refine Kd.S_append k49 w.heap.size rfl (.tmp 31) (.tmp 33) 51 49 (.agg #[(.slice none 0 0), (.int .i64 0), (.int .i64 0)]) 40 rfl Try.underlying51 info49 rfl (by decide) (by omega) u8 x8_1 (⟨t455, t458, t459⟩ : S49) [.slice Ao34 t455.length co34, .int .i64 t458, .int .i64 t459] (fun k_ => some k_ ≠ (v430 : Value).ownBlock ∧ some k_ ≠ (.slice Ao28 t440.length co28 : Value).ownBlock ∧ k_ ≠ gb447) (fun k_ => some k_ = (.slice Ao34 t455.length co34 : Value).ownBlock) rfl rfl ?aP (fun k_ hk_ => ((Kd.R_mono (ok' := fun k_ => ((fun k_ => some k_ ≠ (v430 : Value).ownBlock ∧ some k_ ≠ (.slice Ao28 t440.length co28 : Value).ownBlock ∧ k_ ≠ gb447)) k_ ∧ some k_ ≠ (u8 : Value).ownBlock) (Kd.R_types (Kd.R_apart' (HO457.out) (Kd.S_typed HO_8.out) (by decide)) BK447.out (by decide)) (fun k_ hk => ⟨⟨hk.1.1.1, ⟨hk.1.1.2, hk.2⟩⟩, hk.1.2⟩))).1 k_ hk_.symm) ?aF ?aO (Below.refl _ _) ?aS ?aL ?_; (case aP => exact k49_mkM _ _ _ (⟨t455, t458, t459⟩ : S49) (Kd.R_mono (Kd.R_tight rfl (Kd.R_mono (ok' := fun k_ => ((fun k_ => some k_ ≠ (v430 : Value).ownBlock ∧ some k_ ≠ (.slice Ao28 t440.length co28 : Value).ownBlock ∧ k_ ≠ gb447)) k_ ∧ some k_ ≠ (u8 : Value).ownBlock) (Kd.R_types (Kd.R_apart' (HO457.out) (Kd.S_typed HO_8.out) (by decide)) BK447.out (by decide)) (fun k_ hk => ⟨⟨hk.1.1.1, ⟨hk.1.1.2, hk.2⟩⟩, hk.1.2⟩))) (fun _ h_ => h_))); (case aF => exact (fun k_ hk => ⟨Kd.fresh' (Kd.R_lt (zR9 HO_7.out)) k_ hk, Kd.fresh' (Kd.Q_lt (zQ9 HO442.out)) k_ hk, Kd.freshB (g := gb447) (o := .cells #[.slice Ao34 t455.length co34, .int .i64 t458, .int .i64 t459] 49 (0, 0)) (zK9 BK447.out) k_ hk⟩)); (case aO => exact (by (with_reducible repeat (first | apply Kd.S_alloc | apply Kd.S_drewN | apply Kd.S_drew)); exact Kd.S_mono HO_8.out (fun k_ hk => ⟨⟨hk.1, ⟨hk.2.1, hk.2.2.2⟩⟩, fun e_ => hk.2.2.1 e_⟩))); (case aS => exact (keep_size (w := w) (g := g) (row := none) (zB9_4))); (case aL => have := LMc24.out; omega); intro v461 w38 ho hb hg hat; rw [← Ny460.out] at ho; have n0_ := Aside0.mk (Kd.R_over' (zR9 HO_7.out) (Kd.S_typed (zS9 HO_8.out)) (by decide) hg); have n1_ := Aside0.mk (IsS90.grown (show IsS90 w0 _ g s0_0 t453 t454 from zB9_3) hg (IsS90.own_neS HI0.out HO_8.out (by decide))); have n2_ := Aside0.mk (Kd.Q_over' (zQ9 HO442.out) (Kd.S_typed (zS9 HO_8.out)) (by decide) hg); have n3_ := Aside0.mk (zg9 BK447.out hg (Kd.S_away HO_8.out (fun _ hk => hk.2.2.2))); have n4_ := Aside0.mk (below_weaken (zB9_5) HL.out hb); have n5_ := Aside0.mk (KeepBut.trans (zB9_4) (KeepBut.of_grown hg g) (Kd.S_base2 HO_8.out)); have n6_ := Aside0.mk (ho); clear HO_7; clear HI0; clear HO442; clear BK447; clear HB; clear HK; clear HO_8; clear HO457; have HO_7 := n0_; have HI0 := n1_; have HO442 := n2_; have BK447 := n3_; have HB := n4_; have HK := n5_; have HO462 := n6_; clear n0_ n1_ n2_ n3_ n4_ n5_ n6_; clear ho hb hg hat))
   go_roundg k1
   case measure => have := HK1.out; omega
   case rel => exact ⟨(y460), (wrap64 (x9_1 + 1)), (t453), (t454), (by first | rfl | (simp; done) | (simp [*]; done)), H', ⟨by have := HK1.out; omega⟩, ⟨by (with_reducible repeat (first | apply Kd.R_alloc | apply Kd.R_drewN | apply Kd.R_drew)); exact Kd.R_mono HO_7.out (fun _ hk => trivial)⟩, ⟨by (with_reducible repeat (first | apply Kd.S_alloc | apply Kd.S_drewN | apply Kd.S_drew)); exact Kd.S_mono HO462.out (fun _ hk => hk.1)⟩, ⟨zB9_3⟩, ⟨zB9_4⟩, ⟨zB9_5⟩⟩

/-! ### spec_l19DrawEvent: function 60 -/
def spec_l19DrawEvent.f (s0_0 : List Int) (s0_1 : Int) (s0_2 : Int) : Option (Int × Int × Int × Int × Int × Int × Int) := (spec_l1Below.f s0_0 s0_1 s0_2 3).bind fun bt476 => ((spec_l1Below.f s0_0 bt476.2.1 bt476.2.2 6).bind fun bt479 => ((spec_l1Below.f s0_0 bt479.2.1 bt479.2.2 4).bind fun bt483 => (if bt483.1 = 0 then ((spec_l1Below.f s0_0 bt483.2.1 bt483.2.2 6).bind fun bt486 => ((spec_l1Below.f s0_0 bt486.2.1 bt486.2.2 4).bind fun bt489 => (some (bt476.1, bt479.1, bt486.1, bt489.1, (-1), bt489.2.1, bt489.2.2)))) else (if bt483.1 = 1 then ((spec_l1Below.f s0_0 bt483.2.1 bt483.2.2 6).bind fun bt492 => ((spec_l1Below.f s0_0 bt492.2.1 bt492.2.2 4).bind fun bt495 => (some (bt476.1, bt479.1, bt492.1, (-1), bt495.1, bt495.2.1, bt495.2.2)))) else (if bt483.1 = 2 then ((spec_l1Below.f s0_0 bt483.2.1 bt483.2.2 6).bind fun bt498 => ((spec_l1Below.f s0_0 bt498.2.1 bt498.2.2 4).bind fun bt501 => ((spec_l1Below.f s0_0 bt501.2.1 bt501.2.2 4).bind fun bt504 => (some (bt476.1, bt479.1, bt498.1, bt501.1, bt504.1, bt504.2.1, bt504.2.2))))) else (some (bt476.1, bt479.1, (-1), (-1), (-1), bt483.2.1, bt483.2.2)))))))
set_option maxHeartbeats 8000000 in
set_option maxRecDepth 100000 in
theorem spec_l19DrawEvent.calls (g : Nat) (s0_0 : List Int) (s0_1 : Int) (s0_2 : Int) (r1 : Int) (r2 : Int) (r3 : Int) (r4 : Int) (r5 : Int) (r6 : Int) (r7 : Int) (w0 w : World) (hI : IsS90 w0 w g s0_0 s0_1 s0_2) (hB : Below w0.heap.size w0 w) (h : spec_l19DrawEvent.f s0_0 s0_1 s0_2 = some (r1, r2, r3, r4, r5, r6, r7)) :
  Calls Try.prog 60 #[.pointer (some ⟨g, 0, none⟩)] w fun e w' => e = .returned (.agg #[.int .i64 r1, .int .i64 r2, .int .i64 r3, .int .i64 r4, .int .i64 r5]) ∧ IsS90 w0 w' g s0_0 r6 r7 ∧ Below w0.heap.size w0 w' ∧ KeepBut w w' g none := by
 have hu31 := Try.underlying31
 have HI0 := Aside0.mk hI
 have HK := Aside0.mk (KeepBut.refl w g none)
 have HL := Aside0.mk hB.size
 clear hI
 have HW0 := Aside0.mk hB.size
 have HB := Aside0.mk hB
 clear hB
 have H : ((spec_l1Below.f s0_0 s0_1 s0_2 3).bind fun bt476 => ((spec_l1Below.f s0_0 bt476.2.1 bt476.2.2 6).bind fun bt479 => ((spec_l1Below.f s0_0 bt479.2.1 bt479.2.2 4).bind fun bt483 => (if bt483.1 = 0 then ((spec_l1Below.f s0_0 bt483.2.1 bt483.2.2 6).bind fun bt486 => ((spec_l1Below.f s0_0 bt486.2.1 bt486.2.2 4).bind fun bt489 => (some (bt476.1, bt479.1, bt486.1, bt489.1, (-1), bt489.2.1, bt489.2.2)))) else (if bt483.1 = 1 then ((spec_l1Below.f s0_0 bt483.2.1 bt483.2.2 6).bind fun bt492 => ((spec_l1Below.f s0_0 bt492.2.1 bt492.2.2 4).bind fun bt495 => (some (bt476.1, bt479.1, bt492.1, (-1), bt495.1, bt495.2.1, bt495.2.2)))) else (if bt483.1 = 2 then ((spec_l1Below.f s0_0 bt483.2.1 bt483.2.2 6).bind fun bt498 => ((spec_l1Below.f s0_0 bt498.2.1 bt498.2.2 4).bind fun bt501 => ((spec_l1Below.f s0_0 bt501.2.1 bt501.2.2 4).bind fun bt504 => (some (bt476.1, bt479.1, bt498.1, bt501.1, bt504.1, bt504.2.1, bt504.2.2))))) else (some (bt476.1, bt479.1, (-1), (-1), (-1), bt483.2.1, bt483.2.2)))))))) = some (r1, r2, r3, r4, r5, r6, r7) := h
 clear h
 replace H := Option.bind_eq_some_iff.mp H
 obtain ⟨⟨t476, t477, t478⟩, A20, H⟩ := H
 replace H : ((spec_l1Below.f s0_0 t477 t478 6).bind fun bt479 => ((spec_l1Below.f s0_0 bt479.2.1 bt479.2.2 4).bind fun bt483 => (if bt483.1 = 0 then ((spec_l1Below.f s0_0 bt483.2.1 bt483.2.2 6).bind fun bt486 => ((spec_l1Below.f s0_0 bt486.2.1 bt486.2.2 4).bind fun bt489 => (some (t476, bt479.1, bt486.1, bt489.1, (-1), bt489.2.1, bt489.2.2)))) else (if bt483.1 = 1 then ((spec_l1Below.f s0_0 bt483.2.1 bt483.2.2 6).bind fun bt492 => ((spec_l1Below.f s0_0 bt492.2.1 bt492.2.2 4).bind fun bt495 => (some (t476, bt479.1, bt492.1, (-1), bt495.1, bt495.2.1, bt495.2.2)))) else (if bt483.1 = 2 then ((spec_l1Below.f s0_0 bt483.2.1 bt483.2.2 6).bind fun bt498 => ((spec_l1Below.f s0_0 bt498.2.1 bt498.2.2 4).bind fun bt501 => ((spec_l1Below.f s0_0 bt501.2.1 bt501.2.2 4).bind fun bt504 => (some (t476, bt479.1, bt498.1, bt501.1, bt504.1, bt504.2.1, bt504.2.2))))) else (some (t476, bt479.1, (-1), (-1), (-1), bt483.2.1, bt483.2.2))))))) = some (r1, r2, r3, r4, r5, r6, r7) := H
 have A2 := Aside0.mk A20
 clear A20
 replace H := Option.bind_eq_some_iff.mp H
 obtain ⟨⟨t479, t480, t481⟩, A30, H⟩ := H
 replace H : ((spec_l1Below.f s0_0 t480 t481 4).bind fun bt483 => (if bt483.1 = 0 then ((spec_l1Below.f s0_0 bt483.2.1 bt483.2.2 6).bind fun bt486 => ((spec_l1Below.f s0_0 bt486.2.1 bt486.2.2 4).bind fun bt489 => (some (t476, t479, bt486.1, bt489.1, (-1), bt489.2.1, bt489.2.2)))) else (if bt483.1 = 1 then ((spec_l1Below.f s0_0 bt483.2.1 bt483.2.2 6).bind fun bt492 => ((spec_l1Below.f s0_0 bt492.2.1 bt492.2.2 4).bind fun bt495 => (some (t476, t479, bt492.1, (-1), bt495.1, bt495.2.1, bt495.2.2)))) else (if bt483.1 = 2 then ((spec_l1Below.f s0_0 bt483.2.1 bt483.2.2 6).bind fun bt498 => ((spec_l1Below.f s0_0 bt498.2.1 bt498.2.2 4).bind fun bt501 => ((spec_l1Below.f s0_0 bt501.2.1 bt501.2.2 4).bind fun bt504 => (some (t476, t479, bt498.1, bt501.1, bt504.1, bt504.2.1, bt504.2.2))))) else (some (t476, t479, (-1), (-1), (-1), bt483.2.1, bt483.2.2)))))) = some (r1, r2, r3, r4, r5, r6, r7) := H
 have A3 := Aside0.mk A30
 clear A30
 replace H := Option.bind_eq_some_iff.mp H
 obtain ⟨⟨t483, t484, t485⟩, A40, H⟩ := H
 replace H : (if t483 = 0 then ((spec_l1Below.f s0_0 t484 t485 6).bind fun bt486 => ((spec_l1Below.f s0_0 bt486.2.1 bt486.2.2 4).bind fun bt489 => (some (t476, t479, bt486.1, bt489.1, (-1), bt489.2.1, bt489.2.2)))) else (if t483 = 1 then ((spec_l1Below.f s0_0 t484 t485 6).bind fun bt492 => ((spec_l1Below.f s0_0 bt492.2.1 bt492.2.2 4).bind fun bt495 => (some (t476, t479, bt492.1, (-1), bt495.1, bt495.2.1, bt495.2.2)))) else (if t483 = 2 then ((spec_l1Below.f s0_0 t484 t485 6).bind fun bt498 => ((spec_l1Below.f s0_0 bt498.2.1 bt498.2.2 4).bind fun bt501 => ((spec_l1Below.f s0_0 bt501.2.1 bt501.2.2 4).bind fun bt504 => (some (t476, t479, bt498.1, bt501.1, bt504.1, bt504.2.1, bt504.2.2))))) else (some (t476, t479, (-1), (-1), (-1), t484, t485))))) = some (r1, r2, r3, r4, r5, r6, r7) := H
 have A4 := Aside0.mk A40
 clear A40
 by_cases c5 : t483 = 0
 ·rw [if_pos c5] at H
  have c5b0 : (t483 == 0) = true := beq_iff_eq.mpr c5
  have c5b1 : (t483 != 0) = false := bne_eq_false_iff_eq.mpr c5
  clear c5
  replace H := Option.bind_eq_some_iff.mp H
  obtain ⟨⟨t486, t487, t488⟩, A60, H⟩ := H
  replace H : ((spec_l1Below.f s0_0 t487 t488 4).bind fun bt489 => (some (t476, t479, t486, bt489.1, (-1), bt489.2.1, bt489.2.2))) = some (r1, r2, r3, r4, r5, r6, r7) := H
  have A6 := Aside0.mk A60
  clear A60
  replace H := Option.bind_eq_some_iff.mp H
  obtain ⟨⟨t489, t490, t491⟩, A70, H⟩ := H
  replace H : (some (t476, t479, t486, t489, (-1), t490, t491)) = some (r1, r2, r3, r4, r5, r6, r7) := H
  have A7 := Aside0.mk A70
  clear A70
  simp only [Option.some.injEq, Prod.mk.injEq] at H
  obtain ⟨rfl, rfl, rfl, rfl, rfl, rfl, rfl⟩ := H
  go_enter Try.func60, Try.ntmps60
  go_wp2_with (first | ((with_reducible refine gate_dst (N := 2) rfl ?_); refine box_event ?hg (N := 2) ?hd (cs := #[.int .i64 0, .int .i64 0, .int .i64 0, .int .i64 0, .int .i64 0]) (t := 31) ?hr ?_; (case hd => rfl); (case hg => rfl); (case hr => first | (go_simp; done) | (go_simp; rfl)); intro gb475 hg w8 hbox hb; have n0_ := Aside0.mk (IsS90.below (zB9_0) hb); have n1_ := Aside0.mk (KeepBut.trans (zB9_2) (KeepBut.of_below hb g none) (.inl rfl)); have n2_ := Aside0.mk (below_step (zB9_1) hb); have n3_ := Aside0.mk (hbox); have n4_ := Aside0.mk ((by rw [hg]; exact (keep_size (w := w) (g := g) (row := none) (zB9_2)) : w.heap.size ≤ gb475)); have n5_ := Aside0.mk ((Nat.le_trans HW0.out (by rw [hg]; exact (keep_size (w := w) (g := g) (row := none) (zB9_2)) : w.heap.size ≤ gb475) : w0.heap.size ≤ gb475)); have n6_ := Aside0.mk ((by rw [hg]; exact Nat.ne_of_lt (IsS90.lt (show IsS90 w0 _ g s0_0 s0_1 s0_2 from zB9_0)) : g ≠ gb475)); have n7_ := Aside0.mk ((by rw [hg]; exact Nat.ne_of_gt (IsS90.lt (show IsS90 w0 _ g s0_0 s0_1 s0_2 from zB9_0)) : gb475 ≠ g)); clear HI0; clear HK; clear HB; have HI0 := n0_; have HK := n1_; have HB := n2_; have BK475 := n3_; have GW475 := n4_; have GE475 := n5_; have NB0_475 := n6_; have NB475_0 := n7_; clear n0_ n1_ n2_ n3_ n4_ n5_ n6_ n7_; clear hb hbox hg) | ((with_reducible refine gate_callee (f := 42) rfl ?_); refine goesL_ (some 5) rfl rfl Try.func42 (by kernel_rfl) rfl #[.pointer (some ⟨g, 0, none⟩), .int .i64 3] rfl zT9 ?_; (with_reducible refine (spec_l1Below.calls g s0_0 s0_1 s0_2 3 t476 t477 t478 w0 _ ?side1 ?side2 A2.out).mono ?_); (case side1 => exact zB9_6); (case side2 => exact zB9_7); rintro e w9 ⟨rfl, hi, hb, hk⟩; refine ⟨_, rfl, ?_⟩; have n0_ := Aside0.mk (zh9 hk BK475.out NB475_0.out); have n1_ := Aside0.mk (KeepBut.trans (zB9_8) hk (.inl rfl)); have n2_ := Aside0.mk (hb); have n3_ := Aside0.mk (hi); clear BK475; clear HK; clear HB; clear HI0; have BK475 := n0_; have HK := n1_; have HB := n2_; have HI0 := n3_; clear n0_ n1_ n2_ n3_; (try clear hb); (try clear hb2); (try clear hk); (try clear hi)) | ((with_reducible refine gate_callee (f := 42) rfl ?_); refine goesL_ (some 7) rfl rfl Try.func42 (by kernel_rfl) rfl #[.pointer (some ⟨g, 0, none⟩), .int .i64 6] rfl zT9 ?_; (with_reducible refine (spec_l1Below.calls g s0_0 t477 t478 6 t479 t480 t481 w0 _ ?side1 ?side2 A3.out).mono ?_); (case side1 => exact zB9_6); (case side2 => exact zB9_7); rintro e w10 ⟨rfl, hi, hb, hk⟩; refine ⟨_, rfl, ?_⟩; have n0_ := Aside0.mk (zh9 hk BK475.out NB475_0.out); have n1_ := Aside0.mk (KeepBut.trans (zB9_8) hk (.inl rfl)); have n2_ := Aside0.mk (hb); have n3_ := Aside0.mk (hi); clear BK475; clear HK; clear HB; clear HI0; have BK475 := n0_; have HK := n1_; have HB := n2_; have HI0 := n3_; clear n0_ n1_ n2_ n3_; (try clear hb); (try clear hb2); (try clear hk); (try clear hi)) | ((with_reducible refine gate_dst (N := 3) rfl ?_); refine box_event ?hg (N := 3) ?hd (cs := #[.int .i64 0, .int .i64 0, .int .i64 0, .int .i64 0, .int .i64 0]) (t := 31) ?hr ?_; (case hd => rfl); (case hg => rfl); (case hr => first | (go_simp; done) | (go_simp; rfl)); intro gb482 hg w11 hbox hb; have n0_ := Aside0.mk (IsS90.below (zB9_6) hb); have n1_ := Aside0.mk (zb9 BK475.out hb); have n2_ := Aside0.mk (KeepBut.trans (zB9_8) (KeepBut.of_below hb g none) (.inl rfl)); have n3_ := Aside0.mk (below_step (zB9_7) hb); have n4_ := Aside0.mk (hbox); have n5_ := Aside0.mk ((by rw [hg]; exact (keep_size (w := w) (g := g) (row := none) (zB9_8)) : w.heap.size ≤ gb482)); have n6_ := Aside0.mk ((Nat.le_trans HW0.out (by rw [hg]; exact (keep_size (w := w) (g := g) (row := none) (zB9_8)) : w.heap.size ≤ gb482) : w0.heap.size ≤ gb482)); have n7_ := Aside0.mk ((zn9 BK475.out hg : gb475 ≠ gb482)); have n8_ := Aside0.mk ((zm9 BK475.out hg : gb482 ≠ gb475)); have n9_ := Aside0.mk ((by rw [hg]; exact Nat.ne_of_lt (IsS90.lt (show IsS90 w0 _ g s0_0 t480 t481 from zB9_6)) : g ≠ gb482)); have n10_ := Aside0.mk ((by rw [hg]; exact Nat.ne_of_gt (IsS90.lt (show IsS90 w0 _ g s0_0 t480 t481 from zB9_6)) : gb482 ≠ g)); clear HI0; clear BK475; clear HK; clear HB; have HI0 := n0_; have BK475 := n1_; have HK := n2_; have HB := n3_; have BK482 := n4_; have GW482 := n5_; have GE482 := n6_; have NB475_482 := n7_; have NB482_475 := n8_; have NB0_482 := n9_; have NB482_0 := n10_; clear n0_ n1_ n2_ n3_ n4_ n5_ n6_ n7_ n8_ n9_ n10_; clear hb hbox hg; have hnb12 := NB482_475.out; have hnc12 := NB475_482.out; have hnb13 := NB482_0.out; have hnc13 := NB0_482.out; obtain ⟨hcz14_0, hcz14_1, hcz14_2, hcz14_3, hcz14_4, hfz14_0, hfz14_1, hfz14_2, hfz14_3, hfz14_4⟩ := zc9_5 (w := w11) BK482.out) | ((with_reducible refine gate_callee (f := 42) rfl ?_); refine goesL_ (some 10) rfl rfl Try.func42 (by kernel_rfl) rfl #[.pointer (some ⟨g, 0, none⟩), .int .i64 4] rfl zT9 ?_; (with_reducible refine (spec_l1Below.calls g s0_0 t480 t481 4 t483 t484 t485 w0 _ ?side1 ?side2 A4.out).mono ?_); (case side1 => exact zB9_9); (case side2 => exact zB9_10); rintro e w15 ⟨rfl, hi, hb, hk⟩; refine ⟨_, rfl, ?_⟩; have n0_ := Aside0.mk (KeepBut.blk hk (g' := gb475) (o := .cells #[.int .i64 0, .int .i64 0, .int .i64 0, .int .i64 0, .int .i64 0] 31 (0, 0)) (by refine zP9 ?_; refine blk_far ?_ NB475_482.out _; refine zP9 ?_; refine blk_far ?_ NB475_482.out _; refine zP9 ?_; refine blk_far ?_ NB475_482.out _; refine zP9 ?_; refine blk_far ?_ NB475_482.out _; refine zP9 ?_; refine blk_far ?_ NB475_482.out _; refine zP9 ?_; exact BK475.out) NB475_0.out (by simp)); have n1_ := Aside0.mk (KeepBut.blk hk (g' := gb482) (o := .cells #[.int .i64 t476, .int .i64 t479, .int .i64 (-1), .int .i64 (-1), .int .i64 (-1)] 31 (0, 0)) (by refine zP9 ?_; refine blk_put (cs := #[.int .i64 t476, .int .i64 t479, .int .i64 (-1), .int .i64 (-1), .int .i64 0]) ?_ 4 _ rfl; refine zP9 ?_; refine blk_put (cs := #[.int .i64 t476, .int .i64 t479, .int .i64 (-1), .int .i64 0, .int .i64 0]) ?_ 3 _ rfl; refine zP9 ?_; refine blk_put (cs := #[.int .i64 t476, .int .i64 t479, .int .i64 0, .int .i64 0, .int .i64 0]) ?_ 2 _ rfl; refine zP9 ?_; refine blk_put (cs := #[.int .i64 t476, .int .i64 0, .int .i64 0, .int .i64 0, .int .i64 0]) ?_ 1 _ rfl; refine zP9 ?_; refine blk_put (cs := #[.int .i64 0, .int .i64 0, .int .i64 0, .int .i64 0, .int .i64 0]) ?_ 0 _ rfl; refine zP9 ?_; exact BK482.out) NB482_0.out (by simp)); have n2_ := Aside0.mk (KeepBut.trans (zB9_11) hk (.inl rfl)); have n3_ := Aside0.mk (hb); have n4_ := Aside0.mk (hi); clear BK475; clear BK482; clear HK; clear HB; clear HI0; have BK475 := n0_; have BK482 := n1_; have HK := n2_; have HB := n3_; have HI0 := n4_; clear n0_ n1_ n2_ n3_ n4_; (try clear hb); (try clear hb2); (try clear hk); (try clear hi)) | ((with_reducible refine gate_callee (f := 42) rfl ?_); refine goesL_ (some 14) rfl rfl Try.func42 (by kernel_rfl) rfl #[.pointer (some ⟨g, 0, none⟩), .int .i64 6] rfl zT9 ?_; (with_reducible refine (spec_l1Below.calls g s0_0 t484 t485 6 t486 t487 t488 w0 _ ?side1 ?side2 A6.out).mono ?_); (case side1 => exact zB9_9); (case side2 => exact zB9_10); rintro e w16 ⟨rfl, hi, hb, hk⟩; refine ⟨_, rfl, ?_⟩; have n0_ := Aside0.mk (zh9 hk BK475.out NB475_0.out); have n1_ := Aside0.mk (zh9 hk BK482.out NB482_0.out); have n2_ := Aside0.mk (KeepBut.trans (zB9_11) hk (.inl rfl)); have n3_ := Aside0.mk (hb); have n4_ := Aside0.mk (hi); clear BK475; clear BK482; clear HK; clear HB; clear HI0; have BK475 := n0_; have BK482 := n1_; have HK := n2_; have HB := n3_; have HI0 := n4_; clear n0_ n1_ n2_ n3_ n4_; (try clear hb); (try clear hb2); (try clear hk); (try clear hi); obtain ⟨hcz17_0, hcz17_1, hcz17_2, hcz17_3, hcz17_4, hfz17_0, hfz17_1, hfz17_2, hfz17_3, hfz17_4⟩ := zc9_5 (w := w16) BK482.out) | ((with_reducible refine gate_callee (f := 42) rfl ?_); refine goesL_ (some 17) rfl rfl Try.func42 (by kernel_rfl) rfl #[.pointer (some ⟨g, 0, none⟩), .int .i64 4] rfl zT9 ?_; (with_reducible refine (spec_l1Below.calls g s0_0 t487 t488 4 t489 t490 t491 w0 _ ?side1 ?side2 A7.out).mono ?_); (case side1 => exact zB9_9); (case side2 => exact zB9_10); rintro e w18 ⟨rfl, hi, hb, hk⟩; refine ⟨_, rfl, ?_⟩; have n0_ := Aside0.mk (KeepBut.blk hk (g' := gb475) (o := .cells #[.int .i64 0, .int .i64 0, .int .i64 0, .int .i64 0, .int .i64 0] 31 (0, 0)) (by refine zP9 ?_; refine blk_far ?_ NB475_482.out _; refine zP9 ?_; exact BK475.out) NB475_0.out (by simp)); have n1_ := Aside0.mk (KeepBut.blk hk (g' := gb482) (o := .cells #[.int .i64 t476, .int .i64 t479, .int .i64 t486, .int .i64 (-1), .int .i64 (-1)] 31 (0, 0)) (by refine zP9 ?_; refine blk_put (cs := #[.int .i64 t476, .int .i64 t479, .int .i64 (-1), .int .i64 (-1), .int .i64 (-1)]) ?_ 2 _ rfl; refine zP9 ?_; exact BK482.out) NB482_0.out (by simp)); have n2_ := Aside0.mk (KeepBut.trans (zB9_11) hk (.inl rfl)); have n3_ := Aside0.mk (hb); have n4_ := Aside0.mk (hi); clear BK475; clear BK482; clear HK; clear HB; clear HI0; have BK475 := n0_; have BK482 := n1_; have HK := n2_; have HB := n3_; have HI0 := n4_; clear n0_ n1_ n2_ n3_ n4_; (try clear hb); (try clear hb2); (try clear hk); (try clear hi); obtain ⟨hcz19_0, hcz19_1, hcz19_2, hcz19_3, hcz19_4, hfz19_0, hfz19_1, hfz19_2, hfz19_3, hfz19_4⟩ := zc9_5 (w := w18) BK482.out; have hnb20 := NB475_0.out; have hnc20 := NB0_475.out; obtain ⟨hcz21_0, hcz21_1, hcz21_2, hcz21_3, hcz21_4, hfz21_0, hfz21_1, hfz21_2, hfz21_3, hfz21_4⟩ := zc9_5 (w := w18) BK475.out))
  refine bodyPost_ret (results_cell_row rfl _ _ gb475 31 #[.int .i64 t476, .int .i64 t479, .int .i64 t486, .int .i64 t489, .int .i64 (-1)] (0, 0) _ rfl (by refine zP9 ?_; refine blk_put (cs := #[.int .i64 t476, .int .i64 t479, .int .i64 t486, .int .i64 t489, .int .i64 0]) ?_ 4 _ rfl; refine zP9 ?_; refine blk_put (cs := #[.int .i64 t476, .int .i64 t479, .int .i64 t486, .int .i64 0, .int .i64 0]) ?_ 3 _ rfl; refine zP9 ?_; refine blk_put (cs := #[.int .i64 t476, .int .i64 t479, .int .i64 0, .int .i64 0, .int .i64 0]) ?_ 2 _ rfl; refine zP9 ?_; refine blk_put (cs := #[.int .i64 t476, .int .i64 0, .int .i64 0, .int .i64 0, .int .i64 0]) ?_ 1 _ rfl; refine zP9 ?_; refine blk_put (cs := #[.int .i64 0, .int .i64 0, .int .i64 0, .int .i64 0, .int .i64 0]) ?_ 0 _ rfl; refine zP9 ?_; refine blk_far ?_ NB475_482.out _; refine zP9 ?_; exact BK475.out) Try.underlying31 rfl (by kernel_rfl)) rfl ?_
  exact ⟨zE9, zB9_9, zB9_10, zB9_11⟩
 rw [if_neg c5] at H
 have c5b0 : (t483 == 0) = false := beq_eq_false_iff_ne.mpr c5
 have c5b1 : (t483 != 0) = true := bne_iff_ne.mpr c5
 by_cases c22 : t483 = 1
 ·rw [if_pos c22] at H
  have c22b0 : (t483 == 1) = true := beq_iff_eq.mpr c22
  have c22b1 : (t483 != 1) = false := bne_eq_false_iff_eq.mpr c22
  clear c22
  replace H := Option.bind_eq_some_iff.mp H
  obtain ⟨⟨t492, t493, t494⟩, A230, H⟩ := H
  replace H : ((spec_l1Below.f s0_0 t493 t494 4).bind fun bt495 => (some (t476, t479, t492, (-1), bt495.1, bt495.2.1, bt495.2.2))) = some (r1, r2, r3, r4, r5, r6, r7) := H
  have A23 := Aside0.mk A230
  clear A230
  replace H := Option.bind_eq_some_iff.mp H
  obtain ⟨⟨t495, t496, t497⟩, A240, H⟩ := H
  replace H : (some (t476, t479, t492, (-1), t495, t496, t497)) = some (r1, r2, r3, r4, r5, r6, r7) := H
  have A24 := Aside0.mk A240
  clear A240
  simp only [Option.some.injEq, Prod.mk.injEq] at H
  obtain ⟨rfl, rfl, rfl, rfl, rfl, rfl, rfl⟩ := H
  go_enter Try.func60, Try.ntmps60
  go_wp2_with (first | ((with_reducible refine gate_dst (N := 2) rfl ?_); refine box_event ?hg (N := 2) ?hd (cs := #[.int .i64 0, .int .i64 0, .int .i64 0, .int .i64 0, .int .i64 0]) (t := 31) ?hr ?_; (case hd => rfl); (case hg => rfl); (case hr => first | (go_simp; done) | (go_simp; rfl)); intro gb475 hg w25 hbox hb; have n0_ := Aside0.mk (IsS90.below (zB9_0) hb); have n1_ := Aside0.mk (KeepBut.trans (zB9_2) (KeepBut.of_below hb g none) (.inl rfl)); have n2_ := Aside0.mk (below_step (zB9_1) hb); have n3_ := Aside0.mk (hbox); have n4_ := Aside0.mk ((by rw [hg]; exact (keep_size (w := w) (g := g) (row := none) (zB9_2)) : w.heap.size ≤ gb475)); have n5_ := Aside0.mk ((Nat.le_trans HW0.out (by rw [hg]; exact (keep_size (w := w) (g := g) (row := none) (zB9_2)) : w.heap.size ≤ gb475) : w0.heap.size ≤ gb475)); have n6_ := Aside0.mk ((by rw [hg]; exact Nat.ne_of_lt (IsS90.lt (show IsS90 w0 _ g s0_0 s0_1 s0_2 from zB9_0)) : g ≠ gb475)); have n7_ := Aside0.mk ((by rw [hg]; exact Nat.ne_of_gt (IsS90.lt (show IsS90 w0 _ g s0_0 s0_1 s0_2 from zB9_0)) : gb475 ≠ g)); clear HI0; clear HK; clear HB; have HI0 := n0_; have HK := n1_; have HB := n2_; have BK475 := n3_; have GW475 := n4_; have GE475 := n5_; have NB0_475 := n6_; have NB475_0 := n7_; clear n0_ n1_ n2_ n3_ n4_ n5_ n6_ n7_; clear hb hbox hg) | ((with_reducible refine gate_callee (f := 42) rfl ?_); refine goesL_ (some 5) rfl rfl Try.func42 (by kernel_rfl) rfl #[.pointer (some ⟨g, 0, none⟩), .int .i64 3] rfl zT9 ?_; (with_reducible refine (spec_l1Below.calls g s0_0 s0_1 s0_2 3 t476 t477 t478 w0 _ ?side1 ?side2 A2.out).mono ?_); (case side1 => exact zB9_6); (case side2 => exact zB9_7); rintro e w26 ⟨rfl, hi, hb, hk⟩; refine ⟨_, rfl, ?_⟩; have n0_ := Aside0.mk (zh9 hk BK475.out NB475_0.out); have n1_ := Aside0.mk (KeepBut.trans (zB9_8) hk (.inl rfl)); have n2_ := Aside0.mk (hb); have n3_ := Aside0.mk (hi); clear BK475; clear HK; clear HB; clear HI0; have BK475 := n0_; have HK := n1_; have HB := n2_; have HI0 := n3_; clear n0_ n1_ n2_ n3_; (try clear hb); (try clear hb2); (try clear hk); (try clear hi)) | ((with_reducible refine gate_callee (f := 42) rfl ?_); refine goesL_ (some 7) rfl rfl Try.func42 (by kernel_rfl) rfl #[.pointer (some ⟨g, 0, none⟩), .int .i64 6] rfl zT9 ?_; (with_reducible refine (spec_l1Below.calls g s0_0 t477 t478 6 t479 t480 t481 w0 _ ?side1 ?side2 A3.out).mono ?_); (case side1 => exact zB9_6); (case side2 => exact zB9_7); rintro e w27 ⟨rfl, hi, hb, hk⟩; refine ⟨_, rfl, ?_⟩; have n0_ := Aside0.mk (zh9 hk BK475.out NB475_0.out); have n1_ := Aside0.mk (KeepBut.trans (zB9_8) hk (.inl rfl)); have n2_ := Aside0.mk (hb); have n3_ := Aside0.mk (hi); clear BK475; clear HK; clear HB; clear HI0; have BK475 := n0_; have HK := n1_; have HB := n2_; have HI0 := n3_; clear n0_ n1_ n2_ n3_; (try clear hb); (try clear hb2); (try clear hk); (try clear hi)) | ((with_reducible refine gate_dst (N := 3) rfl ?_); refine box_event ?hg (N := 3) ?hd (cs := #[.int .i64 0, .int .i64 0, .int .i64 0, .int .i64 0, .int .i64 0]) (t := 31) ?hr ?_; (case hd => rfl); (case hg => rfl); (case hr => first | (go_simp; done) | (go_simp; rfl)); intro gb482 hg w28 hbox hb; have n0_ := Aside0.mk (IsS90.below (zB9_6) hb); have n1_ := Aside0.mk (zb9 BK475.out hb); have n2_ := Aside0.mk (KeepBut.trans (zB9_8) (KeepBut.of_below hb g none) (.inl rfl)); have n3_ := Aside0.mk (below_step (zB9_7) hb); have n4_ := Aside0.mk (hbox); have n5_ := Aside0.mk ((by rw [hg]; exact (keep_size (w := w) (g := g) (row := none) (zB9_8)) : w.heap.size ≤ gb482)); have n6_ := Aside0.mk ((Nat.le_trans HW0.out (by rw [hg]; exact (keep_size (w := w) (g := g) (row := none) (zB9_8)) : w.heap.size ≤ gb482) : w0.heap.size ≤ gb482)); have n7_ := Aside0.mk ((zn9 BK475.out hg : gb475 ≠ gb482)); have n8_ := Aside0.mk ((zm9 BK475.out hg : gb482 ≠ gb475)); have n9_ := Aside0.mk ((by rw [hg]; exact Nat.ne_of_lt (IsS90.lt (show IsS90 w0 _ g s0_0 t480 t481 from zB9_6)) : g ≠ gb482)); have n10_ := Aside0.mk ((by rw [hg]; exact Nat.ne_of_gt (IsS90.lt (show IsS90 w0 _ g s0_0 t480 t481 from zB9_6)) : gb482 ≠ g)); clear HI0; clear BK475; clear HK; clear HB; have HI0 := n0_; have BK475 := n1_; have HK := n2_; have HB := n3_; have BK482 := n4_; have GW482 := n5_; have GE482 := n6_; have NB475_482 := n7_; have NB482_475 := n8_; have NB0_482 := n9_; have NB482_0 := n10_; clear n0_ n1_ n2_ n3_ n4_ n5_ n6_ n7_ n8_ n9_ n10_; clear hb hbox hg; have hnb29 := NB482_475.out; have hnc29 := NB475_482.out; have hnb30 := NB482_0.out; have hnc30 := NB0_482.out; obtain ⟨hcz31_0, hcz31_1, hcz31_2, hcz31_3, hcz31_4, hfz31_0, hfz31_1, hfz31_2, hfz31_3, hfz31_4⟩ := zc9_5 (w := w28) BK482.out) | ((with_reducible refine gate_callee (f := 42) rfl ?_); refine goesL_ (some 10) rfl rfl Try.func42 (by kernel_rfl) rfl #[.pointer (some ⟨g, 0, none⟩), .int .i64 4] rfl zT9 ?_; (with_reducible refine (spec_l1Below.calls g s0_0 t480 t481 4 t483 t484 t485 w0 _ ?side1 ?side2 A4.out).mono ?_); (case side1 => exact zB9_9); (case side2 => exact zB9_10); rintro e w32 ⟨rfl, hi, hb, hk⟩; refine ⟨_, rfl, ?_⟩; have n0_ := Aside0.mk (KeepBut.blk hk (g' := gb475) (o := .cells #[.int .i64 0, .int .i64 0, .int .i64 0, .int .i64 0, .int .i64 0] 31 (0, 0)) (by refine zP9 ?_; refine blk_far ?_ NB475_482.out _; refine zP9 ?_; refine blk_far ?_ NB475_482.out _; refine zP9 ?_; refine blk_far ?_ NB475_482.out _; refine zP9 ?_; refine blk_far ?_ NB475_482.out _; refine zP9 ?_; refine blk_far ?_ NB475_482.out _; refine zP9 ?_; exact BK475.out) NB475_0.out (by simp)); have n1_ := Aside0.mk (KeepBut.blk hk (g' := gb482) (o := .cells #[.int .i64 t476, .int .i64 t479, .int .i64 (-1), .int .i64 (-1), .int .i64 (-1)] 31 (0, 0)) (by refine zP9 ?_; refine blk_put (cs := #[.int .i64 t476, .int .i64 t479, .int .i64 (-1), .int .i64 (-1), .int .i64 0]) ?_ 4 _ rfl; refine zP9 ?_; refine blk_put (cs := #[.int .i64 t476, .int .i64 t479, .int .i64 (-1), .int .i64 0, .int .i64 0]) ?_ 3 _ rfl; refine zP9 ?_; refine blk_put (cs := #[.int .i64 t476, .int .i64 t479, .int .i64 0, .int .i64 0, .int .i64 0]) ?_ 2 _ rfl; refine zP9 ?_; refine blk_put (cs := #[.int .i64 t476, .int .i64 0, .int .i64 0, .int .i64 0, .int .i64 0]) ?_ 1 _ rfl; refine zP9 ?_; refine blk_put (cs := #[.int .i64 0, .int .i64 0, .int .i64 0, .int .i64 0, .int .i64 0]) ?_ 0 _ rfl; refine zP9 ?_; exact BK482.out) NB482_0.out (by simp)); have n2_ := Aside0.mk (KeepBut.trans (zB9_11) hk (.inl rfl)); have n3_ := Aside0.mk (hb); have n4_ := Aside0.mk (hi); clear BK475; clear BK482; clear HK; clear HB; clear HI0; have BK475 := n0_; have BK482 := n1_; have HK := n2_; have HB := n3_; have HI0 := n4_; clear n0_ n1_ n2_ n3_ n4_; (try clear hb); (try clear hb2); (try clear hk); (try clear hi)) | ((with_reducible refine gate_callee (f := 42) rfl ?_); refine goesL_ (some 22) rfl rfl Try.func42 (by kernel_rfl) rfl #[.pointer (some ⟨g, 0, none⟩), .int .i64 6] rfl zT9 ?_; (with_reducible refine (spec_l1Below.calls g s0_0 t484 t485 6 t492 t493 t494 w0 _ ?side1 ?side2 A23.out).mono ?_); (case side1 => exact zB9_9); (case side2 => exact zB9_10); rintro e w33 ⟨rfl, hi, hb, hk⟩; refine ⟨_, rfl, ?_⟩; have n0_ := Aside0.mk (zh9 hk BK475.out NB475_0.out); have n1_ := Aside0.mk (zh9 hk BK482.out NB482_0.out); have n2_ := Aside0.mk (KeepBut.trans (zB9_11) hk (.inl rfl)); have n3_ := Aside0.mk (hb); have n4_ := Aside0.mk (hi); clear BK475; clear BK482; clear HK; clear HB; clear HI0; have BK475 := n0_; have BK482 := n1_; have HK := n2_; have HB := n3_; have HI0 := n4_; clear n0_ n1_ n2_ n3_ n4_; (try clear hb); (try clear hb2); (try clear hk); (try clear hi); obtain ⟨hcz34_0, hcz34_1, hcz34_2, hcz34_3, hcz34_4, hfz34_0, hfz34_1, hfz34_2, hfz34_3, hfz34_4⟩ := zc9_5 (w := w33) BK482.out) | ((with_reducible refine gate_callee (f := 42) rfl ?_); refine goesL_ (some 25) rfl rfl Try.func42 (by kernel_rfl) rfl #[.pointer (some ⟨g, 0, none⟩), .int .i64 4] rfl zT9 ?_; (with_reducible refine (spec_l1Below.calls g s0_0 t493 t494 4 t495 t496 t497 w0 _ ?side1 ?side2 A24.out).mono ?_); (case side1 => exact zB9_9); (case side2 => exact zB9_10); rintro e w35 ⟨rfl, hi, hb, hk⟩; refine ⟨_, rfl, ?_⟩; have n0_ := Aside0.mk (KeepBut.blk hk (g' := gb475) (o := .cells #[.int .i64 0, .int .i64 0, .int .i64 0, .int .i64 0, .int .i64 0] 31 (0, 0)) (by refine zP9 ?_; refine blk_far ?_ NB475_482.out _; refine zP9 ?_; exact BK475.out) NB475_0.out (by simp)); have n1_ := Aside0.mk (KeepBut.blk hk (g' := gb482) (o := .cells #[.int .i64 t476, .int .i64 t479, .int .i64 t492, .int .i64 (-1), .int .i64 (-1)] 31 (0, 0)) (by refine zP9 ?_; refine blk_put (cs := #[.int .i64 t476, .int .i64 t479, .int .i64 (-1), .int .i64 (-1), .int .i64 (-1)]) ?_ 2 _ rfl; refine zP9 ?_; exact BK482.out) NB482_0.out (by simp)); have n2_ := Aside0.mk (KeepBut.trans (zB9_11) hk (.inl rfl)); have n3_ := Aside0.mk (hb); have n4_ := Aside0.mk (hi); clear BK475; clear BK482; clear HK; clear HB; clear HI0; have BK475 := n0_; have BK482 := n1_; have HK := n2_; have HB := n3_; have HI0 := n4_; clear n0_ n1_ n2_ n3_ n4_; (try clear hb); (try clear hb2); (try clear hk); (try clear hi); obtain ⟨hcz36_0, hcz36_1, hcz36_2, hcz36_3, hcz36_4, hfz36_0, hfz36_1, hfz36_2, hfz36_3, hfz36_4⟩ := zc9_5 (w := w35) BK482.out; have hnb37 := NB475_0.out; have hnc37 := NB0_475.out; obtain ⟨hcz38_0, hcz38_1, hcz38_2, hcz38_3, hcz38_4, hfz38_0, hfz38_1, hfz38_2, hfz38_3, hfz38_4⟩ := zc9_5 (w := w35) BK475.out))
  refine bodyPost_ret (results_cell_row rfl _ _ gb475 31 #[.int .i64 t476, .int .i64 t479, .int .i64 t492, .int .i64 (-1), .int .i64 t495] (0, 0) _ rfl (by refine zP9 ?_; refine blk_put (cs := #[.int .i64 t476, .int .i64 t479, .int .i64 t492, .int .i64 (-1), .int .i64 0]) ?_ 4 _ rfl; refine zP9 ?_; refine blk_put (cs := #[.int .i64 t476, .int .i64 t479, .int .i64 t492, .int .i64 0, .int .i64 0]) ?_ 3 _ rfl; refine zP9 ?_; refine blk_put (cs := #[.int .i64 t476, .int .i64 t479, .int .i64 0, .int .i64 0, .int .i64 0]) ?_ 2 _ rfl; refine zP9 ?_; refine blk_put (cs := #[.int .i64 t476, .int .i64 0, .int .i64 0, .int .i64 0, .int .i64 0]) ?_ 1 _ rfl; refine zP9 ?_; refine blk_put (cs := #[.int .i64 0, .int .i64 0, .int .i64 0, .int .i64 0, .int .i64 0]) ?_ 0 _ rfl; refine zP9 ?_; refine blk_far ?_ NB475_482.out _; refine zP9 ?_; exact BK475.out) Try.underlying31 rfl (by kernel_rfl)) rfl ?_
  exact ⟨zE9, zB9_9, zB9_10, zB9_11⟩
 rw [if_neg c22] at H
 have c22b0 : (t483 == 1) = false := beq_eq_false_iff_ne.mpr c22
 have c22b1 : (t483 != 1) = true := bne_iff_ne.mpr c22
 by_cases c39 : t483 = 2
 rotate_left
 ·rw [if_neg c39] at H
  have c39b0 : (t483 == 2) = false := beq_eq_false_iff_ne.mpr c39
  have c39b1 : (t483 != 2) = true := bne_iff_ne.mpr c39
  simp only [Option.some.injEq, Prod.mk.injEq] at H
  obtain ⟨rfl, rfl, rfl, rfl, rfl, rfl, rfl⟩ := H
  go_enter Try.func60, Try.ntmps60
  go_wp2_with (first | ((with_reducible refine gate_dst (N := 2) rfl ?_); refine box_event ?hg (N := 2) ?hd (cs := #[.int .i64 0, .int .i64 0, .int .i64 0, .int .i64 0, .int .i64 0]) (t := 31) ?hr ?_; (case hd => rfl); (case hg => rfl); (case hr => first | (go_simp; done) | (go_simp; rfl)); intro gb475 hg w59 hbox hb; have n0_ := Aside0.mk (IsS90.below (zB9_0) hb); have n1_ := Aside0.mk (KeepBut.trans (zB9_2) (KeepBut.of_below hb g none) (.inl rfl)); have n2_ := Aside0.mk (below_step (zB9_1) hb); have n3_ := Aside0.mk (hbox); have n4_ := Aside0.mk ((by rw [hg]; exact (keep_size (w := w) (g := g) (row := none) (zB9_2)) : w.heap.size ≤ gb475)); have n5_ := Aside0.mk ((Nat.le_trans HW0.out (by rw [hg]; exact (keep_size (w := w) (g := g) (row := none) (zB9_2)) : w.heap.size ≤ gb475) : w0.heap.size ≤ gb475)); have n6_ := Aside0.mk ((by rw [hg]; exact Nat.ne_of_lt (IsS90.lt (show IsS90 w0 _ g s0_0 s0_1 s0_2 from zB9_0)) : g ≠ gb475)); have n7_ := Aside0.mk ((by rw [hg]; exact Nat.ne_of_gt (IsS90.lt (show IsS90 w0 _ g s0_0 s0_1 s0_2 from zB9_0)) : gb475 ≠ g)); clear HI0; clear HK; clear HB; have HI0 := n0_; have HK := n1_; have HB := n2_; have BK475 := n3_; have GW475 := n4_; have GE475 := n5_; have NB0_475 := n6_; have NB475_0 := n7_; clear n0_ n1_ n2_ n3_ n4_ n5_ n6_ n7_; clear hb hbox hg) | ((with_reducible refine gate_callee (f := 42) rfl ?_); refine goesL_ (some 5) rfl rfl Try.func42 (by kernel_rfl) rfl #[.pointer (some ⟨g, 0, none⟩), .int .i64 3] rfl zT9 ?_; (with_reducible refine (spec_l1Below.calls g s0_0 s0_1 s0_2 3 t476 t477 t478 w0 _ ?side1 ?side2 A2.out).mono ?_); (case side1 => exact zB9_6); (case side2 => exact zB9_7); rintro e w60 ⟨rfl, hi, hb, hk⟩; refine ⟨_, rfl, ?_⟩; have n0_ := Aside0.mk (zh9 hk BK475.out NB475_0.out); have n1_ := Aside0.mk (KeepBut.trans (zB9_8) hk (.inl rfl)); have n2_ := Aside0.mk (hb); have n3_ := Aside0.mk (hi); clear BK475; clear HK; clear HB; clear HI0; have BK475 := n0_; have HK := n1_; have HB := n2_; have HI0 := n3_; clear n0_ n1_ n2_ n3_; (try clear hb); (try clear hb2); (try clear hk); (try clear hi)) | ((with_reducible refine gate_callee (f := 42) rfl ?_); refine goesL_ (some 7) rfl rfl Try.func42 (by kernel_rfl) rfl #[.pointer (some ⟨g, 0, none⟩), .int .i64 6] rfl zT9 ?_; (with_reducible refine (spec_l1Below.calls g s0_0 t477 t478 6 t479 t480 t481 w0 _ ?side1 ?side2 A3.out).mono ?_); (case side1 => exact zB9_6); (case side2 => exact zB9_7); rintro e w61 ⟨rfl, hi, hb, hk⟩; refine ⟨_, rfl, ?_⟩; have n0_ := Aside0.mk (zh9 hk BK475.out NB475_0.out); have n1_ := Aside0.mk (KeepBut.trans (zB9_8) hk (.inl rfl)); have n2_ := Aside0.mk (hb); have n3_ := Aside0.mk (hi); clear BK475; clear HK; clear HB; clear HI0; have BK475 := n0_; have HK := n1_; have HB := n2_; have HI0 := n3_; clear n0_ n1_ n2_ n3_; (try clear hb); (try clear hb2); (try clear hk); (try clear hi)) | ((with_reducible refine gate_dst (N := 3) rfl ?_); refine box_event ?hg (N := 3) ?hd (cs := #[.int .i64 0, .int .i64 0, .int .i64 0, .int .i64 0, .int .i64 0]) (t := 31) ?hr ?_; (case hd => rfl); (case hg => rfl); (case hr => first | (go_simp; done) | (go_simp; rfl)); intro gb482 hg w62 hbox hb; have n0_ := Aside0.mk (IsS90.below (zB9_6) hb); have n1_ := Aside0.mk (zb9 BK475.out hb); have n2_ := Aside0.mk (KeepBut.trans (zB9_8) (KeepBut.of_below hb g none) (.inl rfl)); have n3_ := Aside0.mk (below_step (zB9_7) hb); have n4_ := Aside0.mk (hbox); have n5_ := Aside0.mk ((by rw [hg]; exact (keep_size (w := w) (g := g) (row := none) (zB9_8)) : w.heap.size ≤ gb482)); have n6_ := Aside0.mk ((Nat.le_trans HW0.out (by rw [hg]; exact (keep_size (w := w) (g := g) (row := none) (zB9_8)) : w.heap.size ≤ gb482) : w0.heap.size ≤ gb482)); have n7_ := Aside0.mk ((zn9 BK475.out hg : gb475 ≠ gb482)); have n8_ := Aside0.mk ((zm9 BK475.out hg : gb482 ≠ gb475)); have n9_ := Aside0.mk ((by rw [hg]; exact Nat.ne_of_lt (IsS90.lt (show IsS90 w0 _ g s0_0 t480 t481 from zB9_6)) : g ≠ gb482)); have n10_ := Aside0.mk ((by rw [hg]; exact Nat.ne_of_gt (IsS90.lt (show IsS90 w0 _ g s0_0 t480 t481 from zB9_6)) : gb482 ≠ g)); clear HI0; clear BK475; clear HK; clear HB; have HI0 := n0_; have BK475 := n1_; have HK := n2_; have HB := n3_; have BK482 := n4_; have GW482 := n5_; have GE482 := n6_; have NB475_482 := n7_; have NB482_475 := n8_; have NB0_482 := n9_; have NB482_0 := n10_; clear n0_ n1_ n2_ n3_ n4_ n5_ n6_ n7_ n8_ n9_ n10_; clear hb hbox hg; have hnb63 := NB482_475.out; have hnc63 := NB475_482.out; have hnb64 := NB482_0.out; have hnc64 := NB0_482.out; obtain ⟨hcz65_0, hcz65_1, hcz65_2, hcz65_3, hcz65_4, hfz65_0, hfz65_1, hfz65_2, hfz65_3, hfz65_4⟩ := zc9_5 (w := w62) BK482.out) | ((with_reducible refine gate_callee (f := 42) rfl ?_); refine goesL_ (some 10) rfl rfl Try.func42 (by kernel_rfl) rfl #[.pointer (some ⟨g, 0, none⟩), .int .i64 4] rfl zT9 ?_; (with_reducible refine (spec_l1Below.calls g s0_0 t480 t481 4 t483 t484 t485 w0 _ ?side1 ?side2 A4.out).mono ?_); (case side1 => exact zB9_9); (case side2 => exact zB9_10); rintro e w66 ⟨rfl, hi, hb, hk⟩; refine ⟨_, rfl, ?_⟩; have n0_ := Aside0.mk (KeepBut.blk hk (g' := gb475) (o := .cells #[.int .i64 0, .int .i64 0, .int .i64 0, .int .i64 0, .int .i64 0] 31 (0, 0)) (by refine zP9 ?_; refine blk_far ?_ NB475_482.out _; refine zP9 ?_; refine blk_far ?_ NB475_482.out _; refine zP9 ?_; refine blk_far ?_ NB475_482.out _; refine zP9 ?_; refine blk_far ?_ NB475_482.out _; refine zP9 ?_; refine blk_far ?_ NB475_482.out _; refine zP9 ?_; exact BK475.out) NB475_0.out (by simp)); have n1_ := Aside0.mk (KeepBut.blk hk (g' := gb482) (o := .cells #[.int .i64 t476, .int .i64 t479, .int .i64 (-1), .int .i64 (-1), .int .i64 (-1)] 31 (0, 0)) (by refine zP9 ?_; refine blk_put (cs := #[.int .i64 t476, .int .i64 t479, .int .i64 (-1), .int .i64 (-1), .int .i64 0]) ?_ 4 _ rfl; refine zP9 ?_; refine blk_put (cs := #[.int .i64 t476, .int .i64 t479, .int .i64 (-1), .int .i64 0, .int .i64 0]) ?_ 3 _ rfl; refine zP9 ?_; refine blk_put (cs := #[.int .i64 t476, .int .i64 t479, .int .i64 0, .int .i64 0, .int .i64 0]) ?_ 2 _ rfl; refine zP9 ?_; refine blk_put (cs := #[.int .i64 t476, .int .i64 0, .int .i64 0, .int .i64 0, .int .i64 0]) ?_ 1 _ rfl; refine zP9 ?_; refine blk_put (cs := #[.int .i64 0, .int .i64 0, .int .i64 0, .int .i64 0, .int .i64 0]) ?_ 0 _ rfl; refine zP9 ?_; exact BK482.out) NB482_0.out (by simp)); have n2_ := Aside0.mk (KeepBut.trans (zB9_11) hk (.inl rfl)); have n3_ := Aside0.mk (hb); have n4_ := Aside0.mk (hi); clear BK475; clear BK482; clear HK; clear HB; clear HI0; have BK475 := n0_; have BK482 := n1_; have HK := n2_; have HB := n3_; have HI0 := n4_; clear n0_ n1_ n2_ n3_ n4_; (try clear hb); (try clear hb2); (try clear hk); (try clear hi); obtain ⟨hcz67_0, hcz67_1, hcz67_2, hcz67_3, hcz67_4, hfz67_0, hfz67_1, hfz67_2, hfz67_3, hfz67_4⟩ := zc9_5 (w := w66) BK482.out; have hnb68 := NB475_0.out; have hnc68 := NB0_475.out; obtain ⟨hcz69_0, hcz69_1, hcz69_2, hcz69_3, hcz69_4, hfz69_0, hfz69_1, hfz69_2, hfz69_3, hfz69_4⟩ := zc9_5 (w := w66) BK475.out))
  refine bodyPost_ret (results_cell_row rfl _ _ gb475 31 #[.int .i64 t476, .int .i64 t479, .int .i64 (-1), .int .i64 (-1), .int .i64 (-1)] (0, 0) _ rfl (by refine zP9 ?_; refine blk_put (cs := #[.int .i64 t476, .int .i64 t479, .int .i64 (-1), .int .i64 (-1), .int .i64 0]) ?_ 4 _ rfl; refine zP9 ?_; refine blk_put (cs := #[.int .i64 t476, .int .i64 t479, .int .i64 (-1), .int .i64 0, .int .i64 0]) ?_ 3 _ rfl; refine zP9 ?_; refine blk_put (cs := #[.int .i64 t476, .int .i64 t479, .int .i64 0, .int .i64 0, .int .i64 0]) ?_ 2 _ rfl; refine zP9 ?_; refine blk_put (cs := #[.int .i64 t476, .int .i64 0, .int .i64 0, .int .i64 0, .int .i64 0]) ?_ 1 _ rfl; refine zP9 ?_; refine blk_put (cs := #[.int .i64 0, .int .i64 0, .int .i64 0, .int .i64 0, .int .i64 0]) ?_ 0 _ rfl; refine zP9 ?_; exact BK475.out) Try.underlying31 rfl (by kernel_rfl)) rfl ?_
  exact ⟨zE9, zB9_9, zB9_10, zB9_11⟩
 rw [if_pos c39] at H
 have c39b0 : (t483 == 2) = true := beq_iff_eq.mpr c39
 have c39b1 : (t483 != 2) = false := bne_eq_false_iff_eq.mpr c39
 clear c39
 replace H := Option.bind_eq_some_iff.mp H
 obtain ⟨⟨t498, t499, t500⟩, A400, H⟩ := H
 replace H : ((spec_l1Below.f s0_0 t499 t500 4).bind fun bt501 => ((spec_l1Below.f s0_0 bt501.2.1 bt501.2.2 4).bind fun bt504 => (some (t476, t479, t498, bt501.1, bt504.1, bt504.2.1, bt504.2.2)))) = some (r1, r2, r3, r4, r5, r6, r7) := H
 have A40 := Aside0.mk A400
 clear A400
 replace H := Option.bind_eq_some_iff.mp H
 obtain ⟨⟨t501, t502, t503⟩, A410, H⟩ := H
 replace H : ((spec_l1Below.f s0_0 t502 t503 4).bind fun bt504 => (some (t476, t479, t498, t501, bt504.1, bt504.2.1, bt504.2.2))) = some (r1, r2, r3, r4, r5, r6, r7) := H
 have A41 := Aside0.mk A410
 clear A410
 replace H := Option.bind_eq_some_iff.mp H
 obtain ⟨⟨t504, t505, t506⟩, A420, H⟩ := H
 replace H : (some (t476, t479, t498, t501, t504, t505, t506)) = some (r1, r2, r3, r4, r5, r6, r7) := H
 have A42 := Aside0.mk A420
 clear A420
 simp only [Option.some.injEq, Prod.mk.injEq] at H
 obtain ⟨rfl, rfl, rfl, rfl, rfl, rfl, rfl⟩ := H
 go_enter Try.func60, Try.ntmps60
 go_wp2_with (first | ((with_reducible refine gate_dst (N := 2) rfl ?_); refine box_event ?hg (N := 2) ?hd (cs := #[.int .i64 0, .int .i64 0, .int .i64 0, .int .i64 0, .int .i64 0]) (t := 31) ?hr ?_; (case hd => rfl); (case hg => rfl); (case hr => first | (go_simp; done) | (go_simp; rfl)); intro gb475 hg w43 hbox hb; have n0_ := Aside0.mk (IsS90.below (zB9_0) hb); have n1_ := Aside0.mk (KeepBut.trans (zB9_2) (KeepBut.of_below hb g none) (.inl rfl)); have n2_ := Aside0.mk (below_step (zB9_1) hb); have n3_ := Aside0.mk (hbox); have n4_ := Aside0.mk ((by rw [hg]; exact (keep_size (w := w) (g := g) (row := none) (zB9_2)) : w.heap.size ≤ gb475)); have n5_ := Aside0.mk ((Nat.le_trans HW0.out (by rw [hg]; exact (keep_size (w := w) (g := g) (row := none) (zB9_2)) : w.heap.size ≤ gb475) : w0.heap.size ≤ gb475)); have n6_ := Aside0.mk ((by rw [hg]; exact Nat.ne_of_lt (IsS90.lt (show IsS90 w0 _ g s0_0 s0_1 s0_2 from zB9_0)) : g ≠ gb475)); have n7_ := Aside0.mk ((by rw [hg]; exact Nat.ne_of_gt (IsS90.lt (show IsS90 w0 _ g s0_0 s0_1 s0_2 from zB9_0)) : gb475 ≠ g)); clear HI0; clear HK; clear HB; have HI0 := n0_; have HK := n1_; have HB := n2_; have BK475 := n3_; have GW475 := n4_; have GE475 := n5_; have NB0_475 := n6_; have NB475_0 := n7_; clear n0_ n1_ n2_ n3_ n4_ n5_ n6_ n7_; clear hb hbox hg) | ((with_reducible refine gate_callee (f := 42) rfl ?_); refine goesL_ (some 5) rfl rfl Try.func42 (by kernel_rfl) rfl #[.pointer (some ⟨g, 0, none⟩), .int .i64 3] rfl zT9 ?_; (with_reducible refine (spec_l1Below.calls g s0_0 s0_1 s0_2 3 t476 t477 t478 w0 _ ?side1 ?side2 A2.out).mono ?_); (case side1 => exact zB9_6); (case side2 => exact zB9_7); rintro e w44 ⟨rfl, hi, hb, hk⟩; refine ⟨_, rfl, ?_⟩; have n0_ := Aside0.mk (zh9 hk BK475.out NB475_0.out); have n1_ := Aside0.mk (KeepBut.trans (zB9_8) hk (.inl rfl)); have n2_ := Aside0.mk (hb); have n3_ := Aside0.mk (hi); clear BK475; clear HK; clear HB; clear HI0; have BK475 := n0_; have HK := n1_; have HB := n2_; have HI0 := n3_; clear n0_ n1_ n2_ n3_; (try clear hb); (try clear hb2); (try clear hk); (try clear hi)) | ((with_reducible refine gate_callee (f := 42) rfl ?_); refine goesL_ (some 7) rfl rfl Try.func42 (by kernel_rfl) rfl #[.pointer (some ⟨g, 0, none⟩), .int .i64 6] rfl zT9 ?_; (with_reducible refine (spec_l1Below.calls g s0_0 t477 t478 6 t479 t480 t481 w0 _ ?side1 ?side2 A3.out).mono ?_); (case side1 => exact zB9_6); (case side2 => exact zB9_7); rintro e w45 ⟨rfl, hi, hb, hk⟩; refine ⟨_, rfl, ?_⟩; have n0_ := Aside0.mk (zh9 hk BK475.out NB475_0.out); have n1_ := Aside0.mk (KeepBut.trans (zB9_8) hk (.inl rfl)); have n2_ := Aside0.mk (hb); have n3_ := Aside0.mk (hi); clear BK475; clear HK; clear HB; clear HI0; have BK475 := n0_; have HK := n1_; have HB := n2_; have HI0 := n3_; clear n0_ n1_ n2_ n3_; (try clear hb); (try clear hb2); (try clear hk); (try clear hi)) | ((with_reducible refine gate_dst (N := 3) rfl ?_); refine box_event ?hg (N := 3) ?hd (cs := #[.int .i64 0, .int .i64 0, .int .i64 0, .int .i64 0, .int .i64 0]) (t := 31) ?hr ?_; (case hd => rfl); (case hg => rfl); (case hr => first | (go_simp; done) | (go_simp; rfl)); intro gb482 hg w46 hbox hb; have n0_ := Aside0.mk (IsS90.below (zB9_6) hb); have n1_ := Aside0.mk (zb9 BK475.out hb); have n2_ := Aside0.mk (KeepBut.trans (zB9_8) (KeepBut.of_below hb g none) (.inl rfl)); have n3_ := Aside0.mk (below_step (zB9_7) hb); have n4_ := Aside0.mk (hbox); have n5_ := Aside0.mk ((by rw [hg]; exact (keep_size (w := w) (g := g) (row := none) (zB9_8)) : w.heap.size ≤ gb482)); have n6_ := Aside0.mk ((Nat.le_trans HW0.out (by rw [hg]; exact (keep_size (w := w) (g := g) (row := none) (zB9_8)) : w.heap.size ≤ gb482) : w0.heap.size ≤ gb482)); have n7_ := Aside0.mk ((zn9 BK475.out hg : gb475 ≠ gb482)); have n8_ := Aside0.mk ((zm9 BK475.out hg : gb482 ≠ gb475)); have n9_ := Aside0.mk ((by rw [hg]; exact Nat.ne_of_lt (IsS90.lt (show IsS90 w0 _ g s0_0 t480 t481 from zB9_6)) : g ≠ gb482)); have n10_ := Aside0.mk ((by rw [hg]; exact Nat.ne_of_gt (IsS90.lt (show IsS90 w0 _ g s0_0 t480 t481 from zB9_6)) : gb482 ≠ g)); clear HI0; clear BK475; clear HK; clear HB; have HI0 := n0_; have BK475 := n1_; have HK := n2_; have HB := n3_; have BK482 := n4_; have GW482 := n5_; have GE482 := n6_; have NB475_482 := n7_; have NB482_475 := n8_; have NB0_482 := n9_; have NB482_0 := n10_; clear n0_ n1_ n2_ n3_ n4_ n5_ n6_ n7_ n8_ n9_ n10_; clear hb hbox hg; have hnb47 := NB482_475.out; have hnc47 := NB475_482.out; have hnb48 := NB482_0.out; have hnc48 := NB0_482.out; obtain ⟨hcz49_0, hcz49_1, hcz49_2, hcz49_3, hcz49_4, hfz49_0, hfz49_1, hfz49_2, hfz49_3, hfz49_4⟩ := zc9_5 (w := w46) BK482.out) | ((with_reducible refine gate_callee (f := 42) rfl ?_); refine goesL_ (some 10) rfl rfl Try.func42 (by kernel_rfl) rfl #[.pointer (some ⟨g, 0, none⟩), .int .i64 4] rfl zT9 ?_; (with_reducible refine (spec_l1Below.calls g s0_0 t480 t481 4 t483 t484 t485 w0 _ ?side1 ?side2 A4.out).mono ?_); (case side1 => exact zB9_9); (case side2 => exact zB9_10); rintro e w50 ⟨rfl, hi, hb, hk⟩; refine ⟨_, rfl, ?_⟩; have n0_ := Aside0.mk (KeepBut.blk hk (g' := gb475) (o := .cells #[.int .i64 0, .int .i64 0, .int .i64 0, .int .i64 0, .int .i64 0] 31 (0, 0)) (by refine zP9 ?_; refine blk_far ?_ NB475_482.out _; refine zP9 ?_; refine blk_far ?_ NB475_482.out _; refine zP9 ?_; refine blk_far ?_ NB475_482.out _; refine zP9 ?_; refine blk_far ?_ NB475_482.out _; refine zP9 ?_; refine blk_far ?_ NB475_482.out _; refine zP9 ?_; exact BK475.out) NB475_0.out (by simp)); have n1_ := Aside0.mk (KeepBut.blk hk (g' := gb482) (o := .cells #[.int .i64 t476, .int .i64 t479, .int .i64 (-1), .int .i64 (-1), .int .i64 (-1)] 31 (0, 0)) (by refine zP9 ?_; refine blk_put (cs := #[.int .i64 t476, .int .i64 t479, .int .i64 (-1), .int .i64 (-1), .int .i64 0]) ?_ 4 _ rfl; refine zP9 ?_; refine blk_put (cs := #[.int .i64 t476, .int .i64 t479, .int .i64 (-1), .int .i64 0, .int .i64 0]) ?_ 3 _ rfl; refine zP9 ?_; refine blk_put (cs := #[.int .i64 t476, .int .i64 t479, .int .i64 0, .int .i64 0, .int .i64 0]) ?_ 2 _ rfl; refine zP9 ?_; refine blk_put (cs := #[.int .i64 t476, .int .i64 0, .int .i64 0, .int .i64 0, .int .i64 0]) ?_ 1 _ rfl; refine zP9 ?_; refine blk_put (cs := #[.int .i64 0, .int .i64 0, .int .i64 0, .int .i64 0, .int .i64 0]) ?_ 0 _ rfl; refine zP9 ?_; exact BK482.out) NB482_0.out (by simp)); have n2_ := Aside0.mk (KeepBut.trans (zB9_11) hk (.inl rfl)); have n3_ := Aside0.mk (hb); have n4_ := Aside0.mk (hi); clear BK475; clear BK482; clear HK; clear HB; clear HI0; have BK475 := n0_; have BK482 := n1_; have HK := n2_; have HB := n3_; have HI0 := n4_; clear n0_ n1_ n2_ n3_ n4_; (try clear hb); (try clear hb2); (try clear hk); (try clear hi)) | ((with_reducible refine gate_callee (f := 42) rfl ?_); refine goesL_ (some 30) rfl rfl Try.func42 (by kernel_rfl) rfl #[.pointer (some ⟨g, 0, none⟩), .int .i64 6] rfl zT9 ?_; (with_reducible refine (spec_l1Below.calls g s0_0 t484 t485 6 t498 t499 t500 w0 _ ?side1 ?side2 A40.out).mono ?_); (case side1 => exact zB9_9); (case side2 => exact zB9_10); rintro e w51 ⟨rfl, hi, hb, hk⟩; refine ⟨_, rfl, ?_⟩; have n0_ := Aside0.mk (zh9 hk BK475.out NB475_0.out); have n1_ := Aside0.mk (zh9 hk BK482.out NB482_0.out); have n2_ := Aside0.mk (KeepBut.trans (zB9_11) hk (.inl rfl)); have n3_ := Aside0.mk (hb); have n4_ := Aside0.mk (hi); clear BK475; clear BK482; clear HK; clear HB; clear HI0; have BK475 := n0_; have BK482 := n1_; have HK := n2_; have HB := n3_; have HI0 := n4_; clear n0_ n1_ n2_ n3_ n4_; (try clear hb); (try clear hb2); (try clear hk); (try clear hi); obtain ⟨hcz52_0, hcz52_1, hcz52_2, hcz52_3, hcz52_4, hfz52_0, hfz52_1, hfz52_2, hfz52_3, hfz52_4⟩ := zc9_5 (w := w51) BK482.out) | ((with_reducible refine gate_callee (f := 42) rfl ?_); refine goesL_ (some 33) rfl rfl Try.func42 (by kernel_rfl) rfl #[.pointer (some ⟨g, 0, none⟩), .int .i64 4] rfl zT9 ?_; (with_reducible refine (spec_l1Below.calls g s0_0 t499 t500 4 t501 t502 t503 w0 _ ?side1 ?side2 A41.out).mono ?_); (case side1 => exact zB9_9); (case side2 => exact zB9_10); rintro e w53 ⟨rfl, hi, hb, hk⟩; refine ⟨_, rfl, ?_⟩; have n0_ := Aside0.mk (KeepBut.blk hk (g' := gb475) (o := .cells #[.int .i64 0, .int .i64 0, .int .i64 0, .int .i64 0, .int .i64 0] 31 (0, 0)) (by refine zP9 ?_; refine blk_far ?_ NB475_482.out _; refine zP9 ?_; exact BK475.out) NB475_0.out (by simp)); have n1_ := Aside0.mk (KeepBut.blk hk (g' := gb482) (o := .cells #[.int .i64 t476, .int .i64 t479, .int .i64 t498, .int .i64 (-1), .int .i64 (-1)] 31 (0, 0)) (by refine zP9 ?_; refine blk_put (cs := #[.int .i64 t476, .int .i64 t479, .int .i64 (-1), .int .i64 (-1), .int .i64 (-1)]) ?_ 2 _ rfl; refine zP9 ?_; exact BK482.out) NB482_0.out (by simp)); have n2_ := Aside0.mk (KeepBut.trans (zB9_11) hk (.inl rfl)); have n3_ := Aside0.mk (hb); have n4_ := Aside0.mk (hi); clear BK475; clear BK482; clear HK; clear HB; clear HI0; have BK475 := n0_; have BK482 := n1_; have HK := n2_; have HB := n3_; have HI0 := n4_; clear n0_ n1_ n2_ n3_ n4_; (try clear hb); (try clear hb2); (try clear hk); (try clear hi); obtain ⟨hcz54_0, hcz54_1, hcz54_2, hcz54_3, hcz54_4, hfz54_0, hfz54_1, hfz54_2, hfz54_3, hfz54_4⟩ := zc9_5 (w := w53) BK482.out) | ((with_reducible refine gate_callee (f := 42) rfl ?_); refine goesL_ (some 36) rfl rfl Try.func42 (by kernel_rfl) rfl #[.pointer (some ⟨g, 0, none⟩), .int .i64 4] rfl zT9 ?_; (with_reducible refine (spec_l1Below.calls g s0_0 t502 t503 4 t504 t505 t506 w0 _ ?side1 ?side2 A42.out).mono ?_); (case side1 => exact zB9_9); (case side2 => exact zB9_10); rintro e w55 ⟨rfl, hi, hb, hk⟩; refine ⟨_, rfl, ?_⟩; have n0_ := Aside0.mk (KeepBut.blk hk (g' := gb475) (o := .cells #[.int .i64 0, .int .i64 0, .int .i64 0, .int .i64 0, .int .i64 0] 31 (0, 0)) (by refine zP9 ?_; refine blk_far ?_ NB475_482.out _; refine zP9 ?_; exact BK475.out) NB475_0.out (by simp)); have n1_ := Aside0.mk (KeepBut.blk hk (g' := gb482) (o := .cells #[.int .i64 t476, .int .i64 t479, .int .i64 t498, .int .i64 t501, .int .i64 (-1)] 31 (0, 0)) (by refine zP9 ?_; refine blk_put (cs := #[.int .i64 t476, .int .i64 t479, .int .i64 t498, .int .i64 (-1), .int .i64 (-1)]) ?_ 3 _ rfl; refine zP9 ?_; exact BK482.out) NB482_0.out (by simp)); have n2_ := Aside0.mk (KeepBut.trans (zB9_11) hk (.inl rfl)); have n3_ := Aside0.mk (hb); have n4_ := Aside0.mk (hi); clear BK475; clear BK482; clear HK; clear HB; clear HI0; have BK475 := n0_; have BK482 := n1_; have HK := n2_; have HB := n3_; have HI0 := n4_; clear n0_ n1_ n2_ n3_ n4_; (try clear hb); (try clear hb2); (try clear hk); (try clear hi); obtain ⟨hcz56_0, hcz56_1, hcz56_2, hcz56_3, hcz56_4, hfz56_0, hfz56_1, hfz56_2, hfz56_3, hfz56_4⟩ := zc9_5 (w := w55) BK482.out; have hnb57 := NB475_0.out; have hnc57 := NB0_475.out; obtain ⟨hcz58_0, hcz58_1, hcz58_2, hcz58_3, hcz58_4, hfz58_0, hfz58_1, hfz58_2, hfz58_3, hfz58_4⟩ := zc9_5 (w := w55) BK475.out))
 refine bodyPost_ret (results_cell_row rfl _ _ gb475 31 #[.int .i64 t476, .int .i64 t479, .int .i64 t498, .int .i64 t501, .int .i64 t504] (0, 0) _ rfl (by refine zP9 ?_; refine blk_put (cs := #[.int .i64 t476, .int .i64 t479, .int .i64 t498, .int .i64 t501, .int .i64 0]) ?_ 4 _ rfl; refine zP9 ?_; refine blk_put (cs := #[.int .i64 t476, .int .i64 t479, .int .i64 t498, .int .i64 0, .int .i64 0]) ?_ 3 _ rfl; refine zP9 ?_; refine blk_put (cs := #[.int .i64 t476, .int .i64 t479, .int .i64 0, .int .i64 0, .int .i64 0]) ?_ 2 _ rfl; refine zP9 ?_; refine blk_put (cs := #[.int .i64 t476, .int .i64 0, .int .i64 0, .int .i64 0, .int .i64 0]) ?_ 1 _ rfl; refine zP9 ?_; refine blk_put (cs := #[.int .i64 0, .int .i64 0, .int .i64 0, .int .i64 0, .int .i64 0]) ?_ 0 _ rfl; refine zP9 ?_; refine blk_far ?_ NB475_482.out _; refine zP9 ?_; exact BK475.out) Try.underlying31 rfl (by kernel_rfl)) rfl ?_
 exact ⟨zE9, zB9_9, zB9_10, zB9_11⟩

/-! ### spec_l20Draw: function 29 -/
def spec_l20Draw.l0 : Nat → List (S31) → Int → List Int → Int → Int → Option (Int × (List (S31)) × Int × Int)
 | 0, _, _, _, _, _ => none
 | k + 1, x7, x8, x1000, x1001, x1002 => (spec_l1Below.f x1000 x1001 x1002 9).bind fun bt527 => (if x8 < bt527.1 then ((spec_l19DrawEvent.f x1000 bt527.2.1 bt527.2.2).bind fun bt530 => (if x7.length < 3518437208883 then (spec_l20Draw.l0 k (x7 ++ [(⟨bt530.1, bt530.2.1, bt530.2.2.1, bt530.2.2.2.1, bt530.2.2.2.2.1⟩ : S31)]) (wrap64 (x8 + 1)) x1000 bt530.2.2.2.2.2.1 bt530.2.2.2.2.2.2) else (none))) else ((spec_l1PickInt.f x1000 bt527.2.1 bt527.2.2 (([3, 3, 3, 2, 8, 9, 0, (-1)] : List Int))).bind fun bt543 => (some (bt543.1, x7, bt543.2.1, bt543.2.2))))
def spec_l20Draw.f (k : Nat) (s0_0 : List Int) (s0_1 : Int) (s0_2 : Int) : Option (Int × (List (S31)) × Int × Int) := (spec_l1Once.f s0_0 s0_1 s0_2 2).bind fun bt507 => (if bt507.1 = true then ((spec_l18DrawRun.f k s0_0 bt507.2.1 bt507.2.2 20).bind fun bt510 => ((spec_Trace.f k bt510.1 bt510.2.1 bt510.2.2.1).bind fun t521 => (some ((bt510.2.1.length : Int), t521, bt510.2.2.2.1, bt510.2.2.2.2)))) else (spec_l20Draw.l0 k (([] : List (S31))) 0 s0_0 bt507.2.1 bt507.2.2))
theorem spec_l20Draw.mono_l : ∀ k, (∀ y0 y1 y2 y3 y4, LeO (spec_l20Draw.l0 k y0 y1 y2 y3 y4) (spec_l20Draw.l0 (k + 1) y0 y1 y2 y3 y4))
 | 0 => fun _ _ _ _ _ r h => by simp [spec_l20Draw.l0] at h
 | k + 1 => by
  have ih0 := spec_l20Draw.mono_l k
  ·intro y0 y1 y2 y3 y4
   unfold spec_l20Draw.l0
   repeat' first
   | (with_reducible exact ih0 _ _ _ _ _)
   | (with_reducible exact spec_Trace.mono _ _ _ _)
   | (with_reducible exact spec_l18DrawRun.mono _ _ _ _ _)
   | (with_reducible exact LeO.refl _)
   | (with_reducible exact LeO.none _)
   | (with_reducible refine LeO.ite ?_ ?_)
   | (with_reducible refine LeO.bind ?_ (fun _ => ?_))
   | exact ih0 _ _ _ _ _
   | exact spec_Trace.mono _ _ _ _
   | exact spec_l18DrawRun.mono _ _ _ _ _
   | exact LeO.none _
   | refine LeO.ite ?_ ?_
   | refine LeO.bind ?_ (fun _ => ?_)
theorem spec_l20Draw.mono : ∀ a0 a1 a2 k, LeO (spec_l20Draw.f k a0 a1 a2) (spec_l20Draw.f (k + 1) a0 a1 a2) := by
 intro a0 a1 a2 k
 have ih0 := spec_l20Draw.mono_l k
 unfold spec_l20Draw.f
 repeat' first
   | (with_reducible exact ih0 _ _ _ _ _)
   | (with_reducible exact spec_Trace.mono _ _ _ _)
   | (with_reducible exact spec_l18DrawRun.mono _ _ _ _ _)
   | (with_reducible exact LeO.refl _)
   | (with_reducible exact LeO.none _)
   | (with_reducible refine LeO.ite ?_ ?_)
   | (with_reducible refine LeO.bind ?_ (fun _ => ?_))
   | exact ih0 _ _ _ _ _
   | exact spec_Trace.mono _ _ _ _
   | exact spec_l18DrawRun.mono _ _ _ _ _
   | exact LeO.none _
   | refine LeO.ite ?_ ?_
   | refine LeO.bind ?_ (fun _ => ?_)
set_option maxHeartbeats 8000000 in
set_option maxRecDepth 100000 in
theorem spec_l20Draw.calls (k : Nat) (g : Nat) (s0_0 : List Int) (s0_1 : Int) (s0_2 : Int) (r1 : Int) (r2 : List (S31)) (r3 : Int) (r4 : Int) (w0 w : World) (hI : IsS90 w0 w g s0_0 s0_1 s0_2) (hB : Below w0.heap.size w0 w) (h : spec_l20Draw.f k s0_0 s0_1 s0_2 = some (r1, r2, r3, r4)) :
  Calls Try.prog 29 #[.pointer (some ⟨g, 0, none⟩)] w fun e w' => ∃ v1_ : Value, e = .returned (.tuple #[.int .i64 r1, v1_]) ∧ Kd.R k31 31 w' w.heap.size (fun _ => True) v1_ r2 ∧ IsS90 w0 w' g s0_0 r3 r4 ∧ Below w0.heap.size w0 w' ∧ KeepBut w w' g none := by
 have HI0 := Aside0.mk hI
 have HK := Aside0.mk (KeepBut.refl w g none)
 have HL := Aside0.mk hB.size
 clear hI
 have HW0 := Aside0.mk hB.size
 have HB := Aside0.mk hB
 clear hB
 have H : ((spec_l1Once.f s0_0 s0_1 s0_2 2).bind fun bt507 => (if bt507.1 = true then ((spec_l18DrawRun.f k s0_0 bt507.2.1 bt507.2.2 20).bind fun bt510 => ((spec_Trace.f k bt510.1 bt510.2.1 bt510.2.2.1).bind fun t521 => (some ((bt510.2.1.length : Int), t521, bt510.2.2.2.1, bt510.2.2.2.2)))) else (spec_l20Draw.l0 k (([] : List (S31))) 0 s0_0 bt507.2.1 bt507.2.2))) = some (r1, r2, r3, r4) := h
 clear h
 replace H := Option.bind_eq_some_iff.mp H
 obtain ⟨⟨t507, t508, t509⟩, A20, H⟩ := H
 replace H : (if t507 = true then ((spec_l18DrawRun.f k s0_0 t508 t509 20).bind fun bt510 => ((spec_Trace.f k bt510.1 bt510.2.1 bt510.2.2.1).bind fun t521 => (some ((bt510.2.1.length : Int), t521, bt510.2.2.2.1, bt510.2.2.2.2)))) else (spec_l20Draw.l0 k (([] : List (S31))) 0 s0_0 t508 t509)) = some (r1, r2, r3, r4) := H
 have A2 := Aside0.mk A20
 clear A20
 by_cases c3 : t507 = true
 ·subst c3
  have H1 : ((spec_l18DrawRun.f k s0_0 t508 t509 20).bind fun bt510 => ((spec_Trace.f k bt510.1 bt510.2.1 bt510.2.2.1).bind fun t521 => (some ((bt510.2.1.length : Int), t521, bt510.2.2.2.1, bt510.2.2.2.2)))) = some (r1, r2, r3, r4) := by rw [if_pos rfl] at H; exact H
  clear H
  have H := H1
  clear H1
  replace H := Option.bind_eq_some_iff.mp H
  obtain ⟨⟨t510, t513, t516, t519, t520⟩, A40, H⟩ := H
  replace H : ((spec_Trace.f k t510 t513 t516).bind fun t521 => (some ((t513.length : Int), t521, t519, t520))) = some (r1, r2, r3, r4) := H
  have A4 := Aside0.mk A40
  clear A40
  replace H := Option.bind_eq_some_iff.mp H
  obtain ⟨t521, A50, H⟩ := H
  replace H : (some ((t513.length : Int), t521, t519, t520)) = some (r1, r2, r3, r4) := H
  have A5 := Aside0.mk A50
  clear A50
  simp only [Option.some.injEq, Prod.mk.injEq] at H
  obtain ⟨rfl, rfl, rfl, rfl⟩ := H
  go_enter Try.func29, Try.ntmps29
  go_wp2_with (first | ((with_reducible refine gate_callee (f := 58) rfl ?_); refine goesL_ (some 10) rfl rfl Try.func58 (by kernel_rfl) rfl #[.pointer (some ⟨g, 0, none⟩), .int .i64 2] rfl zT9 ?_; (with_reducible refine (spec_l1Once.calls g s0_0 s0_1 s0_2 2 true t508 t509 w0 _ ?side1 ?side2 A2.out).mono ?_); (case side1 => exact zB9_0); (case side2 => exact zB9_1); rintro e w6 ⟨rfl, hi, hb, hk⟩; refine ⟨_, rfl, ?_⟩; have n0_ := Aside0.mk (KeepBut.trans (zB9_2) hk (.inl rfl)); have n1_ := Aside0.mk (hb); have n2_ := Aside0.mk (hi); clear HK; clear HB; clear HI0; have HK := n0_; have HB := n1_; have HI0 := n2_; clear n0_ n1_ n2_; (try clear hb); (try clear hb2); (try clear hk); (try clear hi)) | ((with_reducible refine gate_callee (f := 59) rfl ?_); refine goesL_ (some 13) rfl rfl Try.func59 (by kernel_rfl) rfl #[.pointer (some ⟨g, 0, none⟩), .int .i64 20] rfl zT9 ?_; (with_reducible refine (spec_l18DrawRun.calls k g s0_0 t508 t509 20 t510 t513 t516 t519 t520 w0 _ ?side1 ?side2 A4.out).mono ?_); (case side1 => exact zB9_0); (case side2 => exact zB9_1); rintro e w7 ⟨v511, v514, v517, rfl, ho0, ho1, ho2, hi, hb, hk⟩; refine ⟨_, rfl, ?_⟩; have n0_ := Aside0.mk (Kd.R_lower ho0 (keep_size (w := w) (g := g) (row := none) (zB9_2))); have n1_ := Aside0.mk (Kd.S_lower ho1 (keep_size (w := w) (g := g) (row := none) (zB9_2))); have n2_ := Aside0.mk (Kd.R_lower ho2 (keep_size (w := w) (g := g) (row := none) (zB9_2))); have n3_ := Aside0.mk (KeepBut.trans (zB9_2) hk (.inl rfl)); have n4_ := Aside0.mk (hb); have n5_ := Aside0.mk (hi); clear HK; clear HB; clear HI0; have HO512 := n0_; have HO515 := n1_; have HO518 := n2_; have HK := n3_; have HB := n4_; have HI0 := n5_; clear n0_ n1_ n2_ n3_ n4_ n5_; (try clear hb); (try clear hb2); (try clear hk); (try clear hi); (try clear ho0); (try clear ho1); (try clear ho2); obtain ⟨Ao8, co8, eo8⟩ := Kd.S_slice HO515.out; subst eo8; obtain ⟨Ao9, co9, eo9⟩ := Kd.R_slice HO512.out; subst eo9; obtain ⟨Ao10, co10, eo10⟩ := Kd.R_slice HO518.out; subst eo10) | ((with_reducible refine gate_callee (f := 28) rfl ?_); refine goesL_ (some 22) rfl rfl Try.func28 (by kernel_rfl) rfl #[.slice Ao9 t510.length co9, .slice Ao8 t513.length co8, .slice Ao10 t516.length co10] rfl zT9 ?_; (with_reducible refine (spec_Trace.calls k _ _ t510 (fun k_ => ((some k_ ≠ (.slice Ao9 t510.length co9 : Value).ownBlock ∧ some k_ ≠ (.slice Ao10 t516.length co10 : Value).ownBlock) ∧ k_ ≠ g)) _ _ t513 _ _ t516 t521 _ ?side1 ?side2 ?side3 ?side4 ?side5 A5.out).mono ?_); (case side1 => exact zC9 (Kd.R_reads' HO512.out).2.2); (case side2 => exact (Kd.R_reads' HO512.out).2.1); (case side3 => exact Kd.S_V (IsS90.apartS HI0.out (HO515.out) (by decide))); (case side4 => exact zC9 (Kd.R_reads' HO518.out).2.2); (case side5 => exact (Kd.R_reads' HO518.out).2.1); rintro e w11 ⟨v522, rfl, ho0, hb⟩; refine ⟨_, rfl, ?_⟩; have n0_ := Aside0.mk (Kd.R_below (zR9 HO512.out) hb); have n1_ := Aside0.mk (Kd.S_below (zS9 HO515.out) hb); have n2_ := Aside0.mk (Kd.R_below (zR9 HO518.out) hb); have n3_ := Aside0.mk (Kd.R_lower (Kd.R_mono (ok' := fun k_ => True) ho0 (fun _ hk_ => trivial)) (keep_size (w := w) (g := g) (row := none) (zB9_2))); have n4_ := Aside0.mk (IsS90.below (zB9_0) hb); have n5_ := Aside0.mk (KeepBut.trans (zB9_2) (KeepBut.of_below hb g none) (.inl rfl)); have n6_ := Aside0.mk (below_step (zB9_1) hb); clear HO512; clear HO515; clear HO518; clear HI0; clear HK; clear HB; have HO512 := n0_; have HO515 := n1_; have HO518 := n2_; have HO523 := n3_; have HI0 := n4_; have HK := n5_; have HB := n6_; clear n0_ n1_ n2_ n3_ n4_ n5_ n6_; (try clear hb); (try clear hb2); (try clear hk); (try clear hi); (try clear ho0)))
  go_ret2
  exact ⟨_, zE9, zR9 HO523.out, zB9_0, zB9_1, zB9_2⟩
 replace c3 := Bool.eq_false_iff.mpr c3
 subst c3
 have H1 : (spec_l20Draw.l0 k (([] : List (S31))) 0 s0_0 t508 t509) = some (r1, r2, r3, r4) := by rw [if_neg (show ¬ (false = true) by decide)] at H; exact H
 clear H
 have H := H1
 clear H1
 obtain ⟨y524, hy524⟩ : ∃ y_ : List (S31), y_ = (([] : List (S31))) := ⟨_, rfl⟩
 replace H : (spec_l20Draw.l0 k y524 0 s0_0 t508 t509) = some (r1, r2, r3, r4) := by first | (rw [hy524]; with_reducible exact H) | (have H2_ := (Option.bind_some _ _).symm.trans H; rw [hy524]; with_reducible exact H2_) | (have H2_ := (Option.bind_some _ _).symm.trans H; with_reducible exact H2_) | with_reducible exact H | (rw [hy524]; exact H) | exact H
 have Ny524 := Aside0.mk hy524
 clear hy524
 have H' := Aside0.mk H
 clear H
 go_enter Try.func29, Try.ntmps29
 go_wp2_with (first | ((with_reducible refine gate_callee (f := 58) rfl ?_); refine goesL_ (some 10) rfl rfl Try.func58 (by kernel_rfl) rfl #[.pointer (some ⟨g, 0, none⟩), .int .i64 2] rfl zT9 ?_; (with_reducible refine (spec_l1Once.calls g s0_0 s0_1 s0_2 2 false t508 t509 w0 _ ?side1 ?side2 A2.out).mono ?_); (case side1 => exact zB9_0); (case side2 => exact zB9_1); rintro e w12 ⟨rfl, hi, hb, hk⟩; refine ⟨_, rfl, ?_⟩; have n0_ := Aside0.mk (KeepBut.trans (zB9_2) hk (.inl rfl)); have n1_ := Aside0.mk (hb); have n2_ := Aside0.mk (hi); clear HK; clear HB; clear HI0; have HK := n0_; have HB := n1_; have HI0 := n2_; clear n0_ n1_ n2_; (try clear hb); (try clear hb2); (try clear hk); (try clear hi)) | ((with_reducible refine gate_dst (N := 23) rfl ?_); refine Kd.R_lit k31 _ 31 ?hg (N := 23) ?hd (xs := ([] : List (S31))) (inner := []) (ok := fun _ => True) (okp := fun _ => True) ?hr ?hp (fun _ hk => hk) trivial (Below.refl _ _) (Nat.le_refl _) (by simp) ?_; (case hd => rfl); (case hg => rfl); (case hr => first | (go_simp; done) | (go_simp; rfl)); (case hp => exact (Reps.none _ _)); intro v525 w13 ho14 hb hg_ hnew_; clear hg_ hnew_; (first | rw [← Ny524.out] at ho14 | (simp only [Int.reduceToNat] at ho14; rw [← Ny524.out] at ho14)); have n0_ := Aside0.mk (Kd.R_lower ho14 (keep_size (w := w) (g := g) (row := none) (zB9_2))); have n1_ := Aside0.mk (IsS90.below (zB9_0) hb); have n2_ := Aside0.mk (KeepBut.trans (zB9_2) (KeepBut.of_below hb g none) (.inl rfl)); have n3_ := Aside0.mk (below_step (zB9_1) hb); clear HI0; clear HK; clear HB; have HO526 := n0_; have HI0 := n1_; have HK := n2_; have HB := n3_; clear n0_ n1_ n2_ n3_; clear hb ho14))
 go_loopg [7, 8] k (fun kq v7 v8 w' => ∃ (x7_1 : List (S31)) (x8_1 : Int) (x1001_1 : Int) (x1002_1 : Int), v8 = .int .i64 x8_1 ∧ Aside0 (spec_l20Draw.l0 kq x7_1 x8_1 s0_0 x1001_1 x1002_1 = some (r1, r2, r3, r4)) ∧ Aside0 (kq ≤ k) ∧ Aside0 (Kd.R k31 31 w' w.heap.size (fun _ => True) v7 x7_1) ∧ Aside0 (IsS90 w0 w' g s0_0 x1001_1 x1002_1) ∧ Aside0 (KeepBut w w' g none) ∧ Aside0 (Below w0.heap.size w0 w'))
 case atStart => exact ⟨(y524), (0), (t508), (t509), (by first | rfl | (simp; done) | (simp [*]; done)), H', ⟨Nat.le_refl _⟩, ⟨zR9 HO526.out⟩, ⟨zB9_0⟩, ⟨zB9_2⟩, ⟨zB9_1⟩⟩
 case round =>
  clear H'
  try clear c2
  try clear p2
  try clear c3
  try clear c5
  obtain ⟨x7_1, x8_1, x1001_1, x1002_1, rfl, HA, HK1, HO_7, HI0, HK, HB⟩ := hrel
  cases gk with
  | zero => exact absurd HA.out (by simp [spec_l20Draw.l0])
  | succ k1 =>
   have H := HA.out
   clear HA
   simp only [spec_l20Draw.l0] at H
   replace H := Option.bind_eq_some_iff.mp H
   obtain ⟨⟨t527, t528, t529⟩, A150, H⟩ := H
   replace H : (if x8_1 < t527 then ((spec_l19DrawEvent.f s0_0 t528 t529).bind fun bt530 => (if x7_1.length < 3518437208883 then (spec_l20Draw.l0 k1 (x7_1 ++ [(⟨bt530.1, bt530.2.1, bt530.2.2.1, bt530.2.2.2.1, bt530.2.2.2.2.1⟩ : S31)]) (wrap64 (x8_1 + 1)) s0_0 bt530.2.2.2.2.2.1 bt530.2.2.2.2.2.2) else (none))) else ((spec_l1PickInt.f s0_0 t528 t529 (([3, 3, 3, 2, 8, 9, 0, (-1)] : List Int))).bind fun bt543 => (some (bt543.1, x7_1, bt543.2.1, bt543.2.2)))) = some (r1, r2, r3, r4) := H
   have A15 := Aside0.mk A150
   clear A150
   by_cases c16 : x8_1 < t527
   ·rw [if_pos c16] at H
    have c16b0 : decide (x8_1 < t527) = true := decide_eq_true c16
    clear c16
    replace H := Option.bind_eq_some_iff.mp H
    obtain ⟨⟨t530, t531, t532, t533, t534, t535, t536⟩, A170, H⟩ := H
    replace H : (if x7_1.length < 3518437208883 then (spec_l20Draw.l0 k1 (x7_1 ++ [(⟨t530, t531, t532, t533, t534⟩ : S31)]) (wrap64 (x8_1 + 1)) s0_0 t535 t536) else (none)) = some (r1, r2, r3, r4) := H
    have A17 := Aside0.mk A170
    clear A170
    by_cases c18 : x7_1.length < 3518437208883
    rotate_left
    ·rw [if_neg c18] at H
     exact absurd H (by simp)
    rw [if_pos c18] at H
    have LMc18 := Aside0.mk c18
    clear c18
    obtain ⟨y537, hy537⟩ : ∃ y_ : List (S31), y_ = (x7_1 ++ [(⟨t530, t531, t532, t533, t534⟩ : S31)]) := ⟨_, rfl⟩
    replace H : (spec_l20Draw.l0 k1 y537 (wrap64 (x8_1 + 1)) s0_0 t535 t536) = some (r1, r2, r3, r4) := by first | (rw [hy537]; with_reducible exact H) | (have H2_ := (Option.bind_some _ _).symm.trans H; rw [hy537]; with_reducible exact H2_) | (have H2_ := (Option.bind_some _ _).symm.trans H; with_reducible exact H2_) | with_reducible exact H | (rw [hy537]; exact H) | exact H
    have Ny537 := Aside0.mk hy537
    clear hy537
    have H' := Aside0.mk H
    clear H
    go_wp2_with (first | ((with_reducible refine gate_callee (f := 42) rfl ?_); refine goesL_ (some 26) rfl rfl Try.func42 (by kernel_rfl) rfl #[.pointer (some ⟨g, 0, none⟩), .int .i64 9] rfl zT9 ?_; (with_reducible refine (spec_l1Below.calls g s0_0 x1001_1 x1002_1 9 t527 t528 t529 w0 _ ?side1 ?side2 A15.out).mono ?_); (case side1 => exact zB9_0); (case side2 => exact zB9_1); rintro e w19 ⟨rfl, hi, hb, hk⟩; refine ⟨_, rfl, ?_⟩; have n0_ := Aside0.mk (Kd.R_mono (Kd.R_keep (IsS90.apart (show IsS90 w0 _ g s0_0 x1001_1 x1002_1 from zB9_0) (zR9 HO_7.out) (by decide)) hk (fun _ h => h.2)) (fun _ h => h.1)); have n1_ := Aside0.mk (KeepBut.trans (zB9_2) hk (.inl rfl)); have n2_ := Aside0.mk (hb); have n3_ := Aside0.mk (hi); clear HO_7; clear HK; clear HB; clear HI0; have HO_7 := n0_; have HK := n1_; have HB := n2_; have HI0 := n3_; clear n0_ n1_ n2_ n3_; (try clear hb); (try clear hb2); (try clear hk); (try clear hi)) | ((with_reducible refine gate_callee (f := 60) rfl ?_); refine goesL_ (some 32) rfl rfl Try.func60 (by kernel_rfl) rfl #[.pointer (some ⟨g, 0, none⟩)] rfl zT9 ?_; (with_reducible refine (spec_l19DrawEvent.calls g s0_0 t528 t529 t530 t531 t532 t533 t534 t535 t536 w0 _ ?side1 ?side2 A17.out).mono ?_); (case side1 => exact zB9_0); (case side2 => exact zB9_1); rintro e w20 ⟨rfl, hi, hb, hk⟩; refine ⟨_, rfl, ?_⟩; have n0_ := Aside0.mk (Kd.R_mono (Kd.R_keep (IsS90.apart (show IsS90 w0 _ g s0_0 t528 t529 from zB9_0) (zR9 HO_7.out) (by decide)) hk (fun _ h => h.2)) (fun _ h => h.1)); have n1_ := Aside0.mk (KeepBut.trans (zB9_2) hk (.inl rfl)); have n2_ := Aside0.mk (hb); have n3_ := Aside0.mk (hi); clear HO_7; clear HK; clear HB; clear HI0; have HO_7 := n0_; have HK := n1_; have HB := n2_; have HI0 := n3_; clear n0_ n1_ n2_ n3_; (try clear hb); (try clear hb2); (try clear hk); (try clear hi)) | ((with_reducible refine gate_builtin (b := .append) (xs := #[.tmp 30, .tmp 33]) rfl ?_); at_builtin; refine Kd.R_append k31 w.heap.size rfl (.tmp 30) (.tmp 33) 24 31 (.agg #[(.int .i64 0), (.int .i64 0), (.int .i64 0), (.int .i64 0), (.int .i64 0)]) 40 rfl Try.underlying24 info31 rfl (by decide) (by omega) u7 x7_1 (⟨t530, t531, t532, t533, t534⟩ : S31) [.int .i64 t530, .int .i64 t531, .int .i64 t532, .int .i64 t533, .int .i64 t534] (fun _ => True) (fun _ => False) rfl rfl ?aP (fun _ hk => hk.elim) ?aF ?aO (Below.refl _ _) ?aS ?aL ?_; (case aP => exact k31_mkM _ _ _ (⟨t530, t531, t532, t533, t534⟩ : S31)); (case aF => exact (fun _ _ => trivial)); (case aO => exact (zR9 HO_7.out)); (case aS => exact (keep_size (w := w) (g := g) (row := none) (zB9_2))); (case aL => have := LMc18.out; omega); intro v538 w21 ho hb hg hat; rw [← Ny537.out] at ho; have n0_ := Aside0.mk (IsS90.grown (show IsS90 w0 _ g s0_0 t535 t536 from zB9_0) hg (IsS90.own_ne HI0.out HO_7.out (by decide))); have n1_ := Aside0.mk (below_weaken (zB9_1) HL.out hb); have n2_ := Aside0.mk (KeepBut.trans (zB9_2) (KeepBut.of_grown hg g) (Kd.R_base2 HO_7.out)); have n3_ := Aside0.mk (ho); clear HI0; clear HB; clear HK; clear HO_7; have HI0 := n0_; have HB := n1_; have HK := n2_; have HO539 := n3_; clear n0_ n1_ n2_ n3_; clear ho hb hg hat))
    go_roundg k1
    case measure => have := HK1.out; omega
    case rel => exact ⟨(y537), (wrap64 (x8_1 + 1)), (t535), (t536), (by first | rfl | (simp; done) | (simp [*]; done)), H', ⟨by have := HK1.out; omega⟩, ⟨zR9 HO539.out⟩, ⟨zB9_0⟩, ⟨zB9_2⟩, ⟨zB9_1⟩⟩
   rw [if_neg c16] at H
   have c16b0 : decide (x8_1 < t527) = false := decide_eq_false c16
   clear c16
   obtain ⟨y540, hy540⟩ : ∃ y_ : List Int, y_ = (([3, 3, 3, 2, 8, 9, 0, (-1)] : List Int)) := ⟨_, rfl⟩
   replace H : ((spec_l1PickInt.f s0_0 t528 t529 y540).bind fun bt543 => (some (bt543.1, x7_1, bt543.2.1, bt543.2.2))) = some (r1, r2, r3, r4) := by first | (rw [hy540]; with_reducible exact H) | (have H2_ := (Option.bind_some _ _).symm.trans H; rw [hy540]; with_reducible exact H2_) | (have H2_ := (Option.bind_some _ _).symm.trans H; with_reducible exact H2_) | with_reducible exact H | (rw [hy540]; exact H) | exact H
   have Ny540 := Aside0.mk hy540
   clear hy540
   replace H := Option.bind_eq_some_iff.mp H
   obtain ⟨⟨t543, t544, t545⟩, A220, H⟩ := H
   replace H : (some (t543, x7_1, t544, t545)) = some (r1, r2, r3, r4) := H
   have A22 := Aside0.mk A220
   clear A220
   simp only [Option.some.injEq, Prod.mk.injEq] at H
   obtain ⟨rfl, rfl, rfl, rfl⟩ := H
   go_wp2_with (first | ((with_reducible refine gate_callee (f := 42) rfl ?_); refine goesL_ (some 26) rfl rfl Try.func42 (by kernel_rfl) rfl #[.pointer (some ⟨g, 0, none⟩), .int .i64 9] rfl zT9 ?_; (with_reducible refine (spec_l1Below.calls g s0_0 x1001_1 x1002_1 9 t527 t528 t529 w0 _ ?side1 ?side2 A15.out).mono ?_); (case side1 => exact zB9_0); (case side2 => exact zB9_1); rintro e w23 ⟨rfl, hi, hb, hk⟩; refine ⟨_, rfl, ?_⟩; have n0_ := Aside0.mk (Kd.R_mono (Kd.R_keep (IsS90.apart (show IsS90 w0 _ g s0_0 x1001_1 x1002_1 from zB9_0) (zR9 HO_7.out) (by decide)) hk (fun _ h => h.2)) (fun _ h => h.1)); have n1_ := Aside0.mk (KeepBut.trans (zB9_2) hk (.inl rfl)); have n2_ := Aside0.mk (hb); have n3_ := Aside0.mk (hi); clear HO_7; clear HK; clear HB; clear HI0; have HO_7 := n0_; have HK := n1_; have HB := n2_; have HI0 := n3_; clear n0_ n1_ n2_ n3_; (try clear hb); (try clear hb2); (try clear hk); (try clear hi)) | ((with_reducible refine gate_dst (N := 36) rfl ?_); refine Kd.R_lit (Kd.int .i64) _ 3 ?hg (N := 36) ?hd (xs := ([3, 3, 3, 2, 8, 9, 0, (-1)] : List Int)) (inner := [.int .i64 3, .int .i64 3, .int .i64 3, .int .i64 2, .int .i64 8, .int .i64 9, .int .i64 0, .int .i64 (-1)]) (ok := fun _ => True) (okp := fun _ => True) ?hr ?hp (fun _ hk => hk) trivial (Below.refl _ _) (Nat.le_refl _) (by simp) ?_; (case hd => rfl); (case hg => rfl); (case hr => first | (go_simp; done) | (go_simp; rfl)); (case hp => exact (Reps.one (show Kd.M (Kd.int .i64) _ _ _ 3 [.int .i64 3] from rfl) (Reps.one (show Kd.M (Kd.int .i64) _ _ _ 3 [.int .i64 3] from rfl) (Reps.one (show Kd.M (Kd.int .i64) _ _ _ 3 [.int .i64 3] from rfl) (Reps.one (show Kd.M (Kd.int .i64) _ _ _ 2 [.int .i64 2] from rfl) (Reps.one (show Kd.M (Kd.int .i64) _ _ _ 8 [.int .i64 8] from rfl) (Reps.one (show Kd.M (Kd.int .i64) _ _ _ 9 [.int .i64 9] from rfl) (Reps.one (show Kd.M (Kd.int .i64) _ _ _ 0 [.int .i64 0] from rfl) (Reps.one (show Kd.M (Kd.int .i64) _ _ _ (-1) [.int .i64 (-1)] from rfl) (Reps.none _ _)))))))))); intro v541 w24 ho25 hb hg_ hnew_; clear hg_ hnew_; (first | rw [← Ny540.out] at ho25 | (simp only [Int.reduceToNat] at ho25; rw [← Ny540.out] at ho25)); have n0_ := Aside0.mk (Kd.R_below (zR9 HO_7.out) hb); have n1_ := Aside0.mk (Kd.R_lower ho25 (keep_size (w := w) (g := g) (row := none) (zB9_2))); have n2_ := Aside0.mk (IsS90.below (zB9_0) hb); have n3_ := Aside0.mk (KeepBut.trans (zB9_2) (KeepBut.of_below hb g none) (.inl rfl)); have n4_ := Aside0.mk (below_step (zB9_1) hb); clear HO_7; clear HI0; clear HK; clear HB; have HO_7 := n0_; have HO542 := n1_; have HI0 := n2_; have HK := n3_; have HB := n4_; clear n0_ n1_ n2_ n3_ n4_; clear hb ho25; obtain ⟨Ao26, co26, eo26⟩ := Kd.R_slice HO542.out; subst eo26) | ((with_reducible refine gate_callee (f := 61) rfl ?_); refine goesL_ (some 37) rfl rfl Try.func61 (by kernel_rfl) rfl #[.pointer (some ⟨g, 0, none⟩), .slice Ao26 y540.length co26] rfl zT9 ?_; (with_reducible refine (spec_l1PickInt.calls g s0_0 t528 t529 _ _ y540 t543 t544 t545 w0 _ ?side1 ?side2 ?side3 ?side4 ?side5 A22.out).mono ?_); (case side1 => exact zB9_0); (case side2 => exact zB9_1); (case side3 => exact zC9 (Kd.R_reads' HO542.out).2.2); (case side4 => exact (Kd.R_reads' HO542.out).2.1); (case side5 => exact far_slice (IsS90.own_ne HI0.out HO542.out (by decide))); rintro e w27 ⟨rfl, hi, hb, hk⟩; refine ⟨_, rfl, ?_⟩; have n0_ := Aside0.mk (Kd.R_mono (Kd.R_keep (IsS90.apart (show IsS90 w0 _ g s0_0 t528 t529 from zB9_0) (zR9 HO_7.out) (by decide)) hk (fun _ h => h.2)) (fun _ h => h.1)); have n1_ := Aside0.mk (Kd.R_mono (Kd.R_keep (IsS90.apart (show IsS90 w0 _ g s0_0 t528 t529 from zB9_0) (zR9 HO542.out) (by decide)) hk (fun _ h => h.2)) (fun _ h => h.1)); have n2_ := Aside0.mk (KeepBut.trans (zB9_2) hk (.inl rfl)); have n3_ := Aside0.mk (hb); have n4_ := Aside0.mk (hi); clear HO_7; clear HO542; clear HK; clear HB; clear HI0; have HO_7 := n0_; have HO542 := n1_; have HK := n2_; have HB := n3_; have HI0 := n4_; clear n0_ n1_ n2_ n3_ n4_; (try clear hb); (try clear hb2); (try clear hk); (try clear hi)))
   go_ret2
   exact ⟨_, zE9, zR9 HO_7.out, zB9_0, zB9_1, zB9_2⟩

/-! ### spec_l1New: function 30 -/
def spec_l1New.l0 : Nat → List Int → Int → Int → Option (List Int × Int × Int)
 | 0, _, _, _ => none
 | k + 1, x0, x3, x4 => if x4 < (x0.length : Int) then (if x4 < 4000 then (if 0 ≤ x4 then (spec_l1New.l0 k x0 (Go.bits .and .i64 (wrap64 ((wrap64 ((wrap64 (x3 * 131)) + (wrap64 (rd x0 x4)))) + 7)) 1073741823) (wrap64 (x4 + 1))) else (none)) else (some (x0, 0, x3))) else (some (x0, 0, x3))
def spec_l1New.f (k : Nat) (l0 : List Int) : Option (List Int × Int × Int) := spec_l1New.l0 k l0 (wrap64 (20404 + (l0.length : Int))) 0
theorem spec_l1New.mono_l : ∀ k, (∀ y0 y1 y2, LeO (spec_l1New.l0 k y0 y1 y2) (spec_l1New.l0 (k + 1) y0 y1 y2))
 | 0 => fun _ _ _ r h => by simp [spec_l1New.l0] at h
 | k + 1 => by
  have ih0 := spec_l1New.mono_l k
  ·intro y0 y1 y2
   unfold spec_l1New.l0
   repeat' first
   | (with_reducible exact ih0 _ _ _)
   | (with_reducible exact LeO.refl _)
   | (with_reducible exact LeO.none _)
   | (with_reducible refine LeO.ite ?_ ?_)
   | (with_reducible refine LeO.bind ?_ (fun _ => ?_))
   | exact ih0 _ _ _
   | exact LeO.none _
   | refine LeO.ite ?_ ?_
   | refine LeO.bind ?_ (fun _ => ?_)
theorem spec_l1New.mono : ∀ a0 k, LeO (spec_l1New.f k a0) (spec_l1New.f (k + 1) a0) := by
 intro a0 k
 have ih0 := spec_l1New.mono_l k
 unfold spec_l1New.f
 repeat' first
   | (with_reducible exact ih0 _ _ _)
   | (with_reducible exact LeO.refl _)
   | (with_reducible exact LeO.none _)
   | (with_reducible refine LeO.ite ?_ ?_)
   | (with_reducible refine LeO.bind ?_ (fun _ => ?_))
   | exact ih0 _ _ _
   | exact LeO.none _
   | refine LeO.ite ?_ ?_
   | refine LeO.bind ?_ (fun _ => ?_)
set_option maxHeartbeats 8000000 in
set_option maxRecDepth 100000 in
theorem spec_l1New.calls (k : Nat) (A0 : Option Addr) (c0 : Nat) (l0 : List Int) (r1 : List Int) (r2 : Int) (r3 : Int) (w0 w : World) (hB : Below w0.heap.size w0 w) (hr0 : Kd.C (Kd.int .u8) w0 A0 l0.length l0) (hc0 : l0.length ≤ c0) (h : spec_l1New.f k l0 = some (r1, r2, r3)) :
  Calls Try.prog 30 #[.slice A0 l0.length c0] w fun e w' => ∃ g_ : Nat, e = .returned (.pointer (some ⟨g_, 0, none⟩)) ∧ IsS90 w0 w' g_ r1 r2 r3 ∧ Below w0.heap.size w0 w' ∧ Below w.heap.size w w' := by
 have hu90 := Try.underlying90
 have HR0 := Aside0.mk hr0
 have HC0 := Aside0.mk hc0
 clear hr0 hc0
 have HBW := Aside0.mk (Below.refl w.heap.size w)
 have HW0 := Aside0.mk hB.size
 have HB := Aside0.mk hB
 clear hB
 have H : (spec_l1New.l0 k l0 (wrap64 (20404 + (l0.length : Int))) 0) = some (r1, r2, r3) := h
 clear h
 have H' := Aside0.mk H
 clear H
 go_enter Try.func30, Try.ntmps30
 go_wp2
 go_loopg [3, 4] k (fun kq v3 v4 w' => ∃ (x3_1 : Int) (x4_1 : Int), v3 = .int .i64 x3_1 ∧ v4 = .int .i64 x4_1 ∧ Aside0 (spec_l1New.l0 kq l0 x3_1 x4_1 = some (r1, r2, r3)) ∧ Aside0 (kq ≤ k) ∧ Aside0 (Below w0.heap.size w0 w') ∧ Aside0 (Below w.heap.size w w'))
 case atStart => exact ⟨(wrap64 (20404 + (l0.length : Int))), (0), (by first | rfl | (simp; done) | (simp [*]; done)), (by first | rfl | (simp; done) | (simp [*]; done)), H', ⟨Nat.le_refl _⟩, ⟨zB9_12⟩, ⟨zB9_13⟩⟩
 case round =>
  clear H'
  obtain ⟨x3_1, x4_1, rfl, rfl, HA, HK1, HB, HBW⟩ := hrel
  cases gk with
  | zero => exact absurd HA.out (by simp [spec_l1New.l0])
  | succ k1 =>
   have H := HA.out
   clear HA
   simp only [spec_l1New.l0] at H
   by_cases c2 : x4_1 < (l0.length : Int)
   rotate_left
   ·rw [if_neg c2] at H
    have c2b0 : decide (x4_1 < (l0.length : Int)) = false := decide_eq_false c2
    clear c2
    simp only [Option.some.injEq, Prod.mk.injEq] at H
    obtain ⟨rfl, rfl, rfl⟩ := H
    go_wp2_with (first | ((with_reducible refine gate_dst (N := 31) rfl ?_); refine box_event ?hg (N := 31) ?hd (cs := #[.slice A0 l0.length c0, .int .i64 0, .int .i64 x3_1]) (t := 90) ?hr ?_; (case hd => rfl); (case hg => rfl); (case hr => first | (go_simp; done) | (go_simp; rfl)); intro gb548 hg w6 hbox hb; have n0_ := Aside0.mk (below_step HBW.out hb); have n1_ := Aside0.mk (below_step (zB9_12) hb); have n2_ := Aside0.mk (hbox); have n3_ := Aside0.mk ((by rw [hg]; exact (below_size (zB9_13)) : w.heap.size ≤ gb548)); have n4_ := Aside0.mk ((Nat.le_trans HW0.out (by rw [hg]; exact (below_size (zB9_13)) : w.heap.size ≤ gb548) : w0.heap.size ≤ gb548)); clear HBW; clear HB; have HBW := n0_; have HB := n1_; have BK548 := n2_; have GW548 := n3_; have GE548 := n4_; clear n0_ n1_ n2_ n3_ n4_; clear hb hbox hg))
    go_ret
    exact ⟨_, rfl, (show IsS90 w0 _ gb548 l0 0 x3_1 from ⟨_, _, zK9 BK548.out, GE548.out, HR0.out⟩), zB9_16, zB9_17⟩
   rw [if_pos c2] at H
   have c2b0 : decide (x4_1 < (l0.length : Int)) = true := decide_eq_true c2
   clear c2
   by_cases c3 : x4_1 < 4000
   ·rw [if_pos c3] at H
    have c3b0 : decide (x4_1 < 4000) = true := decide_eq_true c3
    clear c3
    by_cases c4 : 0 ≤ x4_1
    rotate_left
    ·rw [if_neg c4] at H
     exact absurd H (by simp)
    rw [if_pos c4] at H
    have c4b0 : decide (0 ≤ x4_1) = true := decide_eq_true c4
    clear c4
    have H' := Aside0.mk H
    clear H
    have p546 : 0 ≤ (x4_1 : Int) := zA9
    have q546 : x4_1 < (l0.length : Int) := zA9
    obtain ⟨ad546, e546, hx546_0⟩ := Kd.at_int HR0.out x4_1 p546 q546
    cases e546
    replace hx546_0 := pw_cell_below HB.out hx546_0
    replace p546 := eq_true p546
    replace q546 := eq_true q546
    go_wp2
    go_roundg k1
    case measure => have := HK1.out; omega
    case rel => exact ⟨(Go.bits .and .i64 (wrap64 ((wrap64 ((wrap64 (x3_1 * 131)) + (wrap64 (rd l0 x4_1)))) + 7)) 1073741823), (wrap64 (x4_1 + 1)), (by first | rfl | (simp; done) | (simp [*]; done)), (by first | rfl | (simp; done) | (simp [*]; done)), H', ⟨by have := HK1.out; omega⟩, ⟨zB9_12⟩, ⟨zB9_13⟩⟩
   rw [if_neg c3] at H
   have c3b0 : decide (x4_1 < 4000) = false := decide_eq_false c3
   clear c3
   simp only [Option.some.injEq, Prod.mk.injEq] at H
   obtain ⟨rfl, rfl, rfl⟩ := H
   go_wp2_with (first | ((with_reducible refine gate_dst (N := 31) rfl ?_); refine box_event ?hg (N := 31) ?hd (cs := #[.slice A0 l0.length c0, .int .i64 0, .int .i64 x3_1]) (t := 90) ?hr ?_; (case hd => rfl); (case hg => rfl); (case hr => first | (go_simp; done) | (go_simp; rfl)); intro gb547 hg w5 hbox hb; have n0_ := Aside0.mk (below_step HBW.out hb); have n1_ := Aside0.mk (below_step (zB9_12) hb); have n2_ := Aside0.mk (hbox); have n3_ := Aside0.mk ((by rw [hg]; exact (below_size (zB9_13)) : w.heap.size ≤ gb547)); have n4_ := Aside0.mk ((Nat.le_trans HW0.out (by rw [hg]; exact (below_size (zB9_13)) : w.heap.size ≤ gb547) : w0.heap.size ≤ gb547)); clear HBW; clear HB; have HBW := n0_; have HB := n1_; have BK547 := n2_; have GW547 := n3_; have GE547 := n4_; clear n0_ n1_ n2_ n3_ n4_; clear hb hbox hg))
   go_ret
   exact ⟨_, rfl, (show IsS90 w0 _ gb547 l0 0 x3_1 from ⟨_, _, zK9 BK547.out, GE547.out, HR0.out⟩), zB9_14, zB9_15⟩

/-! ### spec_DrawByHart: function 9 -/
def spec_DrawByHart.f (k : Nat) (l0 : List Int) : Option (Int × (List (S31))) := (spec_l1New.f k l0).bind fun bt549 => ((spec_l20Draw.f k bt549.1 bt549.2.1 bt549.2.2).bind fun bt553 => (some (bt553.1, bt553.2.1)))
theorem spec_DrawByHart.mono : ∀ a0 k, LeO (spec_DrawByHart.f k a0) (spec_DrawByHart.f (k + 1) a0) := by
 intro a0 k
 unfold spec_DrawByHart.f
 repeat' first
   | (with_reducible exact spec_l1New.mono _ _)
   | (with_reducible exact spec_l20Draw.mono _ _ _ _)
   | (with_reducible exact LeO.refl _)
   | (with_reducible exact LeO.none _)
   | (with_reducible refine LeO.ite ?_ ?_)
   | (with_reducible refine LeO.bind ?_ (fun _ => ?_))
   | exact spec_l1New.mono _ _
   | exact spec_l20Draw.mono _ _ _ _
   | exact LeO.none _
   | refine LeO.ite ?_ ?_
   | refine LeO.bind ?_ (fun _ => ?_)
set_option maxHeartbeats 8000000 in
set_option maxRecDepth 100000 in
theorem spec_DrawByHart.calls (k : Nat) (A0 : Option Addr) (c0 : Nat) (l0 : List Int) (r1 : Int) (r2 : List (S31)) (w : World) (hr0 : Kd.C (Kd.int .u8) w A0 l0.length l0) (hc0 : l0.length ≤ c0) (h : spec_DrawByHart.f k l0 = some (r1, r2)) :
  Calls Try.prog 9 #[.slice A0 l0.length c0] w fun e w' => ∃ v1_ : Value, e = .returned (.tuple #[.int .i64 r1, v1_]) ∧ Kd.R k31 31 w' w.heap.size (fun _ => True) v1_ r2 ∧ Below w.heap.size w w' := by
 have HR0 := Aside0.mk hr0
 have HC0 := Aside0.mk hc0
 clear hr0 hc0
 have HB := Aside0.mk (Below.refl w.heap.size w)
 have H : ((spec_l1New.f k l0).bind fun bt549 => ((spec_l20Draw.f k bt549.1 bt549.2.1 bt549.2.2).bind fun bt553 => (some (bt553.1, bt553.2.1)))) = some (r1, r2) := h
 clear h
 replace H := Option.bind_eq_some_iff.mp H
 obtain ⟨⟨t549, t550, t551⟩, A20, H⟩ := H
 replace H : ((spec_l20Draw.f k t549 t550 t551).bind fun bt553 => (some (bt553.1, bt553.2.1))) = some (r1, r2) := H
 have A2 := Aside0.mk A20
 clear A20
 replace H := Option.bind_eq_some_iff.mp H
 obtain ⟨⟨t553, t554, t557, t558⟩, A30, H⟩ := H
 replace H : (some (t553, t554)) = some (r1, r2) := H
 have A3 := Aside0.mk A30
 clear A30
 simp only [Option.some.injEq, Prod.mk.injEq] at H
 obtain ⟨rfl, rfl⟩ := H
 go_enter Try.func9, Try.ntmps9
 go_wp2_with (first | ((with_reducible refine gate_callee (f := 30) rfl ?_); refine goesL_ (some 8) rfl rfl Try.func30 (by kernel_rfl) rfl #[.slice A0 l0.length c0] rfl zT9 ?_; (with_reducible refine (spec_l1New.calls k _ _ l0 t549 t550 t551 w _ ?side1 ?side2 ?side3 A2.out).mono ?_); (case side1 => exact zB9_12); (case side2 => exact HR0.out); (case side3 => exact HC0.out); rintro e w4 ⟨g552, rfl, hi, hb, hb2⟩; refine ⟨_, rfl, ?_⟩; have n0_ := Aside0.mk (hb); have n1_ := Aside0.mk (hi); clear HB; have HB := n0_; have HI552 := n1_; clear n0_ n1_; (try clear hb); (try clear hb2); (try clear hk); (try clear hi)) | ((with_reducible refine gate_callee (f := 29) rfl ?_); refine goesL_ (some 9) rfl rfl Try.func29 (by kernel_rfl) rfl #[.pointer (some ⟨g552, 0, none⟩)] rfl zT9 ?_; (with_reducible refine (spec_l20Draw.calls k g552 t549 t550 t551 t553 t554 t557 t558 w _ ?side1 ?side2 A3.out).mono ?_); (case side1 => exact zB9_18); (case side2 => exact zB9_19); rintro e w5 ⟨v555, rfl, ho0, hi, hb, hk⟩; refine ⟨_, rfl, ?_⟩; have n0_ := Aside0.mk (Kd.R_lower ho0 (below_size (zB9_19))); have n1_ := Aside0.mk (hb); have n2_ := Aside0.mk (hi); clear HB; clear HI552; have HO556 := n0_; have HB := n1_; have HI552 := n2_; clear n0_ n1_ n2_; (try clear hb); (try clear hb2); (try clear hk); (try clear hi); (try clear ho0)))
 go_ret2
 exact ⟨_, zE9, zR9 HO556.out, zB9_19⟩

/-! ### impl_from: function 31 -/
def impl_from.f (a0 : Int) (a1 : Int) (a2 : Int) : Option (Bool) := if a0 ≥ a1 then (some (decide (a0 ≤ a2))) else (some false)
set_option maxHeartbeats 8000000 in
set_option maxRecDepth 100000 in
theorem impl_from.calls (a0 : Int) (a1 : Int) (a2 : Int) (r : Bool) (w : World) (h : impl_from.f a0 a1 a2 = some r) :
  Calls Try.prog 31 #[.int .i64 a0, .int .i64 a1, .int .i64 a2] w fun e w' => e = .returned (.bool r) ∧ Drawn0 w w' := by
 have H : (if a0 ≥ a1 then (some (decide (a0 ≤ a2))) else (some false)) = some r := h
 clear h
 by_cases c4 : a0 ≥ a1
 ·rw [if_pos c4] at H
  have c4b0 : decide (a1 ≤ a0) = true := decide_eq_true c4
  clear c4
  obtain rfl := Option.some.inj H
  go_enter Try.func31, Try.ntmps31
  go_wp2
  go_ret
  exact ⟨by first | rfl | (simp; done) | (simp [*]; done), by repeat (first | exact Drawn0.refl _ | apply Drawn0.step)⟩
 rw [if_neg c4] at H
 have c4b0 : decide (a1 ≤ a0) = false := decide_eq_false c4
 clear c4
 obtain rfl := Option.some.inj H
 go_enter Try.func31, Try.ntmps31
 go_wp2
 go_ret
 exact ⟨by first | rfl | (simp; done) | (simp [*]; done), by repeat (first | exact Drawn0.refl _ | apply Drawn0.step)⟩

end Go.Proofs.Ytgbjengnkbomoaa.PFnByHart
