-- made by wip/tools/myprint.py out of the seat's translation
import Derived.Test.YtbbieaglfgipnaaPFnExactLinkx0
import Derived.Test.YtbbieaglfgipnaaPFnExactLinkx2
import Derived.Test.YtbbieaglfgipnaaPFnExactLinkx3
import Derived.Test.YtbbieaglfgipnaaPFnExactLinkx5
import Derived.Test.YtbbieaglfgipnaaPFnExactLinkx6
import Derived.Test.YtbbieaglfgipnaaPFnExactLinkx9
import Derived.Test.YtbbieaglfgipnaaPFnExactLinkx13
namespace Go.Proofs.Ytbbieaglfgipnaa.PFnExactLink
open Go.RowKit Go.Proofs.YtbbieaglfgipnaaW.PrintWords Go.Proofs.YtbbieaglfgipnaaW.PrintLast Go.Proofs.YtbbieaglfgipnaaW.PrintMore
attribute [local go_sem] max2_int min2_int max_two min_two max_three min_three max_four min_four   -- for this text's walks alone
set_option linter.unusedVariables false
set_option linter.unusedSimpArgs false
theorem zc14_2 {w : World} {g : Nat} {a0 a1 : Value} {t : TypeId} (h : w.heap[g]? = some (.cells #[a0, a1] t (0, 0))) : w.cell? ⟨g, 0, none⟩ = some a0 ∧ w.cell? ⟨g, 1, none⟩ = some a1 ∧ w.frozen? ⟨g, 0, none⟩ = false ∧ w.frozen? ⟨g, 1, none⟩ = false := ⟨(blk_cell h 0).trans rfl, (blk_cell h 1).trans rfl, blk_frozen h 0, blk_frozen h 1⟩
theorem zc14_3 {w : World} {g : Nat} {a0 a1 a2 : Value} {t : TypeId} (h : w.heap[g]? = some (.cells #[a0, a1, a2] t (0, 0))) : w.cell? ⟨g, 0, none⟩ = some a0 ∧ w.cell? ⟨g, 1, none⟩ = some a1 ∧ w.cell? ⟨g, 2, none⟩ = some a2 ∧ w.frozen? ⟨g, 0, none⟩ = false ∧ w.frozen? ⟨g, 1, none⟩ = false ∧ w.frozen? ⟨g, 2, none⟩ = false := ⟨(blk_cell h 0).trans rfl, (blk_cell h 1).trans rfl, (blk_cell h 2).trans rfl, blk_frozen h 0, blk_frozen h 1, blk_frozen h 2⟩
theorem zc14_5 {w : World} {g : Nat} {a0 a1 a2 a3 a4 : Value} {t : TypeId} (h : w.heap[g]? = some (.cells #[a0, a1, a2, a3, a4] t (0, 0))) : w.cell? ⟨g, 0, none⟩ = some a0 ∧ w.cell? ⟨g, 1, none⟩ = some a1 ∧ w.cell? ⟨g, 2, none⟩ = some a2 ∧ w.cell? ⟨g, 3, none⟩ = some a3 ∧ w.cell? ⟨g, 4, none⟩ = some a4 ∧ w.frozen? ⟨g, 0, none⟩ = false ∧ w.frozen? ⟨g, 1, none⟩ = false ∧ w.frozen? ⟨g, 2, none⟩ = false ∧ w.frozen? ⟨g, 3, none⟩ = false ∧ w.frozen? ⟨g, 4, none⟩ = false := ⟨(blk_cell h 0).trans rfl, (blk_cell h 1).trans rfl, (blk_cell h 2).trans rfl, (blk_cell h 3).trans rfl, (blk_cell h 4).trans rfl, blk_frozen h 0, blk_frozen h 1, blk_frozen h 2, blk_frozen h 3, blk_frozen h 4⟩
theorem zR14 {p q : Prop} (x : q) (h : q → p := by intro h; (with_reducible repeat (first | apply Kd.R_alloc | apply Kd.R_drewN | apply Kd.R_drew)); exact h) : p := h x
theorem zK14 {p q : Prop} (x : q) (h : q → p := by intro h; (with_reducible repeat (first | refine blk_drewN ?_ _ | refine blk_drew ?_ | refine blk_alloc ?_ _)); exact h) : p := h x
theorem zA14 {p : Prop} [Decidable p] (h : decide p = true := by first | (with_reducible assumption) | assumption) : p := of_decide_eq_true h
theorem zT14 {p : Prop} (h : p := by (try simp only [List.map_toArray, List.map_cons, List.map_nil]); first | done | rfl | (simp only [List.length_drop, List.length_take]; rfl)) : p := h
theorem zC14 {p q : Prop} (x : q) (h : q → p := by intro h; repeat (first | exact h | (with_reducible refine Kd.C_alloc ?_ _) | (with_reducible refine Kd.C_drewN ?_ _) | (with_reducible refine Kd.C_drew ?_))) : p := h x
theorem zb14 {W w w1 : World} {g : Nat} {o : Obj} (x : W.heap[g]? = some o) (hb : Below w.heap.size w w1) (h : W.heap[g]? = some o → w.heap[g]? = some o := by intro h; (with_reducible repeat (first | refine blk_drewN ?_ _ | refine blk_drew ?_ | refine blk_alloc ?_ _)); exact h) : w1.heap[g]? = some o := blk_below (h x) hb
theorem zg14 {W w w1 : World} {g : Nat} {o : Obj} {row : Option Nat} (x : W.heap[g]? = some o) (hg : w.grownBy w1 row) (hne : some g ≠ row) (h : W.heap[g]? = some o → w.heap[g]? = some o := by intro h; (with_reducible repeat (first | refine blk_drewN ?_ _ | refine blk_drew ?_ | refine blk_alloc ?_ _)); exact h) : w1.heap[g]? = some o := blk_grown (h x) hg hne
theorem zn14 {W w : World} {g g' : Nat} {o : Obj} (x : W.heap[g]? = some o) (hg : g' = w.heap.size) (h : W.heap[g]? = some o → w.heap[g]? = some o := by intro h; (with_reducible repeat (first | refine blk_drewN ?_ _ | refine blk_drew ?_ | refine blk_alloc ?_ _)); exact h) : g ≠ g' := by rw [hg]; exact Nat.ne_of_lt (blk_lt (h x))
theorem zm14 {W w : World} {g g' : Nat} {o : Obj} (x : W.heap[g]? = some o) (hg : g' = w.heap.size) (h : W.heap[g]? = some o → w.heap[g]? = some o := by intro h; (with_reducible repeat (first | refine blk_drewN ?_ _ | refine blk_drew ?_ | refine blk_alloc ?_ _)); exact h) : g' ≠ g := by rw [hg]; exact Nat.ne_of_gt (blk_lt (h x))
theorem zP14 {p q : Prop} (x : q) (h : q → p := by intro h; (with_reducible repeat (first | refine blk_drewN ?_ _ | refine blk_drew ?_ | refine blk_alloc ?_ _)); exact h) : p := h x
theorem zV14 {a b : Act} (h : a = b := by simp only [Act.put, List.setIfInBounds_toArray, List.set_cons_zero, List.set_cons_succ, i64_w, i32_w]; rfl) : a = b := h
theorem zE14 {p : Prop} (h : p := by first | rfl | (simp [errW_none, errW_some] <;> rfl) | (simp [*, errW_none, errW_some] <;> rfl)) : p := h
theorem zB14_0 {p : Prop} (h : p := by repeat (first | (with_reducible first | exact HB.out | apply below_alloc | apply pw_below_drewN | apply below_drew1) | exact HB.out)) : p := h
theorem zB14_1 {p : Prop} (h : p := by repeat (first | (with_reducible first | exact HB.out | apply below_alloc | apply pw_below_drewN | apply below_drew1 | refine below_set ?_ GE323.out) | exact HB.out)) : p := h
theorem zB14_2 {p : Prop} (h : p := by repeat (first | (with_reducible first | exact HB.out | apply below_alloc | apply pw_below_drewN | apply below_drew1 | refine below_set ?_ GE323.out | refine below_set ?_ GE328.out) | exact HB.out)) : p := h
theorem zB14_3 {p : Prop} (h : p := by repeat (first | (with_reducible first | exact HB.out | apply below_alloc | apply pw_below_drewN | apply below_drew1 | refine below_set ?_ GB28.out | refine below_set ?_ GE323.out | refine below_set ?_ GE328.out) | exact HB.out)) : p := h
theorem zB14_4 {p : Prop} (h : p := by repeat (first | (with_reducible first | exact HB.out | apply below_alloc | apply pw_below_drewN | apply below_drew1 | refine below_set ?_ GE323.out | refine below_set ?_ GE333.out) | exact HB.out)) : p := h

/-! ### impl_Link: function 51 -/
mutual
def impl_Link.l0 : Nat → List (S107) → List Int → List Int → List (S107) → Int → Int → Option (List Int × Bool)
 | 0, _, _, _, _, _, _ => none
 | k + 1, x0, x4, x6, x25, x26, x27 => if x27 < x26 then (if 0 ≤ x27 then (if x27 < (x25.length : Int) then ((impl_Ins_100.f ((rd_T107 x25 x27).f1)).bind fun t324 => (impl_Link.l1 k x0 x4 x6 t324 x25 x26 x27 ((rd_T107 x25 x27).f2) (((rd_T107 x25 x27).f2).length : Int) 0)) else (none)) else (none)) else (if 0 ≤ (wrap64 (24 - (x6.length : Int))) then (if x6.length + (wrap64 (24 - (x6.length : Int)) : Int).toNat < 17592186044416 then (some ((x6 ++ List.replicate (wrap64 (24 - (x6.length : Int)) : Int).toNat 0), true)) else (none)) else (none))
def impl_Link.l1 : Nat → List (S107) → List Int → List Int → List (S115) → List (S107) → Int → Int → List (S118) → Int → Int → Option (List Int × Bool)
 | 0, _, _, _, _, _, _, _, _, _, _ => none
 | k + 1, x0, x4, x6, x9, x25, x26, x27, x35, x36, x37 => if x37 < x36 then (if 0 ≤ x37 then (if x37 < (x35.length : Int) then ((impl_PartAt.f x0 ((rd_T118 x35 x37).f1)).bind fun t329 => (if t329 < 0 then (some (([] : List Int), false)) else (if 0 ≤ t329 then (if t329 < (x4.length : Int) then (if 0 ≤ ((rd_T118 x35 x37).f0) then (if ((rd_T118 x35 x37).f0) < (x9.length : Int) then (impl_Link.l1 k x0 x4 x6 (x9.set (((rd_T118 x35 x37).f0) : Int).toNat (⟨(rd_T115 x9 ((rd_T118 x35 x37).f0)).f0, (rd_T115 x9 ((rd_T118 x35 x37).f0)).f1, (rd_T115 x9 ((rd_T118 x35 x37).f0)).f2, (rd_T115 x9 ((rd_T118 x35 x37).f0)).f3, rd x4 t329⟩ : S115)) x25 x26 x27 x35 x36 (wrap64 (x37 + 1))) else (none)) else (none)) else (none)) else (none)))) else (none)) else (none)) else (impl_Link.l2 k x0 x4 x6 x25 x26 x27 x9 (x9.length : Int) 0)
def impl_Link.l2 : Nat → List (S107) → List Int → List Int → List (S107) → Int → Int → List (S115) → Int → Int → Option (List Int × Bool)
 | 0, _, _, _, _, _, _, _, _, _ => none
 | k + 1, x0, x4, x6, x25, x26, x27, x57, x58, x59 => if x59 < x58 then (if 0 ≤ x59 then (if x59 < (x57.length : Int) then ((impl_Code.f ((rd_T115 x57 x59).f0) ((rd_T115 x57 x59).f1) ((rd_T115 x57 x59).f2) ((rd_T115 x57 x59).f3) ((rd_T115 x57 x59).f4)).bind fun bt334 => (if x6.length < 17592186044416 then (impl_Link.l2 k x0 x4 (x6 ++ [bt334.1]) x25 x26 x27 x57 x58 (wrap64 (x59 + 1))) else (none))) else (none)) else (none)) else (impl_Link.l0 k x0 x4 x6 x25 x26 (wrap64 (x27 + 1)))
end
def impl_Link.f (k : Nat) (l0 : List (S107)) : Option (List Int × Bool) := (impl_Layout.f k l0).bind fun bt312 => (if bt312.2 = true then (impl_Link.l0 k l0 bt312.1 (([] : List Int)) l0 (l0.length : Int) 0) else (some (([] : List Int), false)))
theorem impl_Link.mono_l : ∀ k, (∀ y0 y1 y2 y3 y4 y5, LeO (impl_Link.l0 k y0 y1 y2 y3 y4 y5) (impl_Link.l0 (k + 1) y0 y1 y2 y3 y4 y5)) ∧ (∀ y0 y1 y2 y3 y4 y5 y6 y7 y8 y9, LeO (impl_Link.l1 k y0 y1 y2 y3 y4 y5 y6 y7 y8 y9) (impl_Link.l1 (k + 1) y0 y1 y2 y3 y4 y5 y6 y7 y8 y9)) ∧ (∀ y0 y1 y2 y3 y4 y5 y6 y7 y8, LeO (impl_Link.l2 k y0 y1 y2 y3 y4 y5 y6 y7 y8) (impl_Link.l2 (k + 1) y0 y1 y2 y3 y4 y5 y6 y7 y8))
 | 0 => ⟨fun _ _ _ _ _ _ r h => by simp [impl_Link.l0] at h, fun _ _ _ _ _ _ _ _ _ _ r h => by simp [impl_Link.l1] at h, fun _ _ _ _ _ _ _ _ _ r h => by simp [impl_Link.l2] at h⟩
 | k + 1 => by
  obtain ⟨ih0, ih1, ih2⟩ := impl_Link.mono_l k
  refine ⟨?_, ?_, ?_⟩
  ·intro y0 y1 y2 y3 y4 y5
   unfold impl_Link.l0
   repeat' first
   | (with_reducible exact ih0 _ _ _ _ _ _)
   | (with_reducible exact ih1 _ _ _ _ _ _ _ _ _ _)
   | (with_reducible exact ih2 _ _ _ _ _ _ _ _ _)
   | (with_reducible exact impl_Layout.mono _ _)
   | (with_reducible exact LeO.refl _)
   | (with_reducible exact LeO.none _)
   | (with_reducible refine LeO.ite ?_ ?_)
   | (with_reducible refine LeO.bind ?_ (fun _ => ?_))
   | exact ih0 _ _ _ _ _ _
   | exact ih1 _ _ _ _ _ _ _ _ _ _
   | exact ih2 _ _ _ _ _ _ _ _ _
   | exact impl_Layout.mono _ _
   | exact LeO.none _
   | refine LeO.ite ?_ ?_
   | refine LeO.bind ?_ (fun _ => ?_)
  ·intro y0 y1 y2 y3 y4 y5 y6 y7 y8 y9
   unfold impl_Link.l1
   repeat' first
   | (with_reducible exact ih0 _ _ _ _ _ _)
   | (with_reducible exact ih1 _ _ _ _ _ _ _ _ _ _)
   | (with_reducible exact ih2 _ _ _ _ _ _ _ _ _)
   | (with_reducible exact impl_Layout.mono _ _)
   | (with_reducible exact LeO.refl _)
   | (with_reducible exact LeO.none _)
   | (with_reducible refine LeO.ite ?_ ?_)
   | (with_reducible refine LeO.bind ?_ (fun _ => ?_))
   | exact ih0 _ _ _ _ _ _
   | exact ih1 _ _ _ _ _ _ _ _ _ _
   | exact ih2 _ _ _ _ _ _ _ _ _
   | exact impl_Layout.mono _ _
   | exact LeO.none _
   | refine LeO.ite ?_ ?_
   | refine LeO.bind ?_ (fun _ => ?_)
  ·intro y0 y1 y2 y3 y4 y5 y6 y7 y8
   unfold impl_Link.l2
   repeat' first
   | (with_reducible exact ih0 _ _ _ _ _ _)
   | (with_reducible exact ih1 _ _ _ _ _ _ _ _ _ _)
   | (with_reducible exact ih2 _ _ _ _ _ _ _ _ _)
   | (with_reducible exact impl_Layout.mono _ _)
   | (with_reducible exact LeO.refl _)
   | (with_reducible exact LeO.none _)
   | (with_reducible refine LeO.ite ?_ ?_)
   | (with_reducible refine LeO.bind ?_ (fun _ => ?_))
   | exact ih0 _ _ _ _ _ _
   | exact ih1 _ _ _ _ _ _ _ _ _ _
   | exact ih2 _ _ _ _ _ _ _ _ _
   | exact impl_Layout.mono _ _
   | exact LeO.none _
   | refine LeO.ite ?_ ?_
   | refine LeO.bind ?_ (fun _ => ?_)
theorem impl_Link.mono : ∀ a0 k, LeO (impl_Link.f k a0) (impl_Link.f (k + 1) a0) := by
 intro a0 k
 obtain ⟨ih0, ih1, ih2⟩ := impl_Link.mono_l k
 unfold impl_Link.f
 repeat' first
   | (with_reducible exact ih0 _ _ _ _ _ _)
   | (with_reducible exact ih1 _ _ _ _ _ _ _ _ _ _)
   | (with_reducible exact ih2 _ _ _ _ _ _ _ _ _)
   | (with_reducible exact impl_Layout.mono _ _)
   | (with_reducible exact LeO.refl _)
   | (with_reducible exact LeO.none _)
   | (with_reducible refine LeO.ite ?_ ?_)
   | (with_reducible refine LeO.bind ?_ (fun _ => ?_))
   | exact ih0 _ _ _ _ _ _
   | exact ih1 _ _ _ _ _ _ _ _ _ _
   | exact ih2 _ _ _ _ _ _ _ _ _
   | exact impl_Layout.mono _ _
   | exact LeO.none _
   | refine LeO.ite ?_ ?_
   | refine LeO.bind ?_ (fun _ => ?_)
def impl_Link.T15 : Bool × List (List Nat × List Nat) := (true, [([], []), ([], []), ([1], [1]), ([], []), ([], []), ([3, 4], [3, 4]), ([5], [5]), ([0, 2, 0, 1, 2, 3, 4, 5, 6], [0, 2]), ([7, 0, 1, 2, 3, 4, 5, 6], [7]), ([8, 6, 0, 1, 2, 3, 4, 5, 6], [6, 8])])
def impl_Link.B15 : List Nat := [0, 0, 2, 0, 0, 24, 56, 127, 255, 511]
theorem impl_Link.tab15 : rtab .any (opsOf Try.f51 15) = impl_Link.T15 := by kernel_rfl
theorem impl_Link.bits15 : waitsOk impl_Link.T15.2 impl_Link.B15 = true := by kernel_rfl
set_option maxHeartbeats 8000000 in
set_option maxRecDepth 100000 in
theorem impl_Link.calls (k : Nat) (A0 : Option Addr) (c0 : Nat) (l0 : List (S107)) (r1 : List Int) (r2 : Bool) (w : World) (hr0 : Kd.C k107 w A0 l0.length l0) (hc0 : l0.length ≤ c0) (h : impl_Link.f k l0 = some (r1, r2)) :
  Calls Try.prog 51 #[.slice A0 l0.length c0] w fun e w' => ∃ v0_ : Value, e = .returned (.tuple #[v0_, .bool r2]) ∧ Kd.R (Kd.int .i64) 3 w' w.heap.size (fun _ => True) v0_ r1 ∧ Below w.heap.size w w' := by
 have hu107 := Try.underlying107
 have hu118 := Try.underlying118
 have hu115 := Try.underlying115
 have HR0 := Aside0.mk hr0
 have HC0 := Aside0.mk hc0
 clear hr0 hc0
 have HB := Aside0.mk (Below.refl w.heap.size w)
 have H : ((impl_Layout.f k l0).bind fun bt312 => (if bt312.2 = true then (impl_Link.l0 k l0 bt312.1 (([] : List Int)) l0 (l0.length : Int) 0) else (some (([] : List Int), false)))) = some (r1, r2) := h
 clear h
 replace H := Option.bind_eq_some_iff.mp H
 obtain ⟨⟨t312, t313⟩, A20, H⟩ := H
 replace H : (if t313 = true then (impl_Link.l0 k l0 t312 (([] : List Int)) l0 (l0.length : Int) 0) else (some (([] : List Int), false))) = some (r1, r2) := H
 have A2 := Aside0.mk A20
 clear A20
 by_cases c3 : t313 = true
 rotate_left
 ·replace c3 := Bool.eq_false_iff.mpr c3
  subst c3
  have H1 : (some (([] : List Int), false)) = some (r1, r2) := by rw [if_neg (show ¬ (false = true) by decide)] at H; exact H
  clear H
  have H := H1
  clear H1
  simp only [Option.some.injEq, Prod.mk.injEq] at H
  obtain ⟨rfl, rfl⟩ := H
  go_enter Try.func51, Try.ntmps51
  go_wp2_with (first | ((with_reducible refine gate_callee (f := 47) rfl ?_); refine goesL_ (some 19) rfl rfl Try.func47 (by kernel_rfl) rfl #[.slice A0 l0.length c0] rfl zT14 ?_; (with_reducible refine (impl_Layout.calls k _ _ l0 t312 false _ ?side1 ?side2 A2.out).mono ?_); (case side1 => exact zC14 HR0.out); (case side2 => exact HC0.out); rintro e w52 ⟨v314, rfl, ho0, hb⟩; refine ⟨_, rfl, ?_⟩; have n0_ := Aside0.mk (Kd.R_lower ho0 (below_size (zB14_0))); have n1_ := Aside0.mk (below_step (zB14_0) hb); clear HB; have HO315 := n0_; have HB := n1_; clear n0_ n1_; (try clear hb); (try clear hb2); (try clear hk); (try clear hi); (try clear ho0)))
  go_ret2
  exact ⟨_, zE14, by first | exact Kd.R_nil _ _ _ _ _ | exact Kd.N_nil _ _ _ _ _ | exact Kd.V_nil _ _ _ _ _ | exact Kd.Q_nil _ _ _ _ _ | exact Kd.S_nil _ _ _ _ _, zB14_0⟩
 subst c3
 have H1 : (impl_Link.l0 k l0 t312 (([] : List Int)) l0 (l0.length : Int) 0) = some (r1, r2) := by rw [if_pos rfl] at H; exact H
 clear H
 have H := H1
 clear H1
 obtain ⟨y316, hy316⟩ : ∃ y_ : List Int, y_ = (([] : List Int)) := ⟨_, rfl⟩
 replace H : (impl_Link.l0 k l0 t312 y316 l0 (l0.length : Int) 0) = some (r1, r2) := by first | (rw [hy316]; with_reducible exact H) | (have H2_ := (Option.bind_some _ _).symm.trans H; rw [hy316]; with_reducible exact H2_) | (have H2_ := (Option.bind_some _ _).symm.trans H; with_reducible exact H2_) | with_reducible exact H | (rw [hy316]; exact H) | exact H
 have Ny316 := Aside0.mk hy316
 clear hy316
 have H' := Aside0.mk H
 clear H
 go_enter Try.func51, Try.ntmps51
 go_wp2_with (first | ((with_reducible refine gate_callee (f := 47) rfl ?_); refine goesL_ (some 19) rfl rfl Try.func47 (by kernel_rfl) rfl #[.slice A0 l0.length c0] rfl zT14 ?_; (with_reducible refine (impl_Layout.calls k _ _ l0 t312 true _ ?side1 ?side2 A2.out).mono ?_); (case side1 => exact zC14 HR0.out); (case side2 => exact HC0.out); rintro e w4 ⟨v314, rfl, ho0, hb⟩; refine ⟨_, rfl, ?_⟩; have n0_ := Aside0.mk (Kd.R_lower ho0 (below_size (zB14_0))); have n1_ := Aside0.mk (below_step (zB14_0) hb); clear HB; have HO315 := n0_; have HB := n1_; clear n0_ n1_; (try clear hb); (try clear hb2); (try clear hk); (try clear hi); (try clear ho0)) | ((with_reducible refine gate_dst (N := 24) rfl ?_); refine Kd.R_lit (Kd.int .i64) _ 3 ?hg (N := 24) ?hd (xs := ([] : List Int)) (inner := []) (ok := fun _ => True) (okp := fun _ => True) ?hr ?hp (fun _ hk => hk) trivial (Below.refl _ _) (Nat.le_refl _) (by simp) ?_; (case hd => rfl); (case hg => rfl); (case hr => first | (go_simp; done) | (go_simp; rfl)); (case hp => exact (Reps.none _ _)); intro v317 w5 ho6 hb hg_ hnew_; clear hg_ hnew_; (first | rw [← Ny316.out] at ho6 | (simp only [Int.reduceToNat] at ho6; rw [← Ny316.out] at ho6)); have n0_ := Aside0.mk (Kd.R_elder' (zR14 HO315.out) (Kd.R_base ho6) hb); have n1_ := Aside0.mk (Kd.R_lower (Kd.R_new' ho6 (Kd.R_lt (zR14 HO315.out))) (below_size (zB14_0))); have n2_ := Aside0.mk (below_step (zB14_0) hb); clear HO315; clear HB; have HO315 := n0_; have HO318 := n1_; have HB := n2_; clear n0_ n1_ n2_; clear hb ho6))
 go_loopg [6, 27] k (fun kq v6 v27 w' => ∃ (x6_1 : List Int) (x27_1 : Int), v27 = .int .i64 x27_1 ∧ Aside0 (impl_Link.l0 kq l0 t312 x6_1 l0 (l0.length : Int) x27_1 = some (r1, r2)) ∧ Aside0 (kq ≤ k) ∧ Aside0 (Kd.R (Kd.int .i64) 3 w' w.heap.size (fun k_ => some k_ ≠ (v6 : Value).ownBlock) v314 t312) ∧ Aside0 (Kd.R (Kd.int .i64) 3 w' w.heap.size (fun k_ => some k_ ≠ (v314 : Value).ownBlock) v6 x6_1) ∧ Aside0 (Below w.heap.size w w'))
 case atStart => exact ⟨(y316), (0), (by first | rfl | (simp; done) | (simp [*]; done)), H', ⟨Nat.le_refl _⟩, ⟨by (with_reducible repeat (first | apply Kd.R_alloc | apply Kd.R_drewN | apply Kd.R_drew)); exact Kd.R_mono HO315.out (fun _ hk => hk.2)⟩, ⟨by (with_reducible repeat (first | apply Kd.R_alloc | apply Kd.R_drewN | apply Kd.R_drew)); exact Kd.R_mono HO318.out (fun _ hk => hk.2)⟩, ⟨zB14_0⟩⟩
 case round =>
  clear H'
  try clear p2
  try clear c3
  try clear c4
  try clear c5
  obtain ⟨x6_1, x27_1, rfl, HA, HK1, HO_4, HO_6, HB⟩ := hrel
  cases gk with
  | zero => exact absurd HA.out (by simp [impl_Link.l0])
  | succ k1 =>
   have H := HA.out
   clear HA
   simp only [impl_Link.l0] at H
   by_cases c7 : x27_1 < (l0.length : Int)
   rotate_left
   ·rw [if_neg c7] at H
    have c7b0 : decide (x27_1 < (l0.length : Int)) = false := decide_eq_false c7
    clear c7
    obtain ⟨ji47, hji47⟩ : ∃ j_ : Int, (wrap64 (24 - (x6_1.length : Int))) = j_ := ⟨_, rfl⟩
    replace H : (if 0 ≤ (ji47) then (if x6_1.length + (ji47 : Int).toNat < 17592186044416 then (some ((x6_1 ++ List.replicate (ji47 : Int).toNat 0), true)) else (none)) else (none)) = some (r1, r2) := by first | (rw [hji47] at H; exact H) | (simp only [hji47] at H ⊢; exact H)
    have hji47w : (IntKind.i64.wrap (24 - (x6_1.length : Int))) = ji47 := (i64_w _).trans hji47
    by_cases c48 : 0 ≤ (ji47)
    rotate_left
    ·rw [if_neg c48] at H
     exact absurd H (by simp)
    rw [if_pos c48] at H
    have c48b0 := eq_true c48
    have c48b1 : decide (0 ≤ (ji47)) = true := decide_eq_true c48
    clear c48
    by_cases c49 : x6_1.length + (ji47 : Int).toNat < 17592186044416
    rotate_left
    ·rw [if_neg c49] at H
     exact absurd H (by simp)
    rw [if_pos c49] at H
    have LMc49 := Aside0.mk c49
    clear c49
    obtain ⟨y319, hy319⟩ : ∃ y_ : List Int, y_ = (x6_1 ++ List.replicate (ji47 : Int).toNat 0) := ⟨_, rfl⟩
    replace H : (some (y319, true)) = some (r1, r2) := by first | (rw [hy319]; with_reducible exact H) | (have H2_ := (Option.bind_some _ _).symm.trans H; rw [hy319]; with_reducible exact H2_) | (have H2_ := (Option.bind_some _ _).symm.trans H; with_reducible exact H2_) | with_reducible exact H | (rw [hy319]; exact H) | exact H
    have Ny319 := Aside0.mk hy319
    clear hy319
    simp only [Option.some.injEq, Prod.mk.injEq] at H
    obtain ⟨rfl, rfl⟩ := H
    obtain ⟨Ao50, co50, eo50⟩ := Kd.R_slice HO_6.out
    subst eo50
    go_wp2_with (first | (at_builtin; refine Kd.R_append_zeros (Kd.int .i64) (w0 := w) w.heap.size rfl (.tmp 74) (.tmp 77) 33 3 3 (.int .i64 0) 8 rfl Try.underlying33 Try.underlying3 info3 rfl (by decide) (by omega) (.slice Ao50 x6_1.length co50) x6_1 0 (ji47 : Int) (fun k_ => some k_ ≠ (v314 : Value).ownBlock) rfl rfl rfl ?aF ?aO (zA14) ?aB ?aS ?aL ?_; (case aB => exact (zB14_0)); (case aF => exact (fun k_ hk => Kd.fresh' (Kd.R_lt (zR14 HO_4.out)) k_ hk)); (case aO => exact (zR14 HO_6.out)); (case aS => exact (below_size (zB14_0))); (case aL => have := LMc49.out; omega); intro v320 w51 ho hb hg hat; rw [← Ny319.out] at ho; have n0_ := Aside0.mk (Kd.R_after (ok := (fun _ => True)) (by (with_reducible repeat (first | apply Kd.R_alloc | apply Kd.R_drewN | apply Kd.R_drew)); exact Kd.R_mono HO_4.out (fun _ hk => ⟨trivial, hk⟩)) hg hat); have n1_ := Aside0.mk (hb); have n2_ := Aside0.mk (ho); clear HO_4; clear HB; clear HO_6; have HO_4 := n0_; have HB := n1_; have HO321 := n2_; clear n0_ n1_ n2_; clear ho hb hg hat))
    go_ret2
    exact ⟨_, by first | rfl | (simp [errW_none, errW_some] <;> rfl) | (simp only [← hji47]; first | rfl | (simp [errW_none, errW_some] <;> rfl)) | (simp [*, errW_none, errW_some] <;> rfl), by (with_reducible repeat (first | apply Kd.R_alloc | apply Kd.R_drewN | apply Kd.R_drew)); exact Kd.R_mono HO321.out (fun _ hk => trivial), zB14_0⟩
   rw [if_pos c7] at H
   have c7b0 : decide (x27_1 < (l0.length : Int)) = true := decide_eq_true c7
   clear c7
   by_cases c8 : 0 ≤ x27_1
   rotate_left
   ·rw [if_neg c8] at H
    exact absurd H (by simp)
   rw [if_pos c8] at H
   have c8b0 : decide (0 ≤ x27_1) = true := decide_eq_true c8
   clear c8
   by_cases c9 : x27_1 < (l0.length : Int)
   rotate_left
   ·rw [if_neg c9] at H
    exact absurd H (by simp)
   rw [if_pos c9] at H
   have c9b0 : decide (x27_1 < (l0.length : Int)) = true := decide_eq_true c9
   clear c9
   replace H := Option.bind_eq_some_iff.mp H
   obtain ⟨t324, A100, H⟩ := H
   replace H : (impl_Link.l1 k1 l0 t312 x6_1 t324 l0 (l0.length : Int) x27_1 ((rd_T107 l0 x27_1).f2) (((rd_T107 l0 x27_1).f2).length : Int) 0) = some (r1, r2) := H
   have A10 := Aside0.mk A100
   clear A100
   have H' := Aside0.mk H
   clear H
   have p322 : 0 ≤ (x27_1 : Int) := zA14
   have q322 : x27_1 < (l0.length : Int) := zA14
   obtain ⟨ad322, A322_1, c322_1, A322_2, c322_2, e322, hx322_0, hx322_1, hx322_2, hl322_1, hi322_1, hl322_2, hi322_2⟩ := at_T107 HR0.out x27_1 p322 q322
   cases e322
   replace hx322_0 := (HB.out.cell (World.block_lt_of_cell? w _ hx322_0)).trans hx322_0
   replace hx322_1 := (HB.out.cell (World.block_lt_of_cell? w _ hx322_1)).trans hx322_1
   replace hx322_2 := (HB.out.cell (World.block_lt_of_cell? w _ hx322_2)).trans hx322_2
   have HR322_1 := Aside0.mk hi322_1
   have HC322_1 := Aside0.mk hl322_1
   clear hi322_1 hl322_1
   have HR322_2 := Aside0.mk hi322_2
   have HC322_2 := Aside0.mk hl322_2
   clear hi322_2 hl322_2
   replace p322 := eq_true p322
   replace q322 := eq_true q322
   go_wp2_with (first | ((with_reducible refine gate_dst (N := 8) rfl ?_); refine box_event ?hg (N := 8) ?hd (cs := #[.string (⟨#[]⟩ : ByteArray), .slice none 0 0, .slice none 0 0]) (t := 107) ?hr ?_; (case hd => rfl); (case hg => rfl); (case hr => first | (go_simp; done) | (go_simp; rfl)); intro gb323 hg w11 hbox hb; have n0_ := Aside0.mk (Kd.R_below (zR14 HO_4.out) hb); have n1_ := Aside0.mk (Kd.R_below (zR14 HO_6.out) hb); have n2_ := Aside0.mk (below_step (zB14_0) hb); have n3_ := Aside0.mk (hbox); have n4_ := Aside0.mk ((by rw [hg]; exact (below_size (zB14_0)) : w.heap.size ≤ gb323)); have n5_ := Aside0.mk ((by rw [hg]; exact (below_size (zB14_0)) : w.heap.size ≤ gb323)); clear HO_4; clear HO_6; clear HB; have HO_4 := n0_; have HO_6 := n1_; have HB := n2_; have BK323 := n3_; have GW323 := n4_; have GE323 := n5_; clear n0_ n1_ n2_ n3_ n4_ n5_; clear hb hbox hg; obtain ⟨hcz12_0, hcz12_1, hcz12_2, hfz12_0, hfz12_1, hfz12_2⟩ := zc14_3 (w := w11) BK323.out) | ((with_reducible refine gate_callee (f := 100) rfl ?_); refine goesL_ (some 33) rfl rfl Try.func100 (by kernel_rfl) rfl #[.slice A322_1 ((rd_T107 l0 x27_1).f1).length c322_1] rfl zT14 ?_; (with_reducible refine (impl_Ins_100.calls _ _ ((rd_T107 l0 x27_1).f1) t324 _ ?side1 ?side2 A10.out).mono ?_); (case side1 => exact Kd.C_below HR322_1.out (zB14_1)); (case side2 => exact HC322_1.out); rintro e w13 ⟨v325, rfl, ho0, hb⟩; refine ⟨_, rfl, ?_⟩; have n0_ := Aside0.mk (Kd.R_below (by (with_reducible repeat (first | apply Kd.R_alloc | apply Kd.R_drewN | apply Kd.R_drew)); exact (Kd.R_mono (Kd.R_far (p := ⟨gb323, 2, none⟩) (Kd.R_far (p := ⟨gb323, 1, none⟩) (Kd.R_far (p := ⟨gb323, 0, none⟩) (Kd.R_types HO_4.out BK323.out (by decide)) (fun _ hk => hk.2) (.string ((rd_T107 l0 x27_1).f0))) (fun _ hk => hk.2) (.slice A322_1 ((rd_T107 l0 x27_1).f1).length c322_1)) (fun _ hk => hk.2) (.slice A322_2 ((rd_T107 l0 x27_1).f2).length c322_2)) (fun _ h_ => h_.1))) hb); have n1_ := Aside0.mk (Kd.R_below (by (with_reducible repeat (first | apply Kd.R_alloc | apply Kd.R_drewN | apply Kd.R_drew)); exact (Kd.R_mono (Kd.R_far (p := ⟨gb323, 2, none⟩) (Kd.R_far (p := ⟨gb323, 1, none⟩) (Kd.R_far (p := ⟨gb323, 0, none⟩) (Kd.R_types HO_6.out BK323.out (by decide)) (fun _ hk => hk.2) (.string ((rd_T107 l0 x27_1).f0))) (fun _ hk => hk.2) (.slice A322_1 ((rd_T107 l0 x27_1).f1).length c322_1)) (fun _ hk => hk.2) (.slice A322_2 ((rd_T107 l0 x27_1).f2).length c322_2)) (fun _ h_ => h_.1))) hb); have n2_ := Aside0.mk (Kd.R_lower ho0 (below_size (zB14_1))); have n3_ := Aside0.mk (blk_below (g := gb323) (o := .cells #[.string ((rd_T107 l0 x27_1).f0), .slice A322_1 ((rd_T107 l0 x27_1).f1).length c322_1, .slice A322_2 ((rd_T107 l0 x27_1).f2).length c322_2] 107 (0, 0)) (by refine zP14 ?_; refine blk_put (cs := #[.string ((rd_T107 l0 x27_1).f0), .slice A322_1 ((rd_T107 l0 x27_1).f1).length c322_1, .slice none 0 0]) ?_ 2 _ rfl; refine zP14 ?_; refine blk_put (cs := #[.string ((rd_T107 l0 x27_1).f0), .slice none 0 0, .slice none 0 0]) ?_ 1 _ rfl; refine zP14 ?_; refine blk_put (cs := #[.string (⟨#[]⟩ : ByteArray), .slice none 0 0, .slice none 0 0]) ?_ 0 _ rfl; refine zP14 ?_; exact BK323.out) hb); have n4_ := Aside0.mk (below_step (zB14_1) hb); clear HO_4; clear HO_6; clear BK323; clear HB; have HO_4 := n0_; have HO_6 := n1_; have HO326 := n2_; have BK323 := n3_; have HB := n4_; clear n0_ n1_ n2_ n3_ n4_; (try clear hb); (try clear hb2); (try clear hk); (try clear hi); (try clear ho0); obtain ⟨hcz14_0, hcz14_1, hcz14_2, hfz14_0, hfz14_1, hfz14_2⟩ := zc14_3 (w := w13) BK323.out))
   go_loopg [37] k1 (fun kq v37 w' => ∃ (x9_2 : List (S115)) (x37_2 : Int), v37 = .int .i64 x37_2 ∧ Aside0 (impl_Link.l1 kq l0 t312 x6_1 x9_2 l0 (l0.length : Int) x27_1 ((rd_T107 l0 x27_1).f2) (((rd_T107 l0 x27_1).f2).length : Int) x37_2 = some (r1, r2)) ∧ Aside0 (kq ≤ k1) ∧ Aside0 (Kd.R (Kd.int .i64) 3 w' w.heap.size (fun k_ => some k_ ≠ (u6 : Value).ownBlock) v314 t312) ∧ Aside0 (Kd.R (Kd.int .i64) 3 w' w.heap.size (fun k_ => some k_ ≠ (v314 : Value).ownBlock) u6 x6_1) ∧ Aside0 (Kd.R k115 115 w' w.heap.size (fun _ => True) v325 x9_2) ∧ Aside0 (w'.heap[gb323]? = some (.cells #[.string ((rd_T107 l0 x27_1).f0), (.slice A322_1 ((rd_T107 l0 x27_1).f1).length c322_1), (.slice A322_2 ((rd_T107 l0 x27_1).f2).length c322_2)] 107 (0, 0))) ∧ Aside0 (Below w.heap.size w w'))
   case atStart => exact ⟨(t324), (0), (by first | rfl | (simp; done) | (simp [*]; done)), H', ⟨Nat.le_refl _⟩, ⟨zR14 HO_4.out⟩, ⟨zR14 HO_6.out⟩, ⟨zR14 HO326.out⟩, ⟨zK14 BK323.out⟩, ⟨zB14_1⟩⟩
   case round =>
    clear H'
    try clear c1
    try clear p2
    try clear c3
    try clear p3
    try clear q3
    try clear hx3
    try clear c4
    try clear c5
    try clear c7
    try clear c7b0
    try clear c8
    try clear c8b0
    try clear c9
    try clear c9b0
    try clear c10
    try clear hcz12_0
    try clear hcz12_1
    try clear hcz12_2
    try clear hcz14_0
    try clear hcz14_1
    try clear hcz14_2
    try clear hfz12_0
    try clear hfz12_1
    try clear hfz12_2
    try clear hfz14_0
    try clear hfz14_1
    try clear hfz14_2
    try clear hx322_0
    try clear hx322_1
    try clear hx322_2
    try clear p2
    try clear p322
    try clear q322
    obtain ⟨x9_2, x37_2, rfl, HA, HK2, HO_4, HO_6, HO_9, BK323, HB⟩ := hrel
    cases gk with
    | zero => exact absurd HA.out (by simp [impl_Link.l1])
    | succ k2 =>
     have H := HA.out
     clear HA
     simp only [impl_Link.l1] at H
     by_cases c15 : x37_2 < (((rd_T107 l0 x27_1).f2).length : Int)
     rotate_left
     ·rw [if_neg c15] at H
      have c15b0 : decide (x37_2 < (((rd_T107 l0 x27_1).f2).length : Int)) = false := decide_eq_false c15
      clear c15
      have H' := Aside0.mk H
      clear H
      obtain ⟨Ao36, co36, eo36⟩ := Kd.R_slice HO_9.out
      subst eo36
      go_wp2
      go_loopg [6, 59] k2 (fun kq v6 v59 w' => ∃ (x6_3 : List Int) (x59_3 : Int), v59 = .int .i64 x59_3 ∧ Aside0 (impl_Link.l2 kq l0 t312 x6_3 l0 (l0.length : Int) x27_1 x9_2 (x9_2.length : Int) x59_3 = some (r1, r2)) ∧ Aside0 (kq ≤ k2) ∧ Aside0 (Kd.R (Kd.int .i64) 3 w' w.heap.size (fun k_ => some k_ ≠ (v6 : Value).ownBlock) v314 t312) ∧ Aside0 (Kd.R (Kd.int .i64) 3 w' w.heap.size (fun k_ => some k_ ≠ (v314 : Value).ownBlock) v6 x6_3) ∧ Aside0 (Kd.R k115 115 w' w.heap.size (fun _ => True) (.slice Ao36 x9_2.length co36) x9_2) ∧ Aside0 (w'.heap[gb323]? = some (.cells #[.string ((rd_T107 l0 x27_1).f0), (.slice A322_1 ((rd_T107 l0 x27_1).f1).length c322_1), (.slice A322_2 ((rd_T107 l0 x27_1).f2).length c322_2)] 107 (0, 0))) ∧ Aside0 (Below w.heap.size w w'))
      case atStart => exact ⟨(x6_1), (0), (by first | rfl | (simp; done) | (simp [*]; done)), H', ⟨Nat.le_refl _⟩, ⟨zR14 HO_4.out⟩, ⟨zR14 HO_6.out⟩, ⟨zR14 HO_9.out⟩, ⟨zK14 BK323.out⟩, ⟨zB14_1⟩⟩
      case round =>
       clear H'
       try clear c1
       try clear c2
       try clear p2
       try clear q2
       try clear hx2
       try clear hf2
       try clear c3
       try clear p3
       try clear q3
       try clear hx3
       try clear c4
       try clear c5
       try clear p6
       try clear c7
       try clear c7b0
       try clear c8
       try clear c8b0
       try clear c9
       try clear c9b0
       try clear c10
       try clear c15
       try clear c15b0
       try clear c16
       try clear c16b0
       try clear c17
       try clear c17b0
       try clear c19
       try clear c19b0
       try clear c21
       try clear c24
       try clear c24b0
       try clear c25
       try clear c25b0
       try clear c26
       try clear c26b0
       try clear c27
       try clear c27b0
       try clear c28
       try clear p28
       try clear q28
       try clear hx28
       try clear hf28
       try clear c30
       try clear c32
       try clear p32
       try clear q32
       try clear hx32
       try clear p33
       try clear q33
       try clear hx33
       try clear c35
       try clear hcz12_0
       try clear hcz12_1
       try clear hcz12_2
       try clear hcz14_0
       try clear hcz14_1
       try clear hcz14_2
       try clear hcz22_0
       try clear hcz22_1
       try clear hcz31_0
       try clear hcz31_1
       try clear hfz12_0
       try clear hfz12_1
       try clear hfz12_2
       try clear hfz14_0
       try clear hfz14_1
       try clear hfz14_2
       try clear hfz22_0
       try clear hfz22_1
       try clear hfz31_0
       try clear hfz31_1
       try clear hx28_0
       try clear hx28_1
       try clear hx28_2
       try clear hx28_3
       try clear hx28_4
       try clear hx322_0
       try clear hx322_1
       try clear hx322_2
       try clear hx327_0
       try clear hx327_1
       try clear hx330_0
       try clear p2
       try clear p28
       try clear p3
       try clear p322
       try clear p327
       try clear p330
       try clear q28
       try clear q3
       try clear q322
       try clear q327
       try clear q330
       obtain ⟨x6_3, x59_3, rfl, HA, HK3, HO_4, HO_6, HO_57, BK323, HB⟩ := hrel
       cases gk with
       | zero => exact absurd HA.out (by simp [impl_Link.l2])
       | succ k3 =>
        have H := HA.out
        clear HA
        simp only [impl_Link.l2] at H
        by_cases c37 : x59_3 < (x9_2.length : Int)
        rotate_left
        ·rw [if_neg c37] at H
         have c37b0 : decide (x59_3 < (x9_2.length : Int)) = false := decide_eq_false c37
         clear c37
         have H' := Aside0.mk H
         clear H
         go_wp2
         go_roundg k3
         case measure => have := HK1.out; have := HK2.out; have := HK3.out; omega
         case rel => exact ⟨(x6_3), (wrap64 (x27_1 + 1)), (by first | rfl | (simp; done) | (simp [*]; done)), H', ⟨by have := HK1.out; have := HK2.out; have := HK3.out; omega⟩, ⟨zR14 HO_4.out⟩, ⟨zR14 HO_6.out⟩, ⟨zB14_1⟩⟩
        rw [if_pos c37] at H
        have c37b0 : decide (x59_3 < (x9_2.length : Int)) = true := decide_eq_true c37
        clear c37
        by_cases c38 : 0 ≤ x59_3
        rotate_left
        ·rw [if_neg c38] at H
         exact absurd H (by simp)
        rw [if_pos c38] at H
        have c38b0 : decide (0 ≤ x59_3) = true := decide_eq_true c38
        clear c38
        by_cases c39 : x59_3 < (x9_2.length : Int)
        rotate_left
        ·rw [if_neg c39] at H
         exact absurd H (by simp)
        rw [if_pos c39] at H
        have c39b0 : decide (x59_3 < (x9_2.length : Int)) = true := decide_eq_true c39
        clear c39
        replace H := Option.bind_eq_some_iff.mp H
        obtain ⟨⟨t334, t335⟩, A400, H⟩ := H
        replace H : (if x6_3.length < 17592186044416 then (impl_Link.l2 k3 l0 t312 (x6_3 ++ [t334]) l0 (l0.length : Int) x27_1 x9_2 (x9_2.length : Int) (wrap64 (x59_3 + 1))) else (none)) = some (r1, r2) := H
        have A40 := Aside0.mk A400
        clear A400
        by_cases c41 : x6_3.length < 17592186044416
        rotate_left
        ·rw [if_neg c41] at H
         exact absurd H (by simp)
        rw [if_pos c41] at H
        have LMc41 := Aside0.mk c41
        clear c41
        obtain ⟨y336, hy336⟩ : ∃ y_ : List Int, y_ = (x6_3 ++ [t334]) := ⟨_, rfl⟩
        replace H : (impl_Link.l2 k3 l0 t312 y336 l0 (l0.length : Int) x27_1 x9_2 (x9_2.length : Int) (wrap64 (x59_3 + 1))) = some (r1, r2) := by first | (rw [hy336]; with_reducible exact H) | (have H2_ := (Option.bind_some _ _).symm.trans H; rw [hy336]; with_reducible exact H2_) | (have H2_ := (Option.bind_some _ _).symm.trans H; with_reducible exact H2_) | with_reducible exact H | (rw [hy336]; exact H) | exact H
        have Ny336 := Aside0.mk hy336
        clear hy336
        have H' := Aside0.mk H
        clear H
        have p332 : 0 ≤ (x59_3 : Int) := zA14
        have q332 : x59_3 < (x9_2.length : Int) := zA14
        obtain ⟨ad332, e332, hx332_0, hx332_1, hx332_2, hx332_3, hx332_4⟩ := at_T115 (Kd.R_reads' HO_57.out).2.2 x59_3 p332 q332
        cases e332
        replace p332 := eq_true p332
        replace q332 := eq_true q332
        go_wp2_with (first | ((with_reducible refine gate_dst (N := 14) rfl ?_); refine box_event ?hg (N := 14) ?hd (cs := #[.int .i64 0, .int .i64 0, .int .i64 0, .int .i64 0, .int .i64 0]) (t := 115) ?hr ?_; (case hd => rfl); (case hg => rfl); (case hr => first | (go_simp; done) | (go_simp; rfl)); intro gb333 hg w42 hbox hb; have n0_ := Aside0.mk (Kd.R_below (zR14 HO_4.out) hb); have n1_ := Aside0.mk (Kd.R_below (zR14 HO_6.out) hb); have n2_ := Aside0.mk (Kd.R_below (Kd.R_elderB (zR14 HO_57.out) gb333 (Nat.le_of_eq hg.symm)) hb); have n3_ := Aside0.mk (zb14 BK323.out hb); have n4_ := Aside0.mk (below_step (zB14_1) hb); have n5_ := Aside0.mk (hbox); have n6_ := Aside0.mk ((by rw [hg]; exact (below_size (zB14_1)) : w.heap.size ≤ gb333)); have n7_ := Aside0.mk ((by rw [hg]; exact (below_size (zB14_1)) : w.heap.size ≤ gb333)); have n8_ := Aside0.mk ((zn14 BK323.out hg : gb323 ≠ gb333)); have n9_ := Aside0.mk ((zm14 BK323.out hg : gb333 ≠ gb323)); clear HO_4; clear HO_6; clear HO_57; clear BK323; clear HB; have HO_4 := n0_; have HO_6 := n1_; have HO_57 := n2_; have BK323 := n3_; have HB := n4_; have BK333 := n5_; have GW333 := n6_; have GE333 := n7_; have NB323_333 := n8_; have NB333_323 := n9_; clear n0_ n1_ n2_ n3_ n4_ n5_ n6_ n7_ n8_ n9_; clear hb hbox hg; have hnb43 := NB333_323.out; have hnc43 := NB323_333.out; obtain ⟨hcz44_0, hcz44_1, hcz44_2, hcz44_3, hcz44_4, hfz44_0, hfz44_1, hfz44_2, hfz44_3, hfz44_4⟩ := zc14_5 (w := w42) BK333.out) | ((with_reducible refine gate_callee (f := 101) rfl ?_); refine goesL_ (some 65) rfl rfl Try.func101 (by kernel_rfl) rfl #[.agg #[.int .i64 ((rd_T115 x9_2 x59_3).f0), .int .i64 ((rd_T115 x9_2 x59_3).f1), .int .i64 ((rd_T115 x9_2 x59_3).f2), .int .i64 ((rd_T115 x9_2 x59_3).f3), .int .i64 ((rd_T115 x9_2 x59_3).f4)]] rfl zT14 ?_; (with_reducible refine (impl_Code.calls ((rd_T115 x9_2 x59_3).f0) ((rd_T115 x9_2 x59_3).f1) ((rd_T115 x9_2 x59_3).f2) ((rd_T115 x9_2 x59_3).f3) ((rd_T115 x9_2 x59_3).f4) t334 t335 _ A40.out).mono ?_); rintro e w45 ⟨rfl, hb⟩; refine ⟨_, rfl, ?_⟩; have n0_ := Aside0.mk (Kd.R_below (by (with_reducible repeat (first | apply Kd.R_alloc | apply Kd.R_drewN | apply Kd.R_drew)); exact (Kd.R_mono (Kd.R_far (p := ⟨gb333, 4, none⟩) (Kd.R_far (p := ⟨gb333, 3, none⟩) (Kd.R_far (p := ⟨gb333, 2, none⟩) (Kd.R_far (p := ⟨gb333, 1, none⟩) (Kd.R_far (p := ⟨gb333, 0, none⟩) (Kd.R_types HO_4.out BK333.out (by decide)) (fun _ hk => hk.2) (.int .i64 ((rd_T115 x9_2 x59_3).f0))) (fun _ hk => hk.2) (.int .i64 ((rd_T115 x9_2 x59_3).f1))) (fun _ hk => hk.2) (.int .i64 ((rd_T115 x9_2 x59_3).f2))) (fun _ hk => hk.2) (.int .i64 ((rd_T115 x9_2 x59_3).f3))) (fun _ hk => hk.2) (.int .i64 ((rd_T115 x9_2 x59_3).f4))) (fun _ h_ => h_.1))) hb); have n1_ := Aside0.mk (Kd.R_below (by (with_reducible repeat (first | apply Kd.R_alloc | apply Kd.R_drewN | apply Kd.R_drew)); exact (Kd.R_mono (Kd.R_far (p := ⟨gb333, 4, none⟩) (Kd.R_far (p := ⟨gb333, 3, none⟩) (Kd.R_far (p := ⟨gb333, 2, none⟩) (Kd.R_far (p := ⟨gb333, 1, none⟩) (Kd.R_far (p := ⟨gb333, 0, none⟩) (Kd.R_types HO_6.out BK333.out (by decide)) (fun _ hk => hk.2) (.int .i64 ((rd_T115 x9_2 x59_3).f0))) (fun _ hk => hk.2) (.int .i64 ((rd_T115 x9_2 x59_3).f1))) (fun _ hk => hk.2) (.int .i64 ((rd_T115 x9_2 x59_3).f2))) (fun _ hk => hk.2) (.int .i64 ((rd_T115 x9_2 x59_3).f3))) (fun _ hk => hk.2) (.int .i64 ((rd_T115 x9_2 x59_3).f4))) (fun _ h_ => h_.1))) hb); have n2_ := Aside0.mk (Kd.R_below (by (with_reducible repeat (first | apply Kd.R_alloc | apply Kd.R_drewN | apply Kd.R_drew)); exact (Kd.R_mono (Kd.R_far (p := ⟨gb333, 4, none⟩) (Kd.R_far (p := ⟨gb333, 3, none⟩) (Kd.R_far (p := ⟨gb333, 2, none⟩) (Kd.R_far (p := ⟨gb333, 1, none⟩) (Kd.R_far (p := ⟨gb333, 0, none⟩) (Kd.R_mono HO_57.out (fun k_ hk => (⟨hk, hk.2⟩ : _ ∧ k_ ≠ gb333))) (fun _ hk => hk.2) (.int .i64 ((rd_T115 x9_2 x59_3).f0))) (fun _ hk => hk.2) (.int .i64 ((rd_T115 x9_2 x59_3).f1))) (fun _ hk => hk.2) (.int .i64 ((rd_T115 x9_2 x59_3).f2))) (fun _ hk => hk.2) (.int .i64 ((rd_T115 x9_2 x59_3).f3))) (fun _ hk => hk.2) (.int .i64 ((rd_T115 x9_2 x59_3).f4))) (fun _ h_ => h_.1))) hb); have n3_ := Aside0.mk (blk_below (g := gb323) (o := .cells #[.string ((rd_T107 l0 x27_1).f0), .slice A322_1 ((rd_T107 l0 x27_1).f1).length c322_1, .slice A322_2 ((rd_T107 l0 x27_1).f2).length c322_2] 107 (0, 0)) (by refine zP14 ?_; refine blk_far ?_ NB323_333.out _; refine zP14 ?_; refine blk_far ?_ NB323_333.out _; refine zP14 ?_; refine blk_far ?_ NB323_333.out _; refine zP14 ?_; refine blk_far ?_ NB323_333.out _; refine zP14 ?_; refine blk_far ?_ NB323_333.out _; refine zP14 ?_; exact BK323.out) hb); have n4_ := Aside0.mk (blk_below (g := gb333) (o := .cells #[.int .i64 ((rd_T115 x9_2 x59_3).f0), .int .i64 ((rd_T115 x9_2 x59_3).f1), .int .i64 ((rd_T115 x9_2 x59_3).f2), .int .i64 ((rd_T115 x9_2 x59_3).f3), .int .i64 ((rd_T115 x9_2 x59_3).f4)] 115 (0, 0)) (by refine zP14 ?_; refine blk_put (cs := #[.int .i64 ((rd_T115 x9_2 x59_3).f0), .int .i64 ((rd_T115 x9_2 x59_3).f1), .int .i64 ((rd_T115 x9_2 x59_3).f2), .int .i64 ((rd_T115 x9_2 x59_3).f3), .int .i64 0]) ?_ 4 _ rfl; refine zP14 ?_; refine blk_put (cs := #[.int .i64 ((rd_T115 x9_2 x59_3).f0), .int .i64 ((rd_T115 x9_2 x59_3).f1), .int .i64 ((rd_T115 x9_2 x59_3).f2), .int .i64 0, .int .i64 0]) ?_ 3 _ rfl; refine zP14 ?_; refine blk_put (cs := #[.int .i64 ((rd_T115 x9_2 x59_3).f0), .int .i64 ((rd_T115 x9_2 x59_3).f1), .int .i64 0, .int .i64 0, .int .i64 0]) ?_ 2 _ rfl; refine zP14 ?_; refine blk_put (cs := #[.int .i64 ((rd_T115 x9_2 x59_3).f0), .int .i64 0, .int .i64 0, .int .i64 0, .int .i64 0]) ?_ 1 _ rfl; refine zP14 ?_; refine blk_put (cs := #[.int .i64 0, .int .i64 0, .int .i64 0, .int .i64 0, .int .i64 0]) ?_ 0 _ rfl; refine zP14 ?_; exact BK333.out) hb); have n5_ := Aside0.mk (below_step (zB14_4) hb); clear HO_4; clear HO_6; clear HO_57; clear BK323; clear BK333; clear HB; have HO_4 := n0_; have HO_6 := n1_; have HO_57 := n2_; have BK323 := n3_; have BK333 := n4_; have HB := n5_; clear n0_ n1_ n2_ n3_ n4_ n5_; (try clear hb); (try clear hb2); (try clear hk); (try clear hi)) | ((with_reducible refine gate_builtin (b := .append) (xs := #[.tmp 68, .tmp 70]) rfl ?_); at_builtin; refine Kd.R_append (Kd.int .i64) (w0 := w) w.heap.size rfl (.tmp 68) (.tmp 70) 33 3 (.int .i64 0) 8 rfl Try.underlying33 info3 rfl (by decide) (by omega) u6 x6_3 t334 [.int .i64 t334] (fun k_ => some k_ ≠ (v314 : Value).ownBlock) (fun _ => False) rfl rfl ?aP (fun _ hk => hk.elim) ?aF ?aO ?aB ?aS ?aL ?_; (case aP => exact rfl); (case aB => exact (zB14_4)); (case aF => exact (fun k_ hk => Kd.fresh' (Kd.R_lt (zR14 HO_4.out)) k_ hk)); (case aO => exact (zR14 HO_6.out)); (case aS => exact (below_size (zB14_4))); (case aL => have := LMc41.out; omega); intro v337 w46 ho hb hg hat; rw [← Ny336.out] at ho; have n0_ := Aside0.mk (Kd.R_after (ok := (fun _ => True)) (by (with_reducible repeat (first | apply Kd.R_alloc | apply Kd.R_drewN | apply Kd.R_drew)); exact Kd.R_mono HO_4.out (fun _ hk => ⟨trivial, hk⟩)) hg hat); have n1_ := Aside0.mk (Kd.R_over' (zR14 HO_57.out) (Kd.R_typed (zR14 HO_6.out)) (by decide) hg); have n2_ := Aside0.mk (zg14 BK323.out hg (Kd.R_ne HO_6.out BK323.out (by decide))); have n3_ := Aside0.mk (zg14 BK333.out hg (Kd.R_ne HO_6.out BK333.out (by decide))); have n4_ := Aside0.mk (hb); have n5_ := Aside0.mk (ho); clear HO_4; clear HO_57; clear BK323; clear BK333; clear HB; clear HO_6; have HO_4 := n0_; have HO_57 := n1_; have BK323 := n2_; have BK333 := n3_; have HB := n4_; have HO338 := n5_; clear n0_ n1_ n2_ n3_ n4_ n5_; clear ho hb hg hat))
        go_roundg k3
        case measure => have := HK1.out; have := HK2.out; have := HK3.out; omega
        case rel => exact ⟨(y336), (wrap64 (x59_3 + 1)), (by first | rfl | (simp; done) | (simp [*]; done)), H', ⟨by have := HK1.out; have := HK2.out; have := HK3.out; omega⟩, ⟨by (with_reducible repeat (first | apply Kd.R_alloc | apply Kd.R_drewN | apply Kd.R_drew)); exact Kd.R_mono HO_4.out (fun _ hk => hk.2)⟩, ⟨zR14 HO338.out⟩, ⟨by (with_reducible repeat (first | apply Kd.R_alloc | apply Kd.R_drewN | apply Kd.R_drew)); exact Kd.R_mono HO_57.out (fun _ hk => trivial)⟩, ⟨zK14 BK323.out⟩, ⟨zB14_4⟩⟩
     rw [if_pos c15] at H
     have c15b0 : decide (x37_2 < (((rd_T107 l0 x27_1).f2).length : Int)) = true := decide_eq_true c15
     clear c15
     by_cases c16 : 0 ≤ x37_2
     rotate_left
     ·rw [if_neg c16] at H
      exact absurd H (by simp)
     rw [if_pos c16] at H
     have c16b0 : decide (0 ≤ x37_2) = true := decide_eq_true c16
     clear c16
     by_cases c17 : x37_2 < (((rd_T107 l0 x27_1).f2).length : Int)
     rotate_left
     ·rw [if_neg c17] at H
      exact absurd H (by simp)
     rw [if_pos c17] at H
     have c17b0 : decide (x37_2 < (((rd_T107 l0 x27_1).f2).length : Int)) = true := decide_eq_true c17
     clear c17
     replace H := Option.bind_eq_some_iff.mp H
     obtain ⟨t329, A180, H⟩ := H
     replace H : (if t329 < 0 then (some (([] : List Int), false)) else (if 0 ≤ t329 then (if t329 < (t312.length : Int) then (if 0 ≤ ((rd_T118 ((rd_T107 l0 x27_1).f2) x37_2).f0) then (if ((rd_T118 ((rd_T107 l0 x27_1).f2) x37_2).f0) < (x9_2.length : Int) then (impl_Link.l1 k2 l0 t312 x6_1 (x9_2.set (((rd_T118 ((rd_T107 l0 x27_1).f2) x37_2).f0) : Int).toNat (⟨(rd_T115 x9_2 ((rd_T118 ((rd_T107 l0 x27_1).f2) x37_2).f0)).f0, (rd_T115 x9_2 ((rd_T118 ((rd_T107 l0 x27_1).f2) x37_2).f0)).f1, (rd_T115 x9_2 ((rd_T118 ((rd_T107 l0 x27_1).f2) x37_2).f0)).f2, (rd_T115 x9_2 ((rd_T118 ((rd_T107 l0 x27_1).f2) x37_2).f0)).f3, rd t312 t329⟩ : S115)) l0 (l0.length : Int) x27_1 ((rd_T107 l0 x27_1).f2) (((rd_T107 l0 x27_1).f2).length : Int) (wrap64 (x37_2 + 1))) else (none)) else (none)) else (none)) else (none))) = some (r1, r2) := H
     have A18 := Aside0.mk A180
     clear A180
     by_cases c19 : t329 < 0
     ·rw [if_pos c19] at H
      have c19b0 : decide (t329 < 0) = true := decide_eq_true c19
      clear c19
      simp only [Option.some.injEq, Prod.mk.injEq] at H
      obtain ⟨rfl, rfl⟩ := H
      have p327 : 0 ≤ (x37_2 : Int) := zA14
      have q327 : x37_2 < (((rd_T107 l0 x27_1).f2).length : Int) := zA14
      obtain ⟨ad327, e327, hx327_0, hx327_1⟩ := at_T118 HR322_2.out x37_2 p327 q327
      cases e327
      replace hx327_0 := (HB.out.cell (World.block_lt_of_cell? w _ hx327_0)).trans hx327_0
      replace hx327_1 := (HB.out.cell (World.block_lt_of_cell? w _ hx327_1)).trans hx327_1
      replace p327 := eq_true p327
      replace q327 := eq_true q327
      go_wp2_with (first | ((with_reducible refine gate_dst (N := 11) rfl ?_); refine box_event ?hg (N := 11) ?hd (cs := #[.int .i64 0, .string (⟨#[]⟩ : ByteArray)]) (t := 118) ?hr ?_; (case hd => rfl); (case hg => rfl); (case hr => first | (go_simp; done) | (go_simp; rfl)); intro gb328 hg w20 hbox hb; have n0_ := Aside0.mk (Kd.R_below (zR14 HO_4.out) hb); have n1_ := Aside0.mk (Kd.R_below (zR14 HO_6.out) hb); have n2_ := Aside0.mk (Kd.R_below (zR14 HO_9.out) hb); have n3_ := Aside0.mk (zb14 BK323.out hb); have n4_ := Aside0.mk (below_step (zB14_1) hb); have n5_ := Aside0.mk (hbox); have n6_ := Aside0.mk ((by rw [hg]; exact (below_size (zB14_1)) : w.heap.size ≤ gb328)); have n7_ := Aside0.mk ((by rw [hg]; exact (below_size (zB14_1)) : w.heap.size ≤ gb328)); have n8_ := Aside0.mk ((zn14 BK323.out hg : gb323 ≠ gb328)); have n9_ := Aside0.mk ((zm14 BK323.out hg : gb328 ≠ gb323)); clear HO_4; clear HO_6; clear HO_9; clear BK323; clear HB; have HO_4 := n0_; have HO_6 := n1_; have HO_9 := n2_; have BK323 := n3_; have HB := n4_; have BK328 := n5_; have GW328 := n6_; have GE328 := n7_; have NB323_328 := n8_; have NB328_323 := n9_; clear n0_ n1_ n2_ n3_ n4_ n5_ n6_ n7_ n8_ n9_; clear hb hbox hg; have hnb21 := NB328_323.out; have hnc21 := NB323_328.out; obtain ⟨hcz22_0, hcz22_1, hfz22_0, hfz22_1⟩ := zc14_2 (w := w20) BK328.out) | ((with_reducible refine gate_callee (f := 93) rfl ?_); refine goesL_ (some 44) rfl rfl Try.func93 (by kernel_rfl) rfl #[.slice (some ad322) l0.length c0, .string ((rd_T118 ((rd_T107 l0 x27_1).f2) x37_2).f1)] rfl zT14 ?_; (with_reducible refine (impl_PartAt.calls _ _ l0 ((rd_T118 ((rd_T107 l0 x27_1).f2) x37_2).f1) t329 _ ?side1 ?side2 A18.out).mono ?_); (case side1 => exact Kd.C_below HR0.out (zB14_2)); (case side2 => exact HC0.out); rintro e w23 ⟨rfl, hb⟩; refine ⟨_, rfl, ?_⟩; have n0_ := Aside0.mk (Kd.R_below (by (with_reducible repeat (first | apply Kd.R_alloc | apply Kd.R_drewN | apply Kd.R_drew)); exact (Kd.R_mono (Kd.R_far (p := ⟨gb328, 1, none⟩) (Kd.R_far (p := ⟨gb328, 0, none⟩) (Kd.R_types HO_4.out BK328.out (by decide)) (fun _ hk => hk.2) (.int .i64 ((rd_T118 ((rd_T107 l0 x27_1).f2) x37_2).f0))) (fun _ hk => hk.2) (.string ((rd_T118 ((rd_T107 l0 x27_1).f2) x37_2).f1))) (fun _ h_ => h_.1))) hb); have n1_ := Aside0.mk (Kd.R_below (by (with_reducible repeat (first | apply Kd.R_alloc | apply Kd.R_drewN | apply Kd.R_drew)); exact (Kd.R_mono (Kd.R_far (p := ⟨gb328, 1, none⟩) (Kd.R_far (p := ⟨gb328, 0, none⟩) (Kd.R_types HO_6.out BK328.out (by decide)) (fun _ hk => hk.2) (.int .i64 ((rd_T118 ((rd_T107 l0 x27_1).f2) x37_2).f0))) (fun _ hk => hk.2) (.string ((rd_T118 ((rd_T107 l0 x27_1).f2) x37_2).f1))) (fun _ h_ => h_.1))) hb); have n2_ := Aside0.mk (Kd.R_below (by (with_reducible repeat (first | apply Kd.R_alloc | apply Kd.R_drewN | apply Kd.R_drew)); exact (Kd.R_mono (Kd.R_far (p := ⟨gb328, 1, none⟩) (Kd.R_far (p := ⟨gb328, 0, none⟩) (Kd.R_types HO_9.out BK328.out (by decide)) (fun _ hk => hk.2) (.int .i64 ((rd_T118 ((rd_T107 l0 x27_1).f2) x37_2).f0))) (fun _ hk => hk.2) (.string ((rd_T118 ((rd_T107 l0 x27_1).f2) x37_2).f1))) (fun _ h_ => h_.1))) hb); have n3_ := Aside0.mk (blk_below (g := gb323) (o := .cells #[.string ((rd_T107 l0 x27_1).f0), .slice A322_1 ((rd_T107 l0 x27_1).f1).length c322_1, .slice (some ad327) ((rd_T107 l0 x27_1).f2).length c322_2] 107 (0, 0)) (by refine zP14 ?_; refine blk_far ?_ NB323_328.out _; refine zP14 ?_; refine blk_far ?_ NB323_328.out _; refine zP14 ?_; exact BK323.out) hb); have n4_ := Aside0.mk (blk_below (g := gb328) (o := .cells #[.int .i64 ((rd_T118 ((rd_T107 l0 x27_1).f2) x37_2).f0), .string ((rd_T118 ((rd_T107 l0 x27_1).f2) x37_2).f1)] 118 (0, 0)) (by refine zP14 ?_; refine blk_put (cs := #[.int .i64 ((rd_T118 ((rd_T107 l0 x27_1).f2) x37_2).f0), .string (⟨#[]⟩ : ByteArray)]) ?_ 1 _ rfl; refine zP14 ?_; refine blk_put (cs := #[.int .i64 0, .string (⟨#[]⟩ : ByteArray)]) ?_ 0 _ rfl; refine zP14 ?_; exact BK328.out) hb); have n5_ := Aside0.mk (below_step (zB14_2) hb); clear HO_4; clear HO_6; clear HO_9; clear BK323; clear BK328; clear HB; have HO_4 := n0_; have HO_6 := n1_; have HO_9 := n2_; have BK323 := n3_; have BK328 := n4_; have HB := n5_; clear n0_ n1_ n2_ n3_ n4_ n5_; (try clear hb); (try clear hb2); (try clear hk); (try clear hi)))
      go_ret2
      exact ⟨_, zE14, by first | exact Kd.R_nil _ _ _ _ _ | exact Kd.N_nil _ _ _ _ _ | exact Kd.V_nil _ _ _ _ _ | exact Kd.Q_nil _ _ _ _ _ | exact Kd.S_nil _ _ _ _ _, zB14_2⟩
     rw [if_neg c19] at H
     have c19b0 : decide (t329 < 0) = false := decide_eq_false c19
     clear c19
     by_cases c24 : 0 ≤ t329
     rotate_left
     ·rw [if_neg c24] at H
      exact absurd H (by simp)
     rw [if_pos c24] at H
     have c24b0 : decide (0 ≤ t329) = true := decide_eq_true c24
     clear c24
     by_cases c25 : t329 < (t312.length : Int)
     rotate_left
     ·rw [if_neg c25] at H
      exact absurd H (by simp)
     rw [if_pos c25] at H
     have c25b0 : decide (t329 < (t312.length : Int)) = true := decide_eq_true c25
     clear c25
     by_cases c26 : 0 ≤ ((rd_T118 ((rd_T107 l0 x27_1).f2) x37_2).f0)
     rotate_left
     ·rw [if_neg c26] at H
      exact absurd H (by simp)
     rw [if_pos c26] at H
     have c26b0 : decide (0 ≤ ((rd_T118 ((rd_T107 l0 x27_1).f2) x37_2).f0)) = true := decide_eq_true c26
     clear c26
     by_cases c27 : ((rd_T118 ((rd_T107 l0 x27_1).f2) x37_2).f0) < (x9_2.length : Int)
     rotate_left
     ·rw [if_neg c27] at H
      exact absurd H (by simp)
     rw [if_pos c27] at H
     have c27b0 : decide (((rd_T118 ((rd_T107 l0 x27_1).f2) x37_2).f0) < (x9_2.length : Int)) = true := decide_eq_true c27
     clear c27
     obtain ⟨y331, hy331⟩ : ∃ y_ : List (S115), y_ = (x9_2.set (((rd_T118 ((rd_T107 l0 x27_1).f2) x37_2).f0) : Int).toNat (⟨(rd_T115 x9_2 ((rd_T118 ((rd_T107 l0 x27_1).f2) x37_2).f0)).f0, (rd_T115 x9_2 ((rd_T118 ((rd_T107 l0 x27_1).f2) x37_2).f0)).f1, (rd_T115 x9_2 ((rd_T118 ((rd_T107 l0 x27_1).f2) x37_2).f0)).f2, (rd_T115 x9_2 ((rd_T118 ((rd_T107 l0 x27_1).f2) x37_2).f0)).f3, rd t312 t329⟩ : S115)) := ⟨_, rfl⟩
     replace H : (impl_Link.l1 k2 l0 t312 x6_1 y331 l0 (l0.length : Int) x27_1 ((rd_T107 l0 x27_1).f2) (((rd_T107 l0 x27_1).f2).length : Int) (wrap64 (x37_2 + 1))) = some (r1, r2) := by first | (rw [hy331]; with_reducible exact H) | (have H2_ := (Option.bind_some _ _).symm.trans H; rw [hy331]; with_reducible exact H2_) | (have H2_ := (Option.bind_some _ _).symm.trans H; with_reducible exact H2_) | with_reducible exact H | (rw [hy331]; exact H) | exact H
     have Ny331 := Aside0.mk hy331
     clear hy331
     have H' := Aside0.mk H
     clear H
     have p327 : 0 ≤ (x37_2 : Int) := zA14
     have q327 : x37_2 < (((rd_T107 l0 x27_1).f2).length : Int) := zA14
     obtain ⟨ad327, e327, hx327_0, hx327_1⟩ := at_T118 HR322_2.out x37_2 p327 q327
     cases e327
     replace hx327_0 := (HB.out.cell (World.block_lt_of_cell? w _ hx327_0)).trans hx327_0
     replace hx327_1 := (HB.out.cell (World.block_lt_of_cell? w _ hx327_1)).trans hx327_1
     replace p327 := eq_true p327
     replace q327 := eq_true q327
     try go_wp2_with (first | ((with_reducible refine gate_dst (N := 11) rfl ?_); refine box_event ?hg (N := 11) ?hd (cs := #[.int .i64 0, .string (⟨#[]⟩ : ByteArray)]) (t := 118) ?hr ?_; (case hd => rfl); (case hg => rfl); (case hr => first | (go_simp; done) | (go_simp; rfl)); intro gb328 hg w29 hbox hb; have n0_ := Aside0.mk (Kd.R_below (zR14 HO_4.out) hb); have n1_ := Aside0.mk (Kd.R_below (zR14 HO_6.out) hb); have n2_ := Aside0.mk (Kd.R_below (zR14 HO_9.out) hb); have n3_ := Aside0.mk (zb14 BK323.out hb); have n4_ := Aside0.mk (below_step (zB14_1) hb); have n5_ := Aside0.mk (hbox); have n6_ := Aside0.mk ((by rw [hg]; exact (below_size (zB14_1)) : w.heap.size ≤ gb328)); have n7_ := Aside0.mk ((by rw [hg]; exact (below_size (zB14_1)) : w.heap.size ≤ gb328)); have n8_ := Aside0.mk ((zn14 BK323.out hg : gb323 ≠ gb328)); have n9_ := Aside0.mk ((zm14 BK323.out hg : gb328 ≠ gb323)); clear HO_4; clear HO_6; clear HO_9; clear BK323; clear HB; have HO_4 := n0_; have HO_6 := n1_; have HO_9 := n2_; have BK323 := n3_; have HB := n4_; have BK328 := n5_; have GW328 := n6_; have GE328 := n7_; have NB323_328 := n8_; have NB328_323 := n9_; clear n0_ n1_ n2_ n3_ n4_ n5_ n6_ n7_ n8_ n9_; clear hb hbox hg; have hnb30 := NB328_323.out; have hnc30 := NB323_328.out; obtain ⟨hcz31_0, hcz31_1, hfz31_0, hfz31_1⟩ := zc14_2 (w := w29) BK328.out) | ((with_reducible refine gate_callee (f := 93) rfl ?_); refine goesL_ (some 44) rfl rfl Try.func93 (by kernel_rfl) rfl #[.slice (some ad322) l0.length c0, .string ((rd_T118 ((rd_T107 l0 x27_1).f2) x37_2).f1)] rfl zT14 ?_; (with_reducible refine (impl_PartAt.calls _ _ l0 ((rd_T118 ((rd_T107 l0 x27_1).f2) x37_2).f1) t329 _ ?side1 ?side2 A18.out).mono ?_); (case side1 => exact Kd.C_below HR0.out (zB14_2)); (case side2 => exact HC0.out); rintro e w32 ⟨rfl, hb⟩; refine ⟨_, rfl, ?_⟩; have n0_ := Aside0.mk (Kd.R_below (by (with_reducible repeat (first | apply Kd.R_alloc | apply Kd.R_drewN | apply Kd.R_drew)); exact (Kd.R_mono (Kd.R_far (p := ⟨gb328, 1, none⟩) (Kd.R_far (p := ⟨gb328, 0, none⟩) (Kd.R_types HO_4.out BK328.out (by decide)) (fun _ hk => hk.2) (.int .i64 ((rd_T118 ((rd_T107 l0 x27_1).f2) x37_2).f0))) (fun _ hk => hk.2) (.string ((rd_T118 ((rd_T107 l0 x27_1).f2) x37_2).f1))) (fun _ h_ => h_.1))) hb); have n1_ := Aside0.mk (Kd.R_below (by (with_reducible repeat (first | apply Kd.R_alloc | apply Kd.R_drewN | apply Kd.R_drew)); exact (Kd.R_mono (Kd.R_far (p := ⟨gb328, 1, none⟩) (Kd.R_far (p := ⟨gb328, 0, none⟩) (Kd.R_types HO_6.out BK328.out (by decide)) (fun _ hk => hk.2) (.int .i64 ((rd_T118 ((rd_T107 l0 x27_1).f2) x37_2).f0))) (fun _ hk => hk.2) (.string ((rd_T118 ((rd_T107 l0 x27_1).f2) x37_2).f1))) (fun _ h_ => h_.1))) hb); have n2_ := Aside0.mk (Kd.R_below (by (with_reducible repeat (first | apply Kd.R_alloc | apply Kd.R_drewN | apply Kd.R_drew)); exact (Kd.R_mono (Kd.R_far (p := ⟨gb328, 1, none⟩) (Kd.R_far (p := ⟨gb328, 0, none⟩) (Kd.R_types HO_9.out BK328.out (by decide)) (fun _ hk => hk.2) (.int .i64 ((rd_T118 ((rd_T107 l0 x27_1).f2) x37_2).f0))) (fun _ hk => hk.2) (.string ((rd_T118 ((rd_T107 l0 x27_1).f2) x37_2).f1))) (fun _ h_ => h_.1))) hb); have n3_ := Aside0.mk (blk_below (g := gb323) (o := .cells #[.string ((rd_T107 l0 x27_1).f0), .slice A322_1 ((rd_T107 l0 x27_1).f1).length c322_1, .slice (some ad327) ((rd_T107 l0 x27_1).f2).length c322_2] 107 (0, 0)) (by refine zP14 ?_; refine blk_far ?_ NB323_328.out _; refine zP14 ?_; refine blk_far ?_ NB323_328.out _; refine zP14 ?_; exact BK323.out) hb); have n4_ := Aside0.mk (blk_below (g := gb328) (o := .cells #[.int .i64 ((rd_T118 ((rd_T107 l0 x27_1).f2) x37_2).f0), .string ((rd_T118 ((rd_T107 l0 x27_1).f2) x37_2).f1)] 118 (0, 0)) (by refine zP14 ?_; refine blk_put (cs := #[.int .i64 ((rd_T118 ((rd_T107 l0 x27_1).f2) x37_2).f0), .string (⟨#[]⟩ : ByteArray)]) ?_ 1 _ rfl; refine zP14 ?_; refine blk_put (cs := #[.int .i64 0, .string (⟨#[]⟩ : ByteArray)]) ?_ 0 _ rfl; refine zP14 ?_; exact BK328.out) hb); have n5_ := Aside0.mk (below_step (zB14_2) hb); clear HO_4; clear HO_6; clear HO_9; clear BK323; clear BK328; clear HB; have HO_4 := n0_; have HO_6 := n1_; have HO_9 := n2_; have BK323 := n3_; have BK328 := n4_; have HB := n5_; clear n0_ n1_ n2_ n3_ n4_ n5_; (try clear hb); (try clear hb2); (try clear hk); (try clear hi)))
     have n0_ := Aside0.mk (Kd.R_drew HO_4.out)
     have n1_ := Aside0.mk (Kd.R_drew HO_6.out)
     have n2_ := Aside0.mk (Kd.R_drew HO_9.out)
     have n3_ := Aside0.mk (blk_drew BK323.out)
     have n4_ := Aside0.mk (blk_drew BK328.out)
     have n5_ := Aside0.mk (below_drew1 HB.out)
     clear HO_4 HO_6 HO_9 BK323 BK328 HB
     have HO_4 := n0_
     have HO_6 := n1_
     have HO_9 := n2_
     have BK323 := n3_
     have BK328 := n4_
     have HB := n5_
     clear n0_ n1_ n2_ n3_ n4_ n5_
     obtain ⟨Ao34, co34, eo34⟩ := Kd.R_slice HO_4.out
     (first | subst eo34 | (injection eo34 with f1_ f2_ f3_; have f4_ := f1_.symm; have f5_ := f3_.symm; clear f1_ f2_ f3_; subst f4_; subst f5_))
     have p330 : 0 ≤ (t329 : Int) := zA14
     have q330 : t329 < (t312.length : Int) := zA14
     obtain ⟨ad330, e330, hx330_0⟩ := Kd.at_int (Kd.R_reads' HO_4.out).2.2 t329 p330 q330
     cases e330
     replace p330 := eq_true p330
     replace q330 := eq_true q330
     have p28 : 0 ≤ (((rd_T118 ((rd_T107 l0 x27_1).f2) x37_2).f0) : Int) := zA14
     have q28 : (((rd_T118 ((rd_T107 l0 x27_1).f2) x37_2).f0) : Int) < ((x9_2.length : Int) : Int) := zA14
     obtain ⟨go28, co28, eo28, gb28, gl28, cl28, HG28⟩ := Kd.R_form HO_9.out (by omega)
     (first | cases eo28 | (injection eo28 with ea_ en_ ec_; (first | subst ea_ | (injection ea_ with ea_; subst ea_)); subst ec_; clear en_))
     have GB28 := Aside0.mk gb28
     have GG28 := Aside0.mk HG28
     clear gb28 gl28 HG28
     obtain ⟨ce28, hcl28, hM28, hcc28, hfr28⟩ := Kd.R_elem HO_9.out z115 (((rd_T118 ((rd_T107 l0 x27_1).f2) x37_2).f0) : Int) p28 q28
     obtain rfl := k115_openM hM28
     have hx28_0 : World.cell? _ ⟨go28, (((rd_T118 ((rd_T107 l0 x27_1).f2) x37_2).f0) : Int).toNat * 5, none⟩ = some (.int .i64 ((rd_T115 x9_2 ((rd_T118 ((rd_T107 l0 x27_1).f2) x37_2).f0)).f0)) := hcc28 0 _ rfl
     have hx28_1 : World.cell? _ ⟨go28, (((rd_T118 ((rd_T107 l0 x27_1).f2) x37_2).f0) : Int).toNat * 5 + 1, none⟩ = some (.int .i64 ((rd_T115 x9_2 ((rd_T118 ((rd_T107 l0 x27_1).f2) x37_2).f0)).f1)) := hcc28 1 _ rfl
     have hx28_2 : World.cell? _ ⟨go28, (((rd_T118 ((rd_T107 l0 x27_1).f2) x37_2).f0) : Int).toNat * 5 + 2, none⟩ = some (.int .i64 ((rd_T115 x9_2 ((rd_T118 ((rd_T107 l0 x27_1).f2) x37_2).f0)).f2)) := hcc28 2 _ rfl
     have hx28_3 : World.cell? _ ⟨go28, (((rd_T118 ((rd_T107 l0 x27_1).f2) x37_2).f0) : Int).toNat * 5 + 3, none⟩ = some (.int .i64 ((rd_T115 x9_2 ((rd_T118 ((rd_T107 l0 x27_1).f2) x37_2).f0)).f3)) := hcc28 3 _ rfl
     have hx28_4 : World.cell? _ ⟨go28, (((rd_T118 ((rd_T107 l0 x27_1).f2) x37_2).f0) : Int).toNat * 5 + 4, none⟩ = some (.int .i64 ((rd_T115 x9_2 ((rd_T118 ((rd_T107 l0 x27_1).f2) x37_2).f0)).f4)) := hcc28 4 _ rfl
     have hf28_0 : World.frozen? _ ⟨go28, (((rd_T118 ((rd_T107 l0 x27_1).f2) x37_2).f0) : Int).toNat * 5, none⟩ = false := hfr28 0
     have hf28_1 : World.frozen? _ ⟨go28, (((rd_T118 ((rd_T107 l0 x27_1).f2) x37_2).f0) : Int).toNat * 5 + 1, none⟩ = false := hfr28 1
     have hf28_2 : World.frozen? _ ⟨go28, (((rd_T118 ((rd_T107 l0 x27_1).f2) x37_2).f0) : Int).toNat * 5 + 2, none⟩ = false := hfr28 2
     have hf28_3 : World.frozen? _ ⟨go28, (((rd_T118 ((rd_T107 l0 x27_1).f2) x37_2).f0) : Int).toNat * 5 + 3, none⟩ = false := hfr28 3
     have hf28_4 : World.frozen? _ ⟨go28, (((rd_T118 ((rd_T107 l0 x27_1).f2) x37_2).f0) : Int).toNat * 5 + 4, none⟩ = false := hfr28 4
     clear hcl28 hcc28 hfr28 hM28
     replace p28 := eq_true p28
     replace q28 := eq_true q28
     obtain ⟨ce35, hcl35, hM35, hcc35, hfr35⟩ := Kd.R_elem HO_9.out z115 (((rd_T118 ((rd_T107 l0 x27_1).f2) x37_2).f0) : Int) (zA14) (by have h_ : (((rd_T118 ((rd_T107 l0 x27_1).f2) x37_2).f0) : Int) < ((x9_2.length : Int) : Int) := zA14; first | exact h_ | (have e_ := (Kd.R_reads' HO_9.out).1; omega) | simpa using h_)
     obtain rfl := k115_openM hM35
     have HP35 := (Kd.R_seg HO_9.out (((rd_T118 ((rd_T107 l0 x27_1).f2) x37_2).f0) : Int) (zA14) (by have h_ : (((rd_T118 ((rd_T107 l0 x27_1).f2) x37_2).f0) : Int) < ((x9_2.length : Int) : Int) := zA14; first | exact h_ | (have e_ := (Kd.R_reads' HO_9.out).1; omega) | simpa using h_) (seg := [.int .i64 (rd t312 t329)]) (j := 4) hcl35 hcc35 (show 5 ≤ 5 from by decide) (x' := (⟨(rd_T115 x9_2 ((rd_T118 ((rd_T107 l0 x27_1).f2) x37_2).f0)).f0, (rd_T115 x9_2 ((rd_T118 ((rd_T107 l0 x27_1).f2) x37_2).f0)).f1, (rd_T115 x9_2 ((rd_T118 ((rd_T107 l0 x27_1).f2) x37_2).f0)).f2, (rd_T115 x9_2 ((rd_T118 ((rd_T107 l0 x27_1).f2) x37_2).f0)).f3, rd t312 t329⟩ : S115)) (k115_mkM _ _ _ (⟨(rd_T115 x9_2 ((rd_T118 ((rd_T107 l0 x27_1).f2) x37_2).f0)).f0, (rd_T115 x9_2 ((rd_T118 ((rd_T107 l0 x27_1).f2) x37_2).f0)).f1, (rd_T115 x9_2 ((rd_T118 ((rd_T107 l0 x27_1).f2) x37_2).f0)).f2, (rd_T115 x9_2 ((rd_T118 ((rd_T107 l0 x27_1).f2) x37_2).f0)).f3, rd t312 t329⟩ : S115) ) (fun _ hk => hk)).1
     rw [← Ny331.out] at HP35
     have HQ35 := Aside0.mk HP35
     clear hcl35 hcc35 hfr35 hM35 HP35
     refine start_ (n := 10) (S := fun w' => w'.cell? ⟨gb328, 0, none⟩ = some (.int .i64 ((rd_T118 ((rd_T107 l0 x27_1).f2) x37_2).f0)) ∧ w'.cell? ⟨gb328, 1, none⟩ = some (.string ((rd_T118 ((rd_T107 l0 x27_1).f2) x37_2).f1)) ∧ w'.cell? (ad330.add (t329).toNat) = some (.int .i64 (rd t312 t329))) (ds := [9]) #[false, false, false, false, false, false, false, false, false, false] (by kernel_rfl) rfl rfl ⟨(blk_cell BK328.out 0).trans rfl, (blk_cell BK328.out 1).trans rfl, hx330_0⟩ (fun hHeld => ?_); refine with_tabW impl_Link.tab15 impl_Link.bits15 (fun HT_ HW_ => ?_)
     generalize w32.drew = w33 at HO_4 HO_6 HO_9 BK323 BK328 HB GG28 HQ35 hf28_0 hf28_1 hf28_2 hf28_3 hf28_4 hx28_0 hx28_1 hx28_2 hx28_3 hx28_4 hx330_0 hHeld ⊢
     refine pure_ (i := 0) (N := some 47) (v := ?_) (a' := ?_) #[true, false, false, false, false, false, false, false, false, false] rfl rfl (any_of HT_.out (by kernel_rfl)) (fun _ _ _ h => h) (Or.inl ⟨by rfl, ?_⟩) ?_ ?_
     rotate_left
     ·intro w'
      go_simp
      with_reducible rfl
     rotate_left
     ·exact zV14
     refine pure_ (i := 1) (N := some 48) (v := ?_) (a' := ?_) #[true, true, false, false, false, false, false, false, false, false] rfl rfl (any_of HT_.out (by kernel_rfl)) (fun _ _ _ h => h) (Or.inl ⟨by rfl, ?_⟩) ?_ ?_
     rotate_left
     ·intro w'
      go_simp
      with_reducible rfl
     rotate_left
     ·exact zV14
     refine pure_ (i := 3) (N := some 50) (v := ?_) (a' := ?_) #[true, true, false, true, false, false, false, false, false, false] rfl rfl (any_of HT_.out (by kernel_rfl)) (fun _ _ _ h => h) (Or.inl ⟨by rfl, ?_⟩) ?_ ?_
     rotate_left
     ·intro w'
      go_simp
      with_reducible rfl
     rotate_left
     ·exact zV14
     refine pure_ (i := 4) (N := some 51) (v := ?_) (a' := ?_) #[true, true, false, true, true, false, false, false, false, false] rfl rfl (any_of HT_.out (by kernel_rfl)) (fun _ _ _ h => h) (Or.inl ⟨by rfl, ?_⟩) ?_ ?_
     rotate_left
     ·intro w'
      go_simp
      with_reducible rfl
     rotate_left
     ·exact zV14
     refine pure_ (i := 5) (N := some 52) (v := ?_) (a' := ?_) #[true, true, false, true, true, true, false, false, false, false] rfl rfl (any_of HT_.out (by kernel_rfl)) (fun _ _ _ h => h) (Or.inl ⟨by rfl, ?_⟩) ?_ ?_
     rotate_left
     ·intro w'
      go_simp
      with_reducible rfl
     rotate_left
     ·exact zV14
     refine take_ (i := 2) (N := some 49) (v := ?_) (a' := ?_) #[true, true, true, true, true, true, false, false, false, false] rfl rfl (take_ofW HT_.out HW_.out (by kernel_rfl)) (fun _ _ _ h => h) (Or.inl ⟨by rfl, ?_⟩) hHeld ?_ ?_
     rotate_left
     ·rintro w' ⟨s0, s1, s2⟩
      go_simp
      with_reducible rfl
     rotate_left
     ·exact zV14
     refine take_ (i := 6) (N := some 53) (v := ?_) (a' := ?_) #[true, true, true, true, true, true, true, false, false, false] rfl rfl (take_ofW HT_.out HW_.out (by kernel_rfl)) (fun _ _ _ h => h) (Or.inl ⟨by rfl, ?_⟩) hHeld ?_ ?_
     rotate_left
     ·rintro w' ⟨s0, s1, s2⟩
      go_simp
      with_reducible rfl
     rotate_left
     ·exact zV14
     refine pure_ (i := 7) (N := some 54) (v := ?_) (a' := ?_) #[true, true, true, true, true, true, true, true, false, false] rfl rfl (any_of HT_.out (by kernel_rfl)) (fun _ _ _ h => h) (Or.inl ⟨by rfl, ?_⟩) ?_ ?_
     rotate_left
     ·intro w'
      go_simp
      with_reducible rfl
     rotate_left
     ·exact zV14
     refine pure_ (i := 8) (N := some 55) (v := ?_) (a' := ?_) #[true, true, true, true, true, true, true, true, true, false] rfl rfl (any_of HT_.out (by kernel_rfl)) (fun _ _ _ h => h) (Or.inl ⟨by rfl, ?_⟩) ?_ ?_
     rotate_left
     ·intro w'
      go_simp
      with_reducible rfl
     rotate_left
     ·exact zV14
     refine last_ (i := 9) (N := none) #[true, true, true, true, true, true, true, true, true, true] rfl rfl (one_of HT_.out (by kernel_rfl)) (by decide) (fun K hK => ?_)
     refine skip_ (w1 := ?_) (by rfl) rfl ?_ ?_
     rotate_left
     ·go_simp
      rfl
     refine hK.out _ _ ?_
     clear hK K
     refine done_ (done_of HT_.out (by kernel_rfl)) ?_
     try go_wp2
     go_roundg k2
     case measure => have := HK1.out; have := HK2.out; omega
     case rel => exact ⟨(y331), (wrap64 (x37_2 + 1)), (by first | rfl | (simp; done) | (simp [*]; done)), H', ⟨by have := HK1.out; have := HK2.out; omega⟩, ⟨by (with_reducible repeat (first | apply Kd.R_alloc | apply Kd.R_drewN | apply Kd.R_drew)); exact Kd.R_mono (Kd.R_far (p := ⟨go28, (((rd_T118 ((rd_T107 l0 x27_1).f2) x37_2).f0) : Int).toNat * 5 + 4, none⟩) (Kd.R_types HO_4.out GG28.out (by decide)) (fun _ hk => hk.2) (.int .i64 (rd t312 t329))) (fun _ hk => hk.1)⟩, ⟨by (with_reducible repeat (first | apply Kd.R_alloc | apply Kd.R_drewN | apply Kd.R_drew)); exact Kd.R_mono (Kd.R_far (p := ⟨go28, (((rd_T118 ((rd_T107 l0 x27_1).f2) x37_2).f0) : Int).toNat * 5 + 4, none⟩) (Kd.R_types HO_6.out GG28.out (by decide)) (fun _ hk => hk.2) (.int .i64 (rd t312 t329))) (fun _ hk => hk.1)⟩, ⟨zR14 HQ35.out⟩, ⟨by refine zP14 ?_; refine blk_far ?_ (by have h_ := Kd.R_ne HO_9.out BK323.out (by decide); intro e_; exact h_ (by rw [e_]; rfl)) _; refine zP14 ?_; exact BK323.out⟩, ⟨zB14_3⟩⟩

/-! ### laws_FnExactLink: function 8 -/
def KT (w : World) (L : List Nat) (k : Nat) : Prop := ∃ q, q ∈ L ∧ ∃ cells, w.heap[k]? = some (.cells cells q (0, 0))
theorem KT_ne {w : World} {L1 L2 : List Nat} {k : Nat} (hd : ∀ q, q ∈ L1 → ¬ q ∈ L2) (h1 : KT w L1 k) (h2 : KT w L2 k) : False := by
 obtain ⟨q1, m1, c1, e1⟩ := h1; obtain ⟨q2, m2, c2, e2⟩ := h2
 rw [e1] at e2; simp at e2; obtain ⟨_, rfl⟩ := e2; exact hd _ m1 m2
theorem own_any {A : Option Addr} {n n' c c' : Nat} : (Value.slice A n c).ownBlock = (Value.slice A n' c').ownBlock := by cases A <;> rfl
theorem iv_R {α : Type} {d : Kd α} {e b : Nat} {ok : Nat → Prop} {W w' : World} {v : Value} {xs : List α} (h : d.R e w' W.heap.size ok v xs) (hb : b ≤ W.heap.size) : d.R e w' b (fun k => W.heap.size ≤ k ∧ k < w'.heap.size ∧ KT w' (e :: d.E) k ∧ ok k) v xs := Kd.R_lower (Kd.R_mono (Kd.R_bound h) (fun _ hk => ⟨hk.2.1, hk.2.2.1, hk.2.2.2, hk.1⟩)) hb
theorem iv_O {α : Type} {d : Kd α} {e b : Nat} {ok : Nat → Prop} {W w' : World} {v : Value} {xs : List α} (hE : d.E = []) (h : d.R e w' W.heap.size ok v xs) (hb : b ≤ W.heap.size) : d.R e w' b (fun k => W.heap.size ≤ k ∧ k < w'.heap.size ∧ KT w' (e :: d.E) k ∧ some k = v.ownBlock) v xs := Kd.R_lower (Kd.R_mono (Kd.R_bound (Kd.R_tight2 hE h)) (fun _ hk => ⟨hk.2.1, hk.2.2.1, hk.2.2.2, hk.1.1⟩)) hb
theorem iv_S {α : Type} {d : Kd α} {e b : Nat} {ok : Nat → Prop} {W w' : World} {v : Value} {xs : List α} (h : Kd.S d e w' W.heap.size ok v xs) (hb : b ≤ W.heap.size) : Kd.S d e w' b (fun k => W.heap.size ≤ k ∧ k < w'.heap.size ∧ KT w' (e :: d.E) k ∧ ok k) v xs := Kd.S_lower (Kd.S_mono (Kd.S_bound h) (fun _ hk => ⟨hk.2.1, hk.2.2.1, hk.2.2.2, hk.1⟩)) hb
theorem iv_Q {α : Type} {d : Kd α} {e b : Nat} {ok : Nat → Prop} {W w' : World} {v : Value} {xs : List α} (h : d.Q e w' W.heap.size ok v xs) (hb : b ≤ W.heap.size) : d.Q e w' b (fun k => W.heap.size ≤ k ∧ k < w'.heap.size ∧ KT w' (e :: d.E) k ∧ ok k) v xs := Kd.Q_lower (Kd.Q_mono (Kd.Q_bound h) (fun _ hk => ⟨hk.2.1, hk.2.2.1, hk.2.2.2, hk.1⟩)) hb
def laws_FnExactLink.f (k : Nat) (l0 : List (S102)) : Option (Bool) := (laws_szPartS.f k l0 1048576).bind fun t339 => (if t339 < 0 then (some true) else ((laws_toPartS.f k l0).bind fun t340 => ((spec_Link.f k t340).bind fun bt343 => ((laws_toPartS.f k l0).bind fun t347 => ((impl_Link.f k t347).bind fun bt350 => ((laws_eqIntS.f k bt350.1 bt343.1).bind fun t354 => (if t354 = true then (if (bt350.2 != bt343.2) = true then (some false) else ((laws_toPartS.f k l0).bind fun t355 => ((laws_eqPartS.f k t347 t355).bind fun t358 => (if t358 = true then ((laws_markPartS.f k t347 1).bind fun bt359 => (if bt359.1 < 0 then (some false) else ((laws_eqIntS.f k bt350.1 bt343.1).bind fun t361 => (if t361 = true then ((laws_markIntS.f k bt350.1 1).bind fun bt362 => ((laws_heldIntS.f k bt362.2 1).bind fun t364 => (if t364 < 0 then (some false) else (if t364 = bt362.1 then ((laws_toPartS.f k l0).bind fun t365 => ((impl_Link.f k t365).bind fun bt368 => ((laws_eqIntS.f k bt368.1 bt343.1).bind fun t372 => (if t372 = true then (if (bt368.2 != bt343.2) = true then (some false) else ((laws_heldIntS.f k bt362.2 1).bind fun t373 => (if t373 < 0 then (some false) else (if t373 = bt362.1 then (some true) else (some false))))) else (some false))))) else (some false))))) else (some false))))) else (some false))))) else (some false))))))))
theorem laws_FnExactLink.mono : ∀ a0 k, LeO (laws_FnExactLink.f k a0) (laws_FnExactLink.f (k + 1) a0) := by
 intro a0 k
 unfold laws_FnExactLink.f
 repeat' first
   | (with_reducible exact impl_Link.mono _ _)
   | (with_reducible exact laws_eqIntS.mono _ _ _)
   | (with_reducible exact laws_eqPartS.mono _ _ _)
   | (with_reducible exact laws_heldIntS.mono _ _ _)
   | (with_reducible exact laws_markIntS.mono _ _ _)
   | (with_reducible exact laws_markPartS.mono _ _ _)
   | (with_reducible exact laws_szPartS.mono _ _ _)
   | (with_reducible exact laws_toPartS.mono _ _)
   | (with_reducible exact spec_Link.mono _ _)
   | (with_reducible exact LeO.refl _)
   | (with_reducible exact LeO.none _)
   | (with_reducible refine LeO.ite ?_ ?_)
   | (with_reducible refine LeO.bind ?_ (fun _ => ?_))
   | exact impl_Link.mono _ _
   | exact laws_eqIntS.mono _ _ _
   | exact laws_eqPartS.mono _ _ _
   | exact laws_heldIntS.mono _ _ _
   | exact laws_markIntS.mono _ _ _
   | exact laws_markPartS.mono _ _ _
   | exact laws_szPartS.mono _ _ _
   | exact laws_toPartS.mono _ _
   | exact spec_Link.mono _ _
   | exact LeO.none _
   | refine LeO.ite ?_ ?_
   | refine LeO.bind ?_ (fun _ => ?_)
set_option maxHeartbeats 8000000 in
set_option maxRecDepth 100000 in
theorem laws_FnExactLink.calls (k : Nat) (A0 : Option Addr) (c0 : Nat) (l0 : List (S102)) (r : Bool) (w : World) (hr0 : Kd.C k102 w A0 l0.length l0) (hc0 : l0.length ≤ c0) (hr_ : r = true) (h : laws_FnExactLink.f k l0 = some r) :
  Calls Try.prog 8 #[.slice A0 l0.length c0] w fun e w' => e = .returned (.bool r) ∧ Below w.heap.size w w' := by
 subst hr_
 have HR0 := Aside0.mk hr0
 have HC0 := Aside0.mk hc0
 clear hr0 hc0
 unfold laws_FnExactLink.f at h
 have H := h
 clear h
 obtain ⟨t339, hA_, H⟩ := Option.bind_eq_some_iff.mp H
 try dsimp only at H
 have AE0 := Aside0.mk hA_
 clear hA_
 by_cases ci1 : t339 < 0
 ·rw [if_pos ci1] at H
  have ci1b0 : decide (t339 < 0) = true := decide_eq_true ci1
  clear ci1
  have HB := Aside0.mk (Below.refl w.heap.size w)
  have HZ := Aside0.mk (Nat.le_refl w.heap.size)
  clear H
  go_enter Try.func8, Try.ntmps8
  go_wp2_with (first | (go_at_call 44; (refine (laws_szPartS.calls k _ _ l0 1048576 t339 _ ((Kd.C_below HR0.out HB.out)) (HC0.out) AE0.out).mono ?_); rintro e wx1 ⟨rfl, hb⟩; have n_ := Aside0.mk (show _ ∧ w.heap.size ≤ wx1.heap.size from ⟨HZ.out, hb.size⟩); clear HZ; have HZ := n_; clear n_; have n_ := Aside0.mk (below_step HB.out hb); clear HB; have HB := n_; clear n_ hb))
  go_ret
  exact ⟨rfl, HB.out⟩
 rw [if_neg ci1] at H
 have ci1b0 : decide (t339 < 0) = false := decide_eq_false ci1
 clear ci1
 obtain ⟨t340, hA_, H⟩ := Option.bind_eq_some_iff.mp H
 try dsimp only at H
 have AE1 := Aside0.mk hA_
 clear hA_
 obtain ⟨⟨t343, t344⟩, hA_, H⟩ := Option.bind_eq_some_iff.mp H
 try dsimp only at H
 have AE2 := Aside0.mk hA_
 clear hA_
 obtain ⟨t347, hA_, H⟩ := Option.bind_eq_some_iff.mp H
 try dsimp only at H
 have AE3 := Aside0.mk hA_
 clear hA_
 obtain ⟨⟨t350, t351⟩, hA_, H⟩ := Option.bind_eq_some_iff.mp H
 try dsimp only at H
 have AE4 := Aside0.mk hA_
 clear hA_
 obtain ⟨t354, hA_, H⟩ := Option.bind_eq_some_iff.mp H
 try dsimp only at H
 have AE5 := Aside0.mk hA_
 clear hA_
 by_cases ci2 : t354 = true
 rotate_left
 ·rw [if_neg ci2] at H
  exact absurd H (by simp)
 rw [if_pos ci2] at H
 subst ci2
 by_cases ci3 : (t351 != t344) = true
 ·rw [if_pos ci3] at H
  exact absurd H (by simp)
 rw [if_neg ci3] at H
 have ci3b0 : (t351 != t344) = false := by simpa using ci3
 (try (have ci3b1 : decide (t351 = t344) = true := by simpa using ci3))
 (try (have ci3b2 : (t351 == t344) = true := by simpa using ci3))
 clear ci3
 obtain ⟨t355, hA_, H⟩ := Option.bind_eq_some_iff.mp H
 try dsimp only at H
 have AE6 := Aside0.mk hA_
 clear hA_
 obtain ⟨t358, hA_, H⟩ := Option.bind_eq_some_iff.mp H
 try dsimp only at H
 have AE7 := Aside0.mk hA_
 clear hA_
 by_cases ci4 : t358 = true
 rotate_left
 ·rw [if_neg ci4] at H
  exact absurd H (by simp)
 rw [if_pos ci4] at H
 subst ci4
 obtain ⟨⟨t359, t360⟩, hA_, H⟩ := Option.bind_eq_some_iff.mp H
 try dsimp only at H
 have AE8 := Aside0.mk hA_
 clear hA_
 by_cases ci5 : t359 < 0
 ·rw [if_pos ci5] at H
  exact absurd H (by simp)
 rw [if_neg ci5] at H
 have ci5b0 : decide (t359 < 0) = false := decide_eq_false ci5
 clear ci5
 obtain ⟨t361, hA_, H⟩ := Option.bind_eq_some_iff.mp H
 try dsimp only at H
 have AE9 := Aside0.mk hA_
 clear hA_
 by_cases ci6 : t361 = true
 rotate_left
 ·rw [if_neg ci6] at H
  exact absurd H (by simp)
 rw [if_pos ci6] at H
 subst ci6
 obtain ⟨⟨t362, t363⟩, hA_, H⟩ := Option.bind_eq_some_iff.mp H
 try dsimp only at H
 have AE10 := Aside0.mk hA_
 clear hA_
 obtain ⟨t364, hA_, H⟩ := Option.bind_eq_some_iff.mp H
 try dsimp only at H
 have AE11 := Aside0.mk hA_
 clear hA_
 by_cases ci7 : t364 < 0
 ·rw [if_pos ci7] at H
  exact absurd H (by simp)
 rw [if_neg ci7] at H
 have ci7b0 : decide (t364 < 0) = false := decide_eq_false ci7
 clear ci7
 by_cases ci8 : t364 = t362
 rotate_left
 ·rw [if_neg ci8] at H
  exact absurd H (by simp)
 rw [if_pos ci8] at H
 have ci8b0 : (t364 == t362) = true := beq_iff_eq.mpr ci8
 have ci8b1 : (t364 != t362) = false := bne_eq_false_iff_eq.mpr ci8
 clear ci8
 obtain ⟨t365, hA_, H⟩ := Option.bind_eq_some_iff.mp H
 try dsimp only at H
 have AE12 := Aside0.mk hA_
 clear hA_
 obtain ⟨⟨t368, t369⟩, hA_, H⟩ := Option.bind_eq_some_iff.mp H
 try dsimp only at H
 have AE13 := Aside0.mk hA_
 clear hA_
 obtain ⟨t372, hA_, H⟩ := Option.bind_eq_some_iff.mp H
 try dsimp only at H
 have AE14 := Aside0.mk hA_
 clear hA_
 by_cases ci9 : t372 = true
 rotate_left
 ·rw [if_neg ci9] at H
  exact absurd H (by simp)
 rw [if_pos ci9] at H
 subst ci9
 by_cases ci10 : (t369 != t344) = true
 ·rw [if_pos ci10] at H
  exact absurd H (by simp)
 rw [if_neg ci10] at H
 have ci10b0 : (t369 != t344) = false := by simpa using ci10
 (try (have ci10b1 : decide (t369 = t344) = true := by simpa using ci10))
 (try (have ci10b2 : (t369 == t344) = true := by simpa using ci10))
 clear ci10
 obtain ⟨t373, hA_, H⟩ := Option.bind_eq_some_iff.mp H
 try dsimp only at H
 have AE15 := Aside0.mk hA_
 clear hA_
 by_cases ci11 : t373 < 0
 ·rw [if_pos ci11] at H
  exact absurd H (by simp)
 rw [if_neg ci11] at H
 have ci11b0 : decide (t373 < 0) = false := decide_eq_false ci11
 clear ci11
 by_cases ci12 : t373 = t362
 rotate_left
 ·rw [if_neg ci12] at H
  exact absurd H (by simp)
 rw [if_pos ci12] at H
 have ci12b0 : (t373 == t362) = true := beq_iff_eq.mpr ci12
 have ci12b1 : (t373 != t362) = false := bne_eq_false_iff_eq.mpr ci12
 clear ci12
 have HB := Aside0.mk (Below.refl w.heap.size w)
 have HZ := Aside0.mk (Nat.le_refl w.heap.size)
 clear H
 go_enter Try.func8, Try.ntmps8
 go_wp2_with (first | (go_at_call 44; (refine (laws_szPartS.calls k _ _ l0 1048576 t339 _ ((Kd.C_below HR0.out HB.out)) (HC0.out) AE0.out).mono ?_); rintro e wx1 ⟨rfl, hb⟩; have n_ := Aside0.mk (show _ ∧ w.heap.size ≤ wx1.heap.size from ⟨HZ.out, hb.size⟩); clear HZ; have HZ := n_; clear n_; have n_ := Aside0.mk (below_step HB.out hb); clear HB; have HB := n_; clear n_ hb))
 go_wp2_with (first | (go_at_call 46; (refine (laws_toPartS.calls k _ _ l0 t340 _ ((Kd.C_below HR0.out HB.out)) (HC0.out) AE1.out).mono ?_); rintro e wx2 ⟨v341, rfl, ho0, hb⟩; obtain ⟨AHO342, cHO342, e_⟩ := Kd.S_slice ho0; subst e_; have HO342 := Aside0.mk (iv_S ho0 HB.out.size); clear ho0; have n_ := Aside0.mk (show _ ∧ wx1.heap.size ≤ wx2.heap.size from ⟨HZ.out, hb.size⟩); clear HZ; have HZ := n_; clear n_; have n_ := Aside0.mk (below_step HB.out hb); clear HB; have HB := n_; clear n_ hb))
 go_wp2_with (first | (go_at_call 50; (refine (spec_Link.calls k _ _ t340 t343 _ _ ((Kd.S_reads' HO342.out).2.2) ((Kd.S_reads' HO342.out).2.1) AE2.out).mono ?_); rintro e wx3 ⟨v345, rfl, ho0, hb⟩; obtain ⟨AHO346, cHO346, e_⟩ := Kd.R_slice ho0; subst e_; have n0_ := Aside0.mk (Kd.S_below HO342.out hb); clear HO342; have HO342 := n0_; clear n0_; have HO346 := Aside0.mk (iv_O rfl ho0 HB.out.size); clear ho0; have n_ := Aside0.mk (show _ ∧ wx2.heap.size ≤ wx3.heap.size from ⟨HZ.out, hb.size⟩); clear HZ; have HZ := n_; clear n_; have n_ := Aside0.mk (below_step HB.out hb); clear HB; have HB := n_; clear n_ hb))
 go_wp2_with (first | (go_at_call 46; (refine (laws_toPartS.calls k _ _ l0 t347 _ ((Kd.C_below HR0.out HB.out)) (HC0.out) AE3.out).mono ?_); rintro e wx4 ⟨v348, rfl, ho0, hb⟩; obtain ⟨AHO349, cHO349, e_⟩ := Kd.S_slice ho0; subst e_; have n0_ := Aside0.mk (Kd.S_below HO342.out hb); have n1_ := Aside0.mk (Kd.R_below HO346.out hb); clear HO342; clear HO346; have HO342 := n0_; have HO346 := n1_; clear n0_; clear n1_; have HO349 := Aside0.mk (iv_S ho0 HB.out.size); clear ho0; have n_ := Aside0.mk (show _ ∧ wx3.heap.size ≤ wx4.heap.size from ⟨HZ.out, hb.size⟩); clear HZ; have HZ := n_; clear n_; have n_ := Aside0.mk (below_step HB.out hb); clear HB; have HB := n_; clear n_ hb))
 go_wp2_with (first | (go_at_call 51; (refine (impl_Link.calls k _ _ t347 t350 _ _ ((Kd.S_reads' HO349.out).2.2) ((Kd.S_reads' HO349.out).2.1) AE4.out).mono ?_); rintro e wx5 ⟨v352, rfl, ho0, hb⟩; obtain ⟨AHO353, cHO353, e_⟩ := Kd.R_slice ho0; subst e_; have n0_ := Aside0.mk (Kd.S_below HO342.out hb); have n1_ := Aside0.mk (Kd.R_below HO346.out hb); have n2_ := Aside0.mk (Kd.S_below HO349.out hb); clear HO342; clear HO346; clear HO349; have HO342 := n0_; have HO346 := n1_; have HO349 := n2_; clear n0_; clear n1_; clear n2_; have HO353 := Aside0.mk (iv_O rfl ho0 HB.out.size); clear ho0; have n_ := Aside0.mk (show _ ∧ wx4.heap.size ≤ wx5.heap.size from ⟨HZ.out, hb.size⟩); clear HZ; have HZ := n_; clear n_; have n_ := Aside0.mk (below_step HB.out hb); clear HB; have HB := n_; clear n_ hb))
 go_wp2_with (first | (go_at_call 28; (refine (laws_eqIntS.calls k _ _ t350 _ _ t343 _ _ ((Kd.R_reads' HO353.out).2.2) ((Kd.R_reads' HO353.out).2.1) ((Kd.R_reads' HO346.out).2.2) ((Kd.R_reads' HO346.out).2.1) AE5.out).mono ?_); rintro e wx6 ⟨rfl, hd_⟩; have hb := hd_.below; clear hd_; have n0_ := Aside0.mk (Kd.S_below HO342.out hb); have n1_ := Aside0.mk (Kd.R_below HO346.out hb); have n2_ := Aside0.mk (Kd.S_below HO349.out hb); have n3_ := Aside0.mk (Kd.R_below HO353.out hb); clear HO342; clear HO346; clear HO349; clear HO353; have HO342 := n0_; have HO346 := n1_; have HO349 := n2_; have HO353 := n3_; clear n0_; clear n1_; clear n2_; clear n3_; have n_ := Aside0.mk (show _ ∧ wx5.heap.size ≤ wx6.heap.size from ⟨HZ.out, hb.size⟩); clear HZ; have HZ := n_; clear n_; have n_ := Aside0.mk (below_step HB.out hb); clear HB; have HB := n_; clear n_ hb))
 go_wp2_with (first | (go_at_call 46; (refine (laws_toPartS.calls k _ _ l0 t355 _ ((Kd.C_below HR0.out HB.out)) (HC0.out) AE6.out).mono ?_); rintro e wx7 ⟨v356, rfl, ho0, hb⟩; obtain ⟨AHO357, cHO357, e_⟩ := Kd.S_slice ho0; subst e_; have n0_ := Aside0.mk (Kd.S_below HO342.out hb); have n1_ := Aside0.mk (Kd.R_below HO346.out hb); have n2_ := Aside0.mk (Kd.S_below HO349.out hb); have n3_ := Aside0.mk (Kd.R_below HO353.out hb); clear HO342; clear HO346; clear HO349; clear HO353; have HO342 := n0_; have HO346 := n1_; have HO349 := n2_; have HO353 := n3_; clear n0_; clear n1_; clear n2_; clear n3_; have HO357 := Aside0.mk (iv_S ho0 HB.out.size); clear ho0; have n_ := Aside0.mk (show _ ∧ wx6.heap.size ≤ wx7.heap.size from ⟨HZ.out, hb.size⟩); clear HZ; have HZ := n_; clear n_; have n_ := Aside0.mk (below_step HB.out hb); clear HB; have HB := n_; clear n_ hb))
 go_wp2_with (first | (go_at_call 48; (refine (laws_eqPartS.calls k _ _ t347 _ _ t355 _ _ ((Kd.S_reads' HO349.out).2.2) ((Kd.S_reads' HO349.out).2.1) ((Kd.S_reads' HO357.out).2.2) ((Kd.S_reads' HO357.out).2.1) AE7.out).mono ?_); rintro e wx8 ⟨rfl, hb⟩; have n0_ := Aside0.mk (Kd.S_below HO342.out hb); have n1_ := Aside0.mk (Kd.R_below HO346.out hb); have n2_ := Aside0.mk (Kd.S_below HO349.out hb); have n3_ := Aside0.mk (Kd.R_below HO353.out hb); have n4_ := Aside0.mk (Kd.S_below HO357.out hb); clear HO342; clear HO346; clear HO349; clear HO353; clear HO357; have HO342 := n0_; have HO346 := n1_; have HO349 := n2_; have HO353 := n3_; have HO357 := n4_; clear n0_; clear n1_; clear n2_; clear n3_; clear n4_; have n_ := Aside0.mk (show _ ∧ wx7.heap.size ≤ wx8.heap.size from ⟨HZ.out, hb.size⟩); clear HZ; have HZ := n_; clear n_; have n_ := Aside0.mk (below_step HB.out hb); clear HB; have HB := n_; clear n_ hb))
 go_wp2_with (first | (go_at_call 49; (refine (laws_markPartS.calls k _ (.slice AHO349 t347.length cHO349) t347 1 t359 t360 w _ HB.out (HO349.out) AE8.out).mono ?_); rintro e wx9 ⟨rfl, hy0, hb, hkp⟩; have n0_ := Aside0.mk (Kd.S_kept HO342.out hkp (fun k_ h1_ h2_ => (by have hz_ := HZ.out; have a_ := h1_.1; have b_ := h1_.2.1; have c_ := h2_.1; have d_ := h2_.2.1; clear h1_ h2_; omega))); have n1_ := Aside0.mk (Kd.R_kept HO346.out hkp (fun k_ h1_ h2_ => (by have hz_ := HZ.out; have a_ := h1_.1; have b_ := h1_.2.1; have c_ := h2_.1; have d_ := h2_.2.1; clear h1_ h2_; omega))); have n2_ := Aside0.mk (Kd.R_kept HO353.out hkp (fun k_ h1_ h2_ => (by have hz_ := HZ.out; have a_ := h1_.1; have b_ := h1_.2.1; have c_ := h2_.1; have d_ := h2_.2.1; clear h1_ h2_; omega))); have n3_ := Aside0.mk (Kd.S_kept HO357.out hkp (fun k_ h1_ h2_ => (by have hz_ := HZ.out; have a_ := h1_.1; have b_ := h1_.2.1; have c_ := h2_.1; have d_ := h2_.2.1; clear h1_ h2_; omega))); clear HO342; clear HO346; clear HO353; clear HO357; have HO342 := n0_; have HO346 := n1_; have HO353 := n2_; have HO357 := n3_; clear n0_; clear n1_; clear n2_; clear n3_; have n_ := Aside0.mk (hy0); have hl_ := (Kd.S_reads' n_.out).1; rw [hl_] at n_ ⊢; clear hl_ HO349; have HO349 := n_; clear n_; have n_ := Aside0.mk (show _ ∧ wx8.heap.size ≤ wx9.heap.size from ⟨HZ.out, hkp.1⟩); clear HZ; have HZ := n_; clear n_; have n_ := Aside0.mk hb; clear HB; have HB := n_; clear n_ hb hkp))
 go_wp2_with (first | (go_at_call 28; (refine (laws_eqIntS.calls k _ _ t350 _ _ t343 _ _ ((Kd.R_reads' HO353.out).2.2) ((Kd.R_reads' HO353.out).2.1) ((Kd.R_reads' HO346.out).2.2) ((Kd.R_reads' HO346.out).2.1) AE9.out).mono ?_); rintro e wx10 ⟨rfl, hd_⟩; have hb := hd_.below; clear hd_; have n0_ := Aside0.mk (Kd.S_below HO342.out hb); have n1_ := Aside0.mk (Kd.R_below HO346.out hb); have n2_ := Aside0.mk (Kd.S_below HO349.out hb); have n3_ := Aside0.mk (Kd.R_below HO353.out hb); have n4_ := Aside0.mk (Kd.S_below HO357.out hb); clear HO342; clear HO346; clear HO349; clear HO353; clear HO357; have HO342 := n0_; have HO346 := n1_; have HO349 := n2_; have HO353 := n3_; have HO357 := n4_; clear n0_; clear n1_; clear n2_; clear n3_; clear n4_; have n_ := Aside0.mk (show _ ∧ wx9.heap.size ≤ wx10.heap.size from ⟨HZ.out, hb.size⟩); clear HZ; have HZ := n_; clear n_; have n_ := Aside0.mk (below_step HB.out hb); clear HB; have HB := n_; clear n_ hb))
 go_wp2_with (first | (go_at_call 35; (refine (laws_markIntS.calls k _ (.slice AHO353 t350.length cHO353) t350 1 t362 t363 w _ HB.out (HO353.out) AE10.out).mono ?_); rintro e wx11 ⟨rfl, hy0, hb, hkp⟩; have n0_ := Aside0.mk (Kd.S_kept HO342.out hkp (fun k_ h1_ h2_ => (by have hz_ := HZ.out; have a_ := h1_.1; have b_ := h1_.2.1; have c_ := h2_.1; have d_ := h2_.2.1; clear h1_ h2_; omega))); have n1_ := Aside0.mk (Kd.R_kept HO346.out hkp (fun k_ h1_ h2_ => (by have hz_ := HZ.out; have a_ := h1_.1; have b_ := h1_.2.1; have c_ := h2_.1; have d_ := h2_.2.1; clear h1_ h2_; omega))); have n2_ := Aside0.mk (Kd.S_kept HO349.out hkp (fun k_ h1_ h2_ => (by have hz_ := HZ.out; have a_ := h1_.1; have b_ := h1_.2.1; have c_ := h2_.1; have d_ := h2_.2.1; clear h1_ h2_; omega))); have n3_ := Aside0.mk (Kd.S_kept HO357.out hkp (fun k_ h1_ h2_ => (by have hz_ := HZ.out; have a_ := h1_.1; have b_ := h1_.2.1; have c_ := h2_.1; have d_ := h2_.2.1; clear h1_ h2_; omega))); clear HO342; clear HO346; clear HO349; clear HO357; have HO342 := n0_; have HO346 := n1_; have HO349 := n2_; have HO357 := n3_; clear n0_; clear n1_; clear n2_; clear n3_; have n_ := Aside0.mk (Kd.R_reok rfl hy0 (fun k_ e_ => HO353.out.1 k_ e_)); have hl_ := (Kd.R_reads' n_.out).1; rw [hl_] at n_ ⊢; clear hl_ HO353; have HO353 := n_; clear n_; have n_ := Aside0.mk (show _ ∧ wx10.heap.size ≤ wx11.heap.size from ⟨HZ.out, hkp.1⟩); clear HZ; have HZ := n_; clear n_; have n_ := Aside0.mk hb; clear HB; have HB := n_; clear n_ hb hkp))
 go_wp2_with (first | (go_at_call 42; (refine (laws_heldIntS.calls k _ _ t363 1 t364 _ ((Kd.R_reads' HO353.out).2.2) ((Kd.R_reads' HO353.out).2.1) AE11.out).mono ?_); rintro e wx12 ⟨rfl, hd_⟩; have hb := hd_.below; clear hd_; have n0_ := Aside0.mk (Kd.S_below HO342.out hb); have n1_ := Aside0.mk (Kd.R_below HO346.out hb); have n2_ := Aside0.mk (Kd.S_below HO349.out hb); have n3_ := Aside0.mk (Kd.R_below HO353.out hb); have n4_ := Aside0.mk (Kd.S_below HO357.out hb); clear HO342; clear HO346; clear HO349; clear HO353; clear HO357; have HO342 := n0_; have HO346 := n1_; have HO349 := n2_; have HO353 := n3_; have HO357 := n4_; clear n0_; clear n1_; clear n2_; clear n3_; clear n4_; have n_ := Aside0.mk (show _ ∧ wx11.heap.size ≤ wx12.heap.size from ⟨HZ.out, hb.size⟩); clear HZ; have HZ := n_; clear n_; have n_ := Aside0.mk (below_step HB.out hb); clear HB; have HB := n_; clear n_ hb))
 go_wp2_with (first | (go_at_call 46; (refine (laws_toPartS.calls k _ _ l0 t365 _ ((Kd.C_below HR0.out HB.out)) (HC0.out) AE12.out).mono ?_); rintro e wx13 ⟨v366, rfl, ho0, hb⟩; obtain ⟨AHO367, cHO367, e_⟩ := Kd.S_slice ho0; subst e_; have n0_ := Aside0.mk (Kd.S_below HO342.out hb); have n1_ := Aside0.mk (Kd.R_below HO346.out hb); have n2_ := Aside0.mk (Kd.S_below HO349.out hb); have n3_ := Aside0.mk (Kd.R_below HO353.out hb); have n4_ := Aside0.mk (Kd.S_below HO357.out hb); clear HO342; clear HO346; clear HO349; clear HO353; clear HO357; have HO342 := n0_; have HO346 := n1_; have HO349 := n2_; have HO353 := n3_; have HO357 := n4_; clear n0_; clear n1_; clear n2_; clear n3_; clear n4_; have HO367 := Aside0.mk (iv_S ho0 HB.out.size); clear ho0; have n_ := Aside0.mk (show _ ∧ wx12.heap.size ≤ wx13.heap.size from ⟨HZ.out, hb.size⟩); clear HZ; have HZ := n_; clear n_; have n_ := Aside0.mk (below_step HB.out hb); clear HB; have HB := n_; clear n_ hb))
 go_wp2_with (first | (go_at_call 51; (refine (impl_Link.calls k _ _ t365 t368 _ _ ((Kd.S_reads' HO367.out).2.2) ((Kd.S_reads' HO367.out).2.1) AE13.out).mono ?_); rintro e wx14 ⟨v370, rfl, ho0, hb⟩; obtain ⟨AHO371, cHO371, e_⟩ := Kd.R_slice ho0; subst e_; have n0_ := Aside0.mk (Kd.S_below HO342.out hb); have n1_ := Aside0.mk (Kd.R_below HO346.out hb); have n2_ := Aside0.mk (Kd.S_below HO349.out hb); have n3_ := Aside0.mk (Kd.R_below HO353.out hb); have n4_ := Aside0.mk (Kd.S_below HO357.out hb); have n5_ := Aside0.mk (Kd.S_below HO367.out hb); clear HO342; clear HO346; clear HO349; clear HO353; clear HO357; clear HO367; have HO342 := n0_; have HO346 := n1_; have HO349 := n2_; have HO353 := n3_; have HO357 := n4_; have HO367 := n5_; clear n0_; clear n1_; clear n2_; clear n3_; clear n4_; clear n5_; have HO371 := Aside0.mk (iv_O rfl ho0 HB.out.size); clear ho0; have n_ := Aside0.mk (show _ ∧ wx13.heap.size ≤ wx14.heap.size from ⟨HZ.out, hb.size⟩); clear HZ; have HZ := n_; clear n_; have n_ := Aside0.mk (below_step HB.out hb); clear HB; have HB := n_; clear n_ hb))
 go_wp2_with (first | (go_at_call 28; (refine (laws_eqIntS.calls k _ _ t368 _ _ t343 _ _ ((Kd.R_reads' HO371.out).2.2) ((Kd.R_reads' HO371.out).2.1) ((Kd.R_reads' HO346.out).2.2) ((Kd.R_reads' HO346.out).2.1) AE14.out).mono ?_); rintro e wx15 ⟨rfl, hd_⟩; have hb := hd_.below; clear hd_; have n0_ := Aside0.mk (Kd.S_below HO342.out hb); have n1_ := Aside0.mk (Kd.R_below HO346.out hb); have n2_ := Aside0.mk (Kd.S_below HO349.out hb); have n3_ := Aside0.mk (Kd.R_below HO353.out hb); have n4_ := Aside0.mk (Kd.S_below HO357.out hb); have n5_ := Aside0.mk (Kd.S_below HO367.out hb); have n6_ := Aside0.mk (Kd.R_below HO371.out hb); clear HO342; clear HO346; clear HO349; clear HO353; clear HO357; clear HO367; clear HO371; have HO342 := n0_; have HO346 := n1_; have HO349 := n2_; have HO353 := n3_; have HO357 := n4_; have HO367 := n5_; have HO371 := n6_; clear n0_; clear n1_; clear n2_; clear n3_; clear n4_; clear n5_; clear n6_; have n_ := Aside0.mk (show _ ∧ wx14.heap.size ≤ wx15.heap.size from ⟨HZ.out, hb.size⟩); clear HZ; have HZ := n_; clear n_; have n_ := Aside0.mk (below_step HB.out hb); clear HB; have HB := n_; clear n_ hb))
 go_wp2_with (first | (go_at_call 42; (refine (laws_heldIntS.calls k _ _ t363 1 t373 _ ((Kd.R_reads' HO353.out).2.2) ((Kd.R_reads' HO353.out).2.1) AE15.out).mono ?_); rintro e wx16 ⟨rfl, hd_⟩; have hb := hd_.below; clear hd_; have n0_ := Aside0.mk (Kd.S_below HO342.out hb); have n1_ := Aside0.mk (Kd.R_below HO346.out hb); have n2_ := Aside0.mk (Kd.S_below HO349.out hb); have n3_ := Aside0.mk (Kd.R_below HO353.out hb); have n4_ := Aside0.mk (Kd.S_below HO357.out hb); have n5_ := Aside0.mk (Kd.S_below HO367.out hb); have n6_ := Aside0.mk (Kd.R_below HO371.out hb); clear HO342; clear HO346; clear HO349; clear HO353; clear HO357; clear HO367; clear HO371; have HO342 := n0_; have HO346 := n1_; have HO349 := n2_; have HO353 := n3_; have HO357 := n4_; have HO367 := n5_; have HO371 := n6_; clear n0_; clear n1_; clear n2_; clear n3_; clear n4_; clear n5_; clear n6_; have n_ := Aside0.mk (show _ ∧ wx15.heap.size ≤ wx16.heap.size from ⟨HZ.out, hb.size⟩); clear HZ; have HZ := n_; clear n_; have n_ := Aside0.mk (below_step HB.out hb); clear HB; have HB := n_; clear n_ hb))
 go_ret
 exact ⟨rfl, HB.out⟩

/-- THE ONE PURE STATEMENT of laws_FnExactLink: yours. -/
def laws_FnExactLink.Pure : Prop := ∀ (l0 : List (S102)), (l0.length ≤ maxLen ∧ ∀ y1_ ∈ l0, (y1_.f0.size ≤ maxLen ∧ ((y1_.f1.length ≤ maxLen ∧ ∀ y2_ ∈ y1_.f1, ((Lit.int .i64 y2_.f0).wf = true ∧ ((Lit.int .i64 y2_.f1).wf = true ∧ ((Lit.int .i64 y2_.f2).wf = true ∧ ((Lit.int .i64 y2_.f3).wf = true ∧ (Lit.int .i64 y2_.f4).wf = true))))) ∧ (y1_.f2.length ≤ maxLen ∧ ∀ y3_ ∈ y1_.f2, ((Lit.int .i64 y3_.f0).wf = true ∧ y3_.f1.size ≤ maxLen))))) → ∃ k, laws_FnExactLink.f k l0 = some true
theorem laws_FnExactLink.walk (P : laws_FnExactLink.Pure) (A0 : Option Addr) (c0 : Nat) (l0 : List (S102)) (w : World) (hr0 : Kd.C k102 w A0 l0.length l0) (hc0 : l0.length ≤ c0) (g0 : (l0.length ≤ maxLen ∧ ∀ y1_ ∈ l0, (y1_.f0.size ≤ maxLen ∧ ((y1_.f1.length ≤ maxLen ∧ ∀ y2_ ∈ y1_.f1, ((Lit.int .i64 y2_.f0).wf = true ∧ ((Lit.int .i64 y2_.f1).wf = true ∧ ((Lit.int .i64 y2_.f2).wf = true ∧ ((Lit.int .i64 y2_.f3).wf = true ∧ (Lit.int .i64 y2_.f4).wf = true))))) ∧ (y1_.f2.length ≤ maxLen ∧ ∀ y3_ ∈ y1_.f2, ((Lit.int .i64 y3_.f0).wf = true ∧ y3_.f1.size ≤ maxLen)))))) :
  Calls Try.prog 8 #[.slice A0 l0.length c0] w fun e w' => e = .returned (.bool true) ∧ Below w.heap.size w w' := by
 obtain ⟨k, h⟩ := P l0 g0
 exact laws_FnExactLink.calls k A0 c0 l0 true w hr0 hc0 rfl h

end Go.Proofs.Ytbbieaglfgipnaa.PFnExactLink
