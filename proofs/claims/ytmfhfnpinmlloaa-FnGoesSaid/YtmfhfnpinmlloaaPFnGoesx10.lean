-- made by wip/tools/myprint.py out of the seat's translation
import Derived.Test.YtmfhfnpinmlloaaPFnGoesx0
import Derived.Test.YtmfhfnpinmlloaaPFnGoesx5
import Derived.Test.YtmfhfnpinmlloaaPFnGoesx6
import Derived.Test.YtmfhfnpinmlloaaPFnGoesx7
import Derived.Test.YtmfhfnpinmlloaaPFnGoesx9
namespace Go.Proofs.Ytmfhfnpinmlloaa.PFnGoes
open Go.RowKit Go.Proofs.YtmfhfnpinmlloaaW.PrintWords Go.Proofs.YtmfhfnpinmlloaaW.PrintLast Go.Proofs.YtmfhfnpinmlloaaW.PrintMore
attribute [local go_sem] max2_int min2_int max_two min_two max_three min_three max_four min_four   -- for this text's walks alone
set_option linter.unusedVariables false
set_option linter.unusedSimpArgs false
theorem zR10 {p q : Prop} (x : q) (h : q → p := by intro h; (with_reducible repeat (first | apply Kd.R_alloc | apply Kd.R_drewN | apply Kd.R_drew)); exact h) : p := h x
theorem zA10 {p : Prop} [Decidable p] (h : decide p = true := by first | (with_reducible assumption) | assumption) : p := of_decide_eq_true h
theorem zT10 {p : Prop} (h : p := by (try simp only [List.map_toArray, List.map_cons, List.map_nil]); first | done | rfl | (simp only [List.length_drop, List.length_take]; rfl)) : p := h
theorem zC10 {p q : Prop} (x : q) (h : q → p := by intro h; repeat (first | exact h | (with_reducible refine Kd.C_alloc ?_ _) | (with_reducible refine Kd.C_drewN ?_ _) | (with_reducible refine Kd.C_drew ?_))) : p := h x
theorem zE10 {p : Prop} (h : p := by first | rfl | (simp [errW_none, errW_some] <;> rfl) | (simp [*, errW_none, errW_some] <;> rfl)) : p := h
theorem zB10_0 {p : Prop} (h : p := by repeat (first | (with_reducible first | exact HB.out | apply below_alloc | apply pw_below_drewN | apply below_drew1) | exact HB.out)) : p := h
theorem zB10_1 {p : Prop} (h : p := by repeat (first | (with_reducible first | exact HB1.out | apply below_alloc | apply pw_below_drewN | apply below_drew1 | refine below_set ?_ GE1.out) | exact HB1.out)) : p := h

/-! ### impl_ReachOf: function 10 -/
mutual
def impl_ReachOf.j0 : Nat → List Int → Int → List Int → Bool → Option (List Int)
 | 0, _, _, _, _ => none
 | k + 1, x0, x1, x5, x17 => if x17 = true then (some x5) else (if x5.length < 17592186044416 then (impl_ReachOf.l0 k x0 (x5 ++ [x1]) 0) else (none))
def impl_ReachOf.l0 : Nat → List Int → List Int → Int → Option (List Int)
 | 0, _, _, _ => none
 | k + 1, x0, x5, x6 => if x6 < (x5.length : Int) then (if 0 ≤ x6 then ((impl_NextOf.f k x0 (rd x5 x6)).bind fun t458 => (impl_ReachOf.l1 k x0 x5 x6 t458 (t458.length : Int) 0)) else (none)) else ((slices_Sort_int_int.f x5).bind fun t456 => (some t456))
def impl_ReachOf.l1 : Nat → List Int → List Int → Int → List Int → Int → Int → Option (List Int)
 | 0, _, _, _, _, _, _ => none
 | k + 1, x0, x5, x6, x34, x35, x36 => if x36 < x35 then (if 0 ≤ x36 then (if x36 < (x34.length : Int) then ((slices_Contains_int_int.f k x5 (rd x34 x36)).bind fun t462 => (if t462 = true then (impl_ReachOf.l1 k x0 x5 x6 x34 x35 (wrap64 (x36 + 1))) else (if x5.length < 17592186044416 then (impl_ReachOf.l1 k x0 (x5 ++ [rd x34 x36]) x6 x34 x35 (wrap64 (x36 + 1))) else (none)))) else (none)) else (none)) else (impl_ReachOf.l0 k x0 x5 (wrap64 (x6 + 1)))
end
def impl_ReachOf.f (k : Nat) (l0 : List Int) (a1 : Int) : Option (List Int) := (some (([] : List Int) : List Int)).bind fun y448 => ((impl_memOk.f k l0).bind fun t451 => (if t451 = true then ((impl_isCell.f a1).bind fun t452 => (impl_ReachOf.j0 k l0 a1 y448 (!t452))) else (impl_ReachOf.j0 k l0 a1 y448 true)))
theorem impl_ReachOf.mono_l : ∀ k, (∀ y0 y1 y2 y3, LeO (impl_ReachOf.j0 k y0 y1 y2 y3) (impl_ReachOf.j0 (k + 1) y0 y1 y2 y3)) ∧ (∀ y0 y1 y2, LeO (impl_ReachOf.l0 k y0 y1 y2) (impl_ReachOf.l0 (k + 1) y0 y1 y2)) ∧ (∀ y0 y1 y2 y3 y4 y5, LeO (impl_ReachOf.l1 k y0 y1 y2 y3 y4 y5) (impl_ReachOf.l1 (k + 1) y0 y1 y2 y3 y4 y5))
 | 0 => ⟨fun _ _ _ _ r h => by simp [impl_ReachOf.j0] at h, fun _ _ _ r h => by simp [impl_ReachOf.l0] at h, fun _ _ _ _ _ _ r h => by simp [impl_ReachOf.l1] at h⟩
 | k + 1 => by
  obtain ⟨ih0, ih1, ih2⟩ := impl_ReachOf.mono_l k
  refine ⟨?_, ?_, ?_⟩
  ·intro y0 y1 y2 y3
   unfold impl_ReachOf.j0
   repeat' first
   | (with_reducible exact ih0 _ _ _ _)
   | (with_reducible exact ih1 _ _ _)
   | (with_reducible exact ih2 _ _ _ _ _ _)
   | (with_reducible exact impl_NextOf.mono _ _ _)
   | (with_reducible exact impl_memOk.mono _ _)
   | (with_reducible exact slices_Contains_int_int.mono _ _ _)
   | (with_reducible exact LeO.refl _)
   | (with_reducible exact LeO.none _)
   | (with_reducible refine LeO.ite ?_ ?_)
   | (with_reducible refine LeO.bind ?_ (fun _ => ?_))
   | exact ih0 _ _ _ _
   | exact ih1 _ _ _
   | exact ih2 _ _ _ _ _ _
   | exact impl_NextOf.mono _ _ _
   | exact impl_memOk.mono _ _
   | exact slices_Contains_int_int.mono _ _ _
   | exact LeO.none _
   | refine LeO.ite ?_ ?_
   | refine LeO.bind ?_ (fun _ => ?_)
  ·intro y0 y1 y2
   unfold impl_ReachOf.l0
   repeat' first
   | (with_reducible exact ih0 _ _ _ _)
   | (with_reducible exact ih1 _ _ _)
   | (with_reducible exact ih2 _ _ _ _ _ _)
   | (with_reducible exact impl_NextOf.mono _ _ _)
   | (with_reducible exact impl_memOk.mono _ _)
   | (with_reducible exact slices_Contains_int_int.mono _ _ _)
   | (with_reducible exact LeO.refl _)
   | (with_reducible exact LeO.none _)
   | (with_reducible refine LeO.ite ?_ ?_)
   | (with_reducible refine LeO.bind ?_ (fun _ => ?_))
   | exact ih0 _ _ _ _
   | exact ih1 _ _ _
   | exact ih2 _ _ _ _ _ _
   | exact impl_NextOf.mono _ _ _
   | exact impl_memOk.mono _ _
   | exact slices_Contains_int_int.mono _ _ _
   | exact LeO.none _
   | refine LeO.ite ?_ ?_
   | refine LeO.bind ?_ (fun _ => ?_)
  ·intro y0 y1 y2 y3 y4 y5
   unfold impl_ReachOf.l1
   repeat' first
   | (with_reducible exact ih0 _ _ _ _)
   | (with_reducible exact ih1 _ _ _)
   | (with_reducible exact ih2 _ _ _ _ _ _)
   | (with_reducible exact impl_NextOf.mono _ _ _)
   | (with_reducible exact impl_memOk.mono _ _)
   | (with_reducible exact slices_Contains_int_int.mono _ _ _)
   | (with_reducible exact LeO.refl _)
   | (with_reducible exact LeO.none _)
   | (with_reducible refine LeO.ite ?_ ?_)
   | (with_reducible refine LeO.bind ?_ (fun _ => ?_))
   | exact ih0 _ _ _ _
   | exact ih1 _ _ _
   | exact ih2 _ _ _ _ _ _
   | exact impl_NextOf.mono _ _ _
   | exact impl_memOk.mono _ _
   | exact slices_Contains_int_int.mono _ _ _
   | exact LeO.none _
   | refine LeO.ite ?_ ?_
   | refine LeO.bind ?_ (fun _ => ?_)
theorem impl_ReachOf.mono : ∀ a0 a1 k, LeO (impl_ReachOf.f k a0 a1) (impl_ReachOf.f (k + 1) a0 a1) := by
 intro a0 a1 k
 obtain ⟨ih0, ih1, ih2⟩ := impl_ReachOf.mono_l k
 unfold impl_ReachOf.f
 repeat' first
   | (with_reducible exact ih0 _ _ _ _)
   | (with_reducible exact ih1 _ _ _)
   | (with_reducible exact ih2 _ _ _ _ _ _)
   | (with_reducible exact impl_NextOf.mono _ _ _)
   | (with_reducible exact impl_memOk.mono _ _)
   | (with_reducible exact slices_Contains_int_int.mono _ _ _)
   | (with_reducible exact LeO.refl _)
   | (with_reducible exact LeO.none _)
   | (with_reducible refine LeO.ite ?_ ?_)
   | (with_reducible refine LeO.bind ?_ (fun _ => ?_))
   | exact ih0 _ _ _ _
   | exact ih1 _ _ _
   | exact ih2 _ _ _ _ _ _
   | exact impl_NextOf.mono _ _ _
   | exact impl_memOk.mono _ _
   | exact slices_Contains_int_int.mono _ _ _
   | exact LeO.none _
   | refine LeO.ite ?_ ?_
   | refine LeO.bind ?_ (fun _ => ?_)
set_option maxHeartbeats 8000000 in
set_option maxRecDepth 100000 in
theorem impl_ReachOf.calls (k : Nat) (A0 : Option Addr) (c0 : Nat) (l0 : List Int) (a1 : Int) (r : List Int) (w : World) (hr0 : Kd.C (Kd.int .i64) w A0 l0.length l0) (hc0 : l0.length ≤ c0) (h : impl_ReachOf.f k l0 a1 = some r) :
  Calls Try.prog 10 #[.slice A0 l0.length c0, .int .i64 a1] w fun e w' => ∃ v0_ : Value, e = .returned (v0_) ∧ Kd.R (Kd.int .i64) 3 w' w.heap.size (fun _ => True) v0_ r ∧ Below w.heap.size w w' := by
 have HR0 := Aside0.mk hr0
 have HC0 := Aside0.mk hc0
 clear hr0 hc0
 have HB := Aside0.mk (Below.refl w.heap.size w)
 have H : ((some (([] : List Int) : List Int)).bind fun y448 => ((impl_memOk.f k l0).bind fun t451 => (if t451 = true then ((impl_isCell.f a1).bind fun t452 => (impl_ReachOf.j0 k l0 a1 y448 (!t452))) else (impl_ReachOf.j0 k l0 a1 y448 true)))) = some r := h
 clear h
 obtain ⟨y448, hy448⟩ : ∃ y_ : List Int, y_ = (([] : List Int)) := ⟨_, rfl⟩
 replace H : ((impl_memOk.f k l0).bind fun t451 => (if t451 = true then ((impl_isCell.f a1).bind fun t452 => (impl_ReachOf.j0 k l0 a1 y448 (!t452))) else (impl_ReachOf.j0 k l0 a1 y448 true))) = some r := by first | (rw [hy448]; with_reducible exact H) | (have H2_ := (Option.bind_some _ _).symm.trans H; rw [hy448]; with_reducible exact H2_) | (have H2_ := (Option.bind_some _ _).symm.trans H; with_reducible exact H2_) | with_reducible exact H | (rw [hy448]; exact H) | exact H
 have Ny448 := Aside0.mk hy448
 clear hy448
 have HC3 := Aside0.mk H
 clear H
 go_enter Try.func10, Try.ntmps10
 go_upto_region 2 with (first | ((with_reducible refine gate_dst (N := 9) rfl ?_); refine Kd.R_lit (Kd.int .i64) _ 3 ?hg (N := 9) ?hd (xs := ([] : List Int)) (inner := []) (ok := fun _ => True) (okp := fun _ => True) ?hr ?hp (fun _ hk => hk) trivial (Below.refl _ _) (Nat.le_refl _) (by simp) ?_; (case hd => rfl); (case hg => rfl); (case hr => first | (go_simp; done) | (go_simp; rfl)); (case hp => exact (Reps.none _ _)); intro v449 w4 ho5 hb hg_ hnew_; clear hg_ hnew_; (first | rw [← Ny448.out] at ho5 | (simp only [Int.reduceToNat] at ho5; rw [← Ny448.out] at ho5)); have n0_ := Aside0.mk (Kd.R_lower ho5 (below_size (zB10_0))); have n1_ := Aside0.mk (below_step (zB10_0) hb); clear HB; have HO450 := n0_; have HB := n1_; clear n0_ n1_; clear hb ho5))
 (try simp only [Act.put, List.setIfInBounds_toArray, List.set_cons_zero, List.set_cons_succ])
 go_cut [17] (fun v17 wc => ∃ (kq : Nat) (x17_2 : Bool), v17 = .bool x17_2 ∧ Aside0 (impl_ReachOf.j0 kq l0 a1 y448 x17_2 = some r) ∧ Aside0 (kq ≤ k) ∧ Aside0 (Kd.R (Kd.int .i64) 3 wc w.heap.size (fun _ => True) v449 y448) ∧ Aside0 (Below w.heap.size w wc))
 case first =>
  have H := HC3.out
  clear HC3
  replace H := Option.bind_eq_some_iff.mp H
  obtain ⟨t451, A60, H⟩ := H
  replace H : (if t451 = true then ((impl_isCell.f a1).bind fun t452 => (impl_ReachOf.j0 k l0 a1 y448 (!t452))) else (impl_ReachOf.j0 k l0 a1 y448 true)) = some r := H
  have A6 := Aside0.mk A60
  clear A60
  by_cases c7 : t451 = true
  rotate_left
  ·replace c7 := Bool.eq_false_iff.mpr c7
   subst c7
   have H1 : (impl_ReachOf.j0 k l0 a1 y448 true) = some r := by rw [if_neg (show ¬ (false = true) by decide)] at H; exact H
   clear H
   have H := H1
   clear H1
   have H' := Aside0.mk H
   clear H
   go_wp2_with (first | ((with_reducible refine gate_callee (f := 14) rfl ?_); refine goesL_ (some 11) rfl rfl Try.func14 (by kernel_rfl) rfl #[.slice A0 l0.length c0] rfl zT10 ?_; (with_reducible refine (impl_memOk.calls k _ _ l0 false _ ?side1 ?side2 A6.out).mono ?_); (case side1 => exact zC10 (Kd.C_below HR0.out HB.out)); (case side2 => exact HC0.out); rintro e w' ⟨rfl, ⟨nd, rfl⟩⟩; refine ⟨_, rfl, ?_⟩))
   go_meet
   case rel => exact ⟨_, (true), (by first | rfl | (simp; done) | (simp [*]; done)), H', ⟨by first | omega | exact Nat.le_refl _⟩, ⟨zR10 HO450.out⟩, ⟨zB10_0⟩⟩
  subst c7
  have H1 : ((impl_isCell.f a1).bind fun t452 => (impl_ReachOf.j0 k l0 a1 y448 (!t452))) = some r := by rw [if_pos rfl] at H; exact H
  clear H
  have H := H1
  clear H1
  replace H := Option.bind_eq_some_iff.mp H
  obtain ⟨t452, A80, H⟩ := H
  replace H : (impl_ReachOf.j0 k l0 a1 y448 (!t452)) = some r := H
  have A8 := Aside0.mk A80
  clear A80
  have H' := Aside0.mk H
  clear H
  go_wp2_with (first | ((with_reducible refine gate_callee (f := 14) rfl ?_); refine goesL_ (some 11) rfl rfl Try.func14 (by kernel_rfl) rfl #[.slice A0 l0.length c0] rfl zT10 ?_; (with_reducible refine (impl_memOk.calls k _ _ l0 true _ ?side1 ?side2 A6.out).mono ?_); (case side1 => exact zC10 (Kd.C_below HR0.out HB.out)); (case side2 => exact HC0.out); rintro e w' ⟨rfl, ⟨nd, rfl⟩⟩; refine ⟨_, rfl, ?_⟩) | (go_at_call 15; (with_reducible refine (impl_isCell.calls a1 t452 _ A8.out).mono ?_); rintro e w' ⟨rfl, ⟨nd, rfl⟩⟩))
  go_meet
  case rel => exact ⟨_, (!t452), (by first | rfl | (simp; done) | (simp [*]; done)), H', ⟨by first | omega | exact Nat.le_refl _⟩, ⟨zR10 HO450.out⟩, ⟨zB10_0⟩⟩
 case rest =>
  clear HC3
  try clear c1
  try clear p2
  try clear c7
  obtain ⟨kq, x17_2, rfl, HA, HJ2, HO_5, HB⟩ := hcut
  cases kq with
  | zero => exact absurd HA.out (by simp [impl_ReachOf.j0])
  | succ kj2 =>
   have H := HA.out
   clear HA
   simp only [impl_ReachOf.j0] at H
   by_cases c9 : x17_2 = true
   ·subst c9
    have H1 : (some y448) = some r := by rw [if_pos rfl] at H; exact H
    clear H
    have H := H1
    clear H1
    obtain rfl := Option.some.inj H
    go_wp2
    go_ret
    exact ⟨_, zE10, zR10 HO_5.out, zB10_0⟩
   replace c9 := Bool.eq_false_iff.mpr c9
   subst c9
   have H1 : (if y448.length < 17592186044416 then (impl_ReachOf.l0 kj2 l0 (y448 ++ [a1]) 0) else (none)) = some r := by rw [if_neg (show ¬ (false = true) by decide)] at H; exact H
   clear H
   have H := H1
   clear H1
   by_cases c10 : y448.length < 17592186044416
   rotate_left
   ·rw [if_neg c10] at H
    exact absurd H (by simp)
   rw [if_pos c10] at H
   have LMc10 := Aside0.mk c10
   clear c10
   obtain ⟨y453, hy453⟩ : ∃ y_ : List Int, y_ = (y448 ++ [a1]) := ⟨_, rfl⟩
   replace H : (impl_ReachOf.l0 kj2 l0 y453 0) = some r := by first | (rw [hy453]; with_reducible exact H) | (have H2_ := (Option.bind_some _ _).symm.trans H; rw [hy453]; with_reducible exact H2_) | (have H2_ := (Option.bind_some _ _).symm.trans H; with_reducible exact H2_) | with_reducible exact H | (rw [hy453]; exact H) | exact H
   have Ny453 := Aside0.mk hy453
   clear hy453
   have H' := Aside0.mk H
   clear H
   go_wp2_with (first | ((with_reducible refine gate_builtin (b := .append) (xs := #[.tmp 19, .tmp 21]) rfl ?_); at_builtin; refine Kd.R_append (Kd.int .i64) (w0 := w) w.heap.size rfl (.tmp 19) (.tmp 21) 24 3 (.int .i64 0) 8 rfl Try.underlying24 info3 rfl (by decide) (by omega) v449 y448 a1 [.int .i64 a1] (fun _ => True) (fun _ => False) rfl rfl ?aP (fun _ hk => hk.elim) ?aF ?aO ?aB ?aS ?aL ?_; (case aP => exact rfl); (case aB => exact (zB10_0)); (case aF => exact (fun _ _ => trivial)); (case aO => exact (zR10 HO_5.out)); (case aS => exact (below_size (zB10_0))); (case aL => have := LMc10.out; omega); intro v454 w11 ho hb hg hat; rw [← Ny453.out] at ho; have n0_ := Aside0.mk (hb); have n1_ := Aside0.mk (ho); clear HB; clear HO_5; have HB := n0_; have HO455 := n1_; clear n0_ n1_; clear ho hb hg hat))
   go_loopg [5, 6] kj2 (fun kq v5 v6 w' => ∃ (x5_2 : List Int) (x6_2 : Int), v6 = .int .i64 x6_2 ∧ Aside0 (impl_ReachOf.l0 kq l0 x5_2 x6_2 = some r) ∧ Aside0 (kq ≤ kj2) ∧ Aside0 (Kd.R (Kd.int .i64) 3 w' w.heap.size (fun _ => True) v5 x5_2) ∧ Aside0 (Below w.heap.size w w'))
   case atStart => exact ⟨(y453), (0), (by first | rfl | (simp; done) | (simp [*]; done)), H', ⟨Nat.le_refl _⟩, ⟨zR10 HO455.out⟩, ⟨zB10_0⟩⟩
   case round =>
    clear H'
    try clear c1
    try clear p2
    try clear c7
    try clear c9
    try clear c10
    try clear p2
    obtain ⟨x5_2, x6_2, rfl, HA, HK2, HO_5, HB⟩ := hrel
    cases gk with
    | zero => exact absurd HA.out (by simp [impl_ReachOf.l0])
    | succ k2 =>
     have H := HA.out
     clear HA
     simp only [impl_ReachOf.l0] at H
     by_cases c12 : x6_2 < (x5_2.length : Int)
     rotate_left
     ·rw [if_neg c12] at H
      have c12b0 : decide (x6_2 < (x5_2.length : Int)) = false := decide_eq_false c12
      clear c12
      replace H := Option.bind_eq_some_iff.mp H
      obtain ⟨t456, A270, H⟩ := H
      replace H : (some t456) = some r := H
      have A27 := Aside0.mk A270
      clear A270
      obtain rfl := Option.some.inj H
      obtain ⟨Ao28, co28, eo28⟩ := Kd.R_slice HO_5.out
      subst eo28
      go_wp2_with (first | ((with_reducible refine gate_callee (f := 18) rfl ?_); refine goesL_ (some 50) rfl rfl Try.func18 (by kernel_rfl) rfl #[.slice Ao28 x5_2.length co28] rfl zT10 ?_; (with_reducible refine (slices_Sort_int_int.calls (fun k_ => some k_ = (.slice Ao28 x5_2.length co28 : Value).ownBlock) (.slice Ao28 x5_2.length co28) x5_2 t456 w _ ?side1 ?side2 A27.out).mono ?_); (case side1 => exact zB10_0); (case side2 => exact Kd.R_tight rfl HO_5.out); rintro e w29 ⟨rfl, hy0, hb, hkp⟩; refine ⟨_, rfl, ?_⟩; have n0_ := Aside0.mk (Kd.R_reok rfl hy0 (fun k_ e_ => HO_5.out.1 k_ e_)); have n1_ := Aside0.mk (hb); clear HO_5; clear HB; have HO_5 := n0_; have HB := n1_; clear n0_ n1_; (try clear hb); (try clear hkp); (try clear hy0)))
      go_ret
      exact ⟨_, zE10, zR10 HO_5.out, zB10_0⟩
     rw [if_pos c12] at H
     have c12b0 : decide (x6_2 < (x5_2.length : Int)) = true := decide_eq_true c12
     clear c12
     by_cases c13 : 0 ≤ x6_2
     rotate_left
     ·rw [if_neg c13] at H
      exact absurd H (by simp)
     rw [if_pos c13] at H
     have c13b0 : decide (0 ≤ x6_2) = true := decide_eq_true c13
     clear c13
     replace H := Option.bind_eq_some_iff.mp H
     obtain ⟨t458, A140, H⟩ := H
     replace H : (impl_ReachOf.l1 k2 l0 x5_2 x6_2 t458 (t458.length : Int) 0) = some r := H
     have A14 := Aside0.mk A140
     clear A140
     have H' := Aside0.mk H
     clear H
     obtain ⟨Ao15, co15, eo15⟩ := Kd.R_slice HO_5.out
     subst eo15
     have p457 : 0 ≤ (x6_2 : Int) := zA10
     have q457 : x6_2 < (x5_2.length : Int) := zA10
     obtain ⟨ad457, e457, hx457_0⟩ := Kd.at_int (Kd.R_reads' HO_5.out).2.2 x6_2 p457 q457
     cases e457
     replace p457 := eq_true p457
     replace q457 := eq_true q457
     go_wp2_with (first | ((with_reducible refine gate_callee (f := 6) rfl ?_); refine goesL_ (some 34) rfl rfl Try.func6 (by kernel_rfl) rfl #[.slice A0 l0.length c0, .int .i64 (rd x5_2 x6_2)] rfl zT10 ?_; (with_reducible refine (impl_NextOf.calls k2 _ _ l0 (rd x5_2 x6_2) t458 _ ?side1 ?side2 A14.out).mono ?_); (case side1 => exact zC10 (Kd.C_below HR0.out HB.out)); (case side2 => exact HC0.out); rintro e w16 ⟨v459, rfl, ho0, hb⟩; refine ⟨_, rfl, ?_⟩; have n0_ := Aside0.mk (Kd.R_elder' (zR10 HO_5.out) (Kd.R_base ho0) hb); have n1_ := Aside0.mk (Kd.R_lower (Kd.R_new' ho0 (Kd.R_lt (zR10 HO_5.out))) (below_size (zB10_0))); have n2_ := Aside0.mk (below_step (zB10_0) hb); clear HO_5; clear HB; have HO_5 := n0_; have HO460 := n1_; have HB := n2_; clear n0_ n1_ n2_; (try clear hb); (try clear hb2); (try clear hk); (try clear hi); (try clear ho0); obtain ⟨Ao17, co17, eo17⟩ := Kd.R_slice HO460.out; subst eo17))
     go_loopg [5, 36] k2 (fun kq v5 v36 w' => ∃ (x5_3 : List Int) (x36_3 : Int), v36 = .int .i64 x36_3 ∧ Aside0 (impl_ReachOf.l1 kq l0 x5_3 x6_2 t458 (t458.length : Int) x36_3 = some r) ∧ Aside0 (kq ≤ k2) ∧ Aside0 (Kd.R (Kd.int .i64) 3 w' w.heap.size (fun k_ => some k_ ≠ ((.slice Ao17 t458.length co17) : Value).ownBlock) v5 x5_3) ∧ Aside0 (Kd.R (Kd.int .i64) 3 w' w.heap.size (fun k_ => some k_ ≠ (v5 : Value).ownBlock) (.slice Ao17 t458.length co17) t458) ∧ Aside0 (Below w.heap.size w w'))
     case atStart => exact ⟨(x5_2), (0), (by first | rfl | (simp; done) | (simp [*]; done)), H', ⟨Nat.le_refl _⟩, ⟨by (with_reducible repeat (first | apply Kd.R_alloc | apply Kd.R_drewN | apply Kd.R_drew)); exact Kd.R_mono HO_5.out (fun _ hk => hk.2)⟩, ⟨by (with_reducible repeat (first | apply Kd.R_alloc | apply Kd.R_drewN | apply Kd.R_drew)); exact Kd.R_mono HO460.out (fun _ hk => hk.2)⟩, ⟨zB10_0⟩⟩
     case round =>
      clear H'
      try clear c1
      try clear p2
      try clear p4
      try clear q4
      try clear hx4
      try clear c6
      try clear c7
      try clear c9
      try clear c10
      try clear c12
      try clear c12b0
      try clear c13
      try clear c13b0
      try clear c14
      try clear hx457_0
      try clear p2
      try clear p457
      try clear q457
      obtain ⟨x5_3, x36_3, rfl, HA, HK3, HO_5, HO_34, HB⟩ := hrel
      cases gk with
      | zero => exact absurd HA.out (by simp [impl_ReachOf.l1])
      | succ k3 =>
       have H := HA.out
       clear HA
       simp only [impl_ReachOf.l1] at H
       by_cases c18 : x36_3 < (t458.length : Int)
       rotate_left
       ·rw [if_neg c18] at H
        have c18b0 : decide (x36_3 < (t458.length : Int)) = false := decide_eq_false c18
        clear c18
        have H' := Aside0.mk H
        clear H
        go_wp2
        go_roundg k3
        case measure => have := HJ2.out; have := HK2.out; have := HK3.out; omega
        case rel => exact ⟨(x5_3), (wrap64 (x6_2 + 1)), (by first | rfl | (simp; done) | (simp [*]; done)), H', ⟨by have := HJ2.out; have := HK2.out; have := HK3.out; omega⟩, ⟨by (with_reducible repeat (first | apply Kd.R_alloc | apply Kd.R_drewN | apply Kd.R_drew)); exact Kd.R_mono HO_5.out (fun _ hk => trivial)⟩, ⟨zB10_0⟩⟩
       rw [if_pos c18] at H
       have c18b0 : decide (x36_3 < (t458.length : Int)) = true := decide_eq_true c18
       clear c18
       by_cases c19 : 0 ≤ x36_3
       rotate_left
       ·rw [if_neg c19] at H
        exact absurd H (by simp)
       rw [if_pos c19] at H
       have c19b0 : decide (0 ≤ x36_3) = true := decide_eq_true c19
       clear c19
       by_cases c20 : x36_3 < (t458.length : Int)
       rotate_left
       ·rw [if_neg c20] at H
        exact absurd H (by simp)
       rw [if_pos c20] at H
       have c20b0 : decide (x36_3 < (t458.length : Int)) = true := decide_eq_true c20
       clear c20
       replace H := Option.bind_eq_some_iff.mp H
       obtain ⟨t462, A210, H⟩ := H
       replace H : (if t462 = true then (impl_ReachOf.l1 k3 l0 x5_3 x6_2 t458 (t458.length : Int) (wrap64 (x36_3 + 1))) else (if x5_3.length < 17592186044416 then (impl_ReachOf.l1 k3 l0 (x5_3 ++ [rd t458 x36_3]) x6_2 t458 (t458.length : Int) (wrap64 (x36_3 + 1))) else (none))) = some r := H
       have A21 := Aside0.mk A210
       clear A210
       by_cases c22 : t462 = true
       ·subst c22
        have H1 : (impl_ReachOf.l1 k3 l0 x5_3 x6_2 t458 (t458.length : Int) (wrap64 (x36_3 + 1))) = some r := by rw [if_pos rfl] at H; exact H
        clear H
        have H := H1
        clear H1
        have H' := Aside0.mk H
        clear H
        have p461 : 0 ≤ (x36_3 : Int) := zA10
        have q461 : x36_3 < (t458.length : Int) := zA10
        obtain ⟨ad461, e461, hx461_0⟩ := Kd.at_int (Kd.R_reads' HO_34.out).2.2 x36_3 p461 q461
        cases e461
        replace p461 := eq_true p461
        replace q461 := eq_true q461
        obtain ⟨Ao23, co23, eo23⟩ := Kd.R_slice HO_5.out
        subst eo23
        go_wp2_with (first | ((with_reducible refine gate_callee (f := 26) rfl ?_); refine goesL_ (some 42) rfl rfl Try.func26 (by kernel_rfl) rfl #[.slice Ao23 x5_3.length co23, .int .i64 (rd t458 x36_3)] rfl zT10 ?_; (with_reducible refine (slices_Contains_int_int.calls k3 _ _ x5_3 (rd t458 x36_3) true _ ?side1 ?side2 A21.out).mono ?_); (case side1 => exact zC10 (Kd.R_reads' HO_5.out).2.2); (case side2 => exact (Kd.R_reads' HO_5.out).2.1); rintro e w' ⟨rfl, ⟨nd, rfl⟩⟩; refine ⟨_, rfl, ?_⟩))
        go_roundg k3
        case measure => have := HJ2.out; have := HK2.out; have := HK3.out; omega
        case rel => exact ⟨(x5_3), (wrap64 (x36_3 + 1)), (by first | rfl | (simp; done) | (simp [*]; done)), H', ⟨by have := HJ2.out; have := HK2.out; have := HK3.out; omega⟩, ⟨zR10 HO_5.out⟩, ⟨zR10 HO_34.out⟩, ⟨zB10_0⟩⟩
       replace c22 := Bool.eq_false_iff.mpr c22
       subst c22
       have H1 : (if x5_3.length < 17592186044416 then (impl_ReachOf.l1 k3 l0 (x5_3 ++ [rd t458 x36_3]) x6_2 t458 (t458.length : Int) (wrap64 (x36_3 + 1))) else (none)) = some r := by rw [if_neg (show ¬ (false = true) by decide)] at H; exact H
       clear H
       have H := H1
       clear H1
       by_cases c24 : x5_3.length < 17592186044416
       rotate_left
       ·rw [if_neg c24] at H
        exact absurd H (by simp)
       rw [if_pos c24] at H
       have LMc24 := Aside0.mk c24
       clear c24
       obtain ⟨y463, hy463⟩ : ∃ y_ : List Int, y_ = (x5_3 ++ [rd t458 x36_3]) := ⟨_, rfl⟩
       replace H : (impl_ReachOf.l1 k3 l0 y463 x6_2 t458 (t458.length : Int) (wrap64 (x36_3 + 1))) = some r := by first | (rw [hy463]; with_reducible exact H) | (have H2_ := (Option.bind_some _ _).symm.trans H; rw [hy463]; with_reducible exact H2_) | (have H2_ := (Option.bind_some _ _).symm.trans H; with_reducible exact H2_) | with_reducible exact H | (rw [hy463]; exact H) | exact H
       have Ny463 := Aside0.mk hy463
       clear hy463
       have H' := Aside0.mk H
       clear H
       have p461 : 0 ≤ (x36_3 : Int) := zA10
       have q461 : x36_3 < (t458.length : Int) := zA10
       obtain ⟨ad461, e461, hx461_0⟩ := Kd.at_int (Kd.R_reads' HO_34.out).2.2 x36_3 p461 q461
       cases e461
       replace p461 := eq_true p461
       replace q461 := eq_true q461
       obtain ⟨Ao25, co25, eo25⟩ := Kd.R_slice HO_5.out
       subst eo25
       go_wp2_with (first | ((with_reducible refine gate_callee (f := 26) rfl ?_); refine goesL_ (some 42) rfl rfl Try.func26 (by kernel_rfl) rfl #[.slice Ao25 x5_3.length co25, .int .i64 (rd t458 x36_3)] rfl zT10 ?_; (with_reducible refine (slices_Contains_int_int.calls k3 _ _ x5_3 (rd t458 x36_3) false _ ?side1 ?side2 A21.out).mono ?_); (case side1 => exact zC10 (Kd.R_reads' HO_5.out).2.2); (case side2 => exact (Kd.R_reads' HO_5.out).2.1); rintro e w' ⟨rfl, ⟨nd, rfl⟩⟩; refine ⟨_, rfl, ?_⟩) | ((with_reducible refine gate_builtin (b := .append) (xs := #[.tmp 44, .tmp 46]) rfl ?_); at_builtin; refine Kd.R_append (Kd.int .i64) (w0 := w) w.heap.size rfl (.tmp 44) (.tmp 46) 24 3 (.int .i64 0) 8 rfl Try.underlying24 info3 rfl (by decide) (by omega) (.slice Ao25 x5_3.length co25) x5_3 (rd t458 x36_3) [.int .i64 (rd t458 x36_3)] (fun k_ => some k_ ≠ (.slice (some ad461) t458.length co17 : Value).ownBlock) (fun _ => False) rfl rfl ?aP (fun _ hk => hk.elim) ?aF ?aO ?aB ?aS ?aL ?_; (case aP => exact rfl); (case aB => exact (zB10_0)); (case aF => exact (fun k_ hk => Kd.fresh' (Kd.R_lt (zR10 HO_34.out)) k_ hk)); (case aO => exact (zR10 HO_5.out)); (case aS => exact (below_size (zB10_0))); (case aL => have := LMc24.out; omega); intro v464 w26 ho hb hg hat; rw [← Ny463.out] at ho; have n0_ := Aside0.mk (Kd.R_after (ok := (fun _ => True)) (by (with_reducible repeat (first | apply Kd.R_alloc | apply Kd.R_drewN | apply Kd.R_drew)); exact Kd.R_mono HO_34.out (fun _ hk => ⟨trivial, hk⟩)) hg hat); have n1_ := Aside0.mk (hb); have n2_ := Aside0.mk (ho); clear HO_34; clear HB; clear HO_5; have HO_34 := n0_; have HB := n1_; have HO465 := n2_; clear n0_ n1_ n2_; clear ho hb hg hat))
       go_roundg k3
       case measure => have := HJ2.out; have := HK2.out; have := HK3.out; omega
       case rel => exact ⟨(y463), (wrap64 (x36_3 + 1)), (by first | rfl | (simp; done) | (simp [*]; done)), H', ⟨by have := HJ2.out; have := HK2.out; have := HK3.out; omega⟩, ⟨zR10 HO465.out⟩, ⟨by (with_reducible repeat (first | apply Kd.R_alloc | apply Kd.R_drewN | apply Kd.R_drew)); exact Kd.R_mono HO_34.out (fun _ hk => hk.2)⟩, ⟨zB10_0⟩⟩

-- NOT PRINTED: function 25 (impl_WritesFrom_1)

/-! ### impl_WritesFrom: function 9 -/
/-- The first place whose number passes. -/
def findJ (p : Int → Option Bool) : List Int → Nat → Option Int
 | [], _ => some (-1)
 | c :: r, i => (p c).bind fun b => if b = true then some (i : Int) else findJ p r (i + 1)
theorem findJ_drop (p : Int → Option Bool) (l : List Int) (i : Nat) (h : i < l.length) : findJ p (l.drop i) i = (p (rd l (i : Int))).bind fun b => if b = true then some (i : Int) else findJ p (l.drop (i + 1)) (i + 1) := by
 have e : rd l (i : Int) = l[i] := by unfold rd; simp [List.getD, h]
 rw [List.drop_eq_getElem_cons h, findJ, e]
theorem findJ_mono {p q : Int → Option Bool} (h : ∀ c, LeO (p c) (q c)) : ∀ (l : List Int) (i : Nat), LeO (findJ p l i) (findJ q l i)
 | [], _ => LeO.refl _
 | c :: r, i => by
  unfold findJ
  refine LeO.bind (h c) (fun b => ?_)
  refine LeO.ite (LeO.refl _) (findJ_mono h r (i + 1))
set_option maxHeartbeats 4000000 in
set_option maxRecDepth 100000 in
theorem wr_idx (p : Int → Option Bool) (A0 : Option Addr) (c0 : Nat) (l0 : List Int) (q1 : Value) (v : Int) (w : World) (hr0 : Kd.C (Kd.int .i64) w A0 l0.length l0) (hp : ∀ w1 : World, Below w.heap.size w w1 → ∀ (c : Int) (b : Bool), p c = some b → Calls Try.prog 25 #[.int .i64 c, q1] w1 fun e w' => e = .returned (.bool b) ∧ Below w1.heap.size w1 w') (h : findJ p l0 0 = some v) :
  Calls Try.prog 41 #[.slice A0 l0.length c0, .func (.func 25) #[] #[q1]] w fun e w' => e = .returned (.int .i64 v) ∧ Below w.heap.size w w' := by
 have HR0 := Aside0.mk hr0
 have HPP := Aside0.mk hp
 have HV := Aside0.mk h
 have HL := Aside0.mk (show l0.length ≤ 9223372036854775807 from hr0.2.1)
 clear hr0 hp h
 have HB := Aside0.mk (Below.refl w.heap.size w)
 go_enter Try.func41, Try.ntmps41
 go_wp2
 go_loopg [8] l0.length (fun kq v8 w' => ∃ i : Nat, v8 = .int .i64 i ∧ Aside0 (i + kq = l0.length) ∧ Aside0 (findJ p (l0.drop i) i = some v) ∧ Aside0 (Below w.heap.size w w'))
 case atStart => exact ⟨0, rfl, ⟨by omega⟩, ⟨HV.out⟩, ⟨HB.out⟩⟩
 case round =>
  try clear p2
  clear HB
  obtain ⟨i, rfl, HI, HP, HB⟩ := hrel
  by_cases hi : i < l0.length
  rotate_left
  ·have d0 : decide ((i : Int) < (l0.length : Int)) = false := decide_eq_false (by omega)
   have hp := HP.out
   rw [List.drop_of_length_le (by omega)] at hp
   have HP' := Aside0.mk (Option.some.inj (show some (-1 : Int) = some v from hp))
   clear hp HP
   go_wp2_with fail
   go_ret
   exact ⟨by rw [← HP'.out]; rfl, zB10_0⟩
  have HI2 := Aside0.mk hi
  have d0 : decide ((i : Int) < (l0.length : Int)) = true := decide_eq_true (by omega)
  have hp := HP.out
  rw [findJ_drop p l0 i hi] at hp
  obtain ⟨b, hpb, hp⟩ := Option.bind_eq_some_iff.mp hp
  have AP := Aside0.mk hpb
  obtain ⟨ad, e0, hx0⟩ := Kd.at_int HR0.out (i : Int) (by omega) (by omega)
  cases e0
  replace hx0 := (HB.out.cell (World.block_lt_of_cell? w _ hx0)).trans hx0
  simp only [Int.toNat_natCast] at hx0
  have p1 : (0 ≤ (i : Int)) = True := eq_true (by omega)
  have p2' : ((i : Int) < (l0.length : Int)) = True := eq_true (by omega)
  cases b with
  | true =>
   have HP' := Aside0.mk (Option.some.inj hp)
   clear hp HP hpb
   go_wp2_with (first | (go_at_call 25; (refine (HPP.out _ HB.out (rd l0 (i : Int)) true AP.out).mono ?_); rintro e w8 ⟨rfl, hb⟩; have n0_ := Aside0.mk (below_step HB.out hb); clear HB; have HB := n0_; clear n0_; clear hb))
   go_ret
   exact ⟨by rw [← HP'.out]; rfl, zB10_0⟩
  | false =>
   have HP' := Aside0.mk (show findJ p (l0.drop (i + 1)) (i + 1) = some v from hp)
   clear hp HP hpb
   go_wp2_with (first | (go_at_call 25; (refine (HPP.out _ HB.out (rd l0 (i : Int)) false AP.out).mono ?_); rintro e w8 ⟨rfl, hb⟩; have n0_ := Aside0.mk (below_step HB.out hb); clear HB; have HB := n0_; clear n0_; clear hb))
   go_roundg (gk - 1)
   case rel => exact ⟨i + 1, congrArg (Value.int .i64) (by have h1_ := HI2.out; have h2_ := HL.out; show wrap64 ((i : Int) + 1) = ((i + 1 : Nat) : Int); unfold wrap64; omega), ⟨by have := HI.out; have := HI2.out; omega⟩, ⟨HP'.out⟩, ⟨HB.out⟩⟩
   all_goals (have := HI.out; have := HI2.out; omega)
set_option maxHeartbeats 4000000 in
set_option maxRecDepth 100000 in
theorem wr_has (p : Int → Option Bool) (A0 : Option Addr) (c0 : Nat) (l0 : List Int) (q1 : Value) (v : Int) (w : World) (hr0 : Kd.C (Kd.int .i64) w A0 l0.length l0) (hp : ∀ w1 : World, Below w.heap.size w w1 → ∀ (c : Int) (b : Bool), p c = some b → Calls Try.prog 25 #[.int .i64 c, q1] w1 fun e w' => e = .returned (.bool b) ∧ Below w1.heap.size w1 w') (h : findJ p l0 0 = some v) :
  Calls Try.prog 24 #[.slice A0 l0.length c0, .func (.func 25) #[] #[q1]] w fun e w' => e = .returned (.bool (decide (v ≥ 0))) ∧ Below w.heap.size w w' := by
 have HR0 := Aside0.mk hr0
 have HPP := Aside0.mk hp
 have HV := Aside0.mk h
 clear hr0 hp h
 have HB := Aside0.mk (Below.refl w.heap.size w)
 go_enter Try.func24, Try.ntmps24
 go_wp2_with (first
  | (go_at_call 41; (refine (wr_idx p A0 c0 l0 q1 v _ HR0.out HPP.out HV.out).mono ?_); rintro e w8 ⟨rfl, hb⟩; have n0_ := Aside0.mk (below_step HB.out hb); clear HB; have HB := n0_; clear n0_; clear hb))
 go_ret
 exact ⟨rfl, zB10_0⟩
/-- Does the instruction of a cell write. -/
def wrAt (m : List Int) (c : Int) : Option Bool := if 0 ≤ c ∧ c < (m.length : Int) then (impl_Decode.f (rd m c)).bind fun d => some (d.1 == 5 || d.1 == 6) else none
set_option maxHeartbeats 4000000 in
set_option maxRecDepth 100000 in
theorem wrAt_calls (g : Nat) (A0 : Option Addr) (c0 : Nat) (m : List Int) (c : Int) (b : Bool) (w : World) (hc : w.cell? ⟨g, 0, none⟩ = some (.slice A0 m.length c0)) (hr : Kd.C (Kd.int .i64) w A0 m.length m) (h : wrAt m c = some b) :
  Calls Try.prog 25 #[.int .i64 c, .pointer (some ⟨g, 0, none⟩)] w fun e w' => e = .returned (.bool b) ∧ Below w.heap.size w w' := by
 have hu := Try.underlying41
 unfold wrAt at h
 by_cases hi : 0 ≤ c ∧ c < (m.length : Int)
 rotate_left
 ·rw [if_neg hi] at h; cases h
 rw [if_pos hi] at h
 obtain ⟨⟨r1, r2, r3, r4, r5, r6⟩, hd, h⟩ := Option.bind_eq_some_iff.mp h
 have AD := Aside0.mk hd
 have hb_ : (r1 == 5 || r1 == 6) = b := Option.some.inj h
 have HBB := Aside0.mk hb_
 clear hd h hb_
 have HB := Aside0.mk (Below.refl w.heap.size w)
 obtain ⟨ad, e0, hx0⟩ := Kd.at_int hr c hi.1 hi.2
 cases e0
 have p1 : (0 ≤ c) = True := eq_true hi.1
 have p2 : (c < (m.length : Int)) = True := eq_true hi.2
 clear hr hi
 go_enter Try.func25, Try.ntmps25
 by_cases h5 : r1 = 5
 ·subst h5
  obtain rfl : true = b := by rw [← HBB.out]; rfl
  clear HBB
  go_wp2_with (first
   | (go_at_call 16; (refine (impl_Decode.calls (rd m c) 5 r2 r3 r4 r5 r6 _ AD.out).mono ?_); rintro e w8 ⟨rfl, hb⟩; have n0_ := Aside0.mk (below_step HB.out hb); clear HB; have HB := n0_; clear n0_; clear hb)
   | ((with_reducible refine gate_dst (N := 4) rfl ?_); refine box_event ?hg (N := 4) ?hd (cs := #[.int .i64 0, .int .i64 0, .int .i64 0, .int .i64 0, .int .i64 0]) (t := 41) ?hr ?_; (case hd => rfl); (case hg => rfl); (case hr => first | (go_simp; done) | (go_simp; rfl)); intro g1 hg w1 hbox hb; have BK1 := Aside0.mk hbox; have GE1 := Aside0.mk ((by rw [hg]; exact HB.out.size : w.heap.size ≤ g1)); have HB1 := Aside0.mk (below_step HB.out hb); clear hg hb hbox HB; have hz0 : w1.cell? ⟨g1, 0, none⟩ = some (.int .i64 0) := (blk_cell BK1.out 0).trans rfl; have hz1 : w1.cell? ⟨g1, 1, none⟩ = some (.int .i64 0) := (blk_cell BK1.out 1).trans rfl; have hz2 : w1.cell? ⟨g1, 2, none⟩ = some (.int .i64 0) := (blk_cell BK1.out 2).trans rfl; have hz3 : w1.cell? ⟨g1, 3, none⟩ = some (.int .i64 0) := (blk_cell BK1.out 3).trans rfl; have hz4 : w1.cell? ⟨g1, 4, none⟩ = some (.int .i64 0) := (blk_cell BK1.out 4).trans rfl; have hy0 := blk_frozen BK1.out 0; have hy1 := blk_frozen BK1.out 1; have hy2 := blk_frozen BK1.out 2; have hy3 := blk_frozen BK1.out 3; have hy4 := blk_frozen BK1.out 4))
  go_ret
  exact ⟨rfl, zB10_1⟩
 have d5 : (r1 == 5) = false := beq_eq_false_iff_ne.mpr h5
 clear h5
 obtain rfl : (r1 == 6) = b := by rw [← HBB.out, d5]; rfl
 clear HBB
 go_wp2_with (first
  | (go_at_call 16; (refine (impl_Decode.calls (rd m c) r1 r2 r3 r4 r5 r6 _ AD.out).mono ?_); rintro e w8 ⟨rfl, hb⟩; have n0_ := Aside0.mk (below_step HB.out hb); clear HB; have HB := n0_; clear n0_; clear hb)
  | ((with_reducible refine gate_dst (N := 4) rfl ?_); refine box_event ?hg (N := 4) ?hd (cs := #[.int .i64 0, .int .i64 0, .int .i64 0, .int .i64 0, .int .i64 0]) (t := 41) ?hr ?_; (case hd => rfl); (case hg => rfl); (case hr => first | (go_simp; done) | (go_simp; rfl)); intro g1 hg w1 hbox hb; have BK1 := Aside0.mk hbox; have GE1 := Aside0.mk ((by rw [hg]; exact HB.out.size : w.heap.size ≤ g1)); have HB1 := Aside0.mk (below_step HB.out hb); clear hg hb hbox HB; have hz0 : w1.cell? ⟨g1, 0, none⟩ = some (.int .i64 0) := (blk_cell BK1.out 0).trans rfl; have hz1 : w1.cell? ⟨g1, 1, none⟩ = some (.int .i64 0) := (blk_cell BK1.out 1).trans rfl; have hz2 : w1.cell? ⟨g1, 2, none⟩ = some (.int .i64 0) := (blk_cell BK1.out 2).trans rfl; have hz3 : w1.cell? ⟨g1, 3, none⟩ = some (.int .i64 0) := (blk_cell BK1.out 3).trans rfl; have hz4 : w1.cell? ⟨g1, 4, none⟩ = some (.int .i64 0) := (blk_cell BK1.out 4).trans rfl; have hy0 := blk_frozen BK1.out 0; have hy1 := blk_frozen BK1.out 1; have hy2 := blk_frozen BK1.out 2; have hy3 := blk_frozen BK1.out 3; have hy4 := blk_frozen BK1.out 4))
 go_ret
 exact ⟨rfl, zB10_1⟩
def impl_WritesFrom.f (k : Nat) (l0 : List Int) (a1 : Int) : Option Bool := (impl_ReachOf.f k l0 a1).bind fun r => (findJ (wrAt l0) r 0).bind fun v => some (decide (v ≥ 0))
theorem impl_WritesFrom.mono : ∀ a0 a1 k, LeO (impl_WritesFrom.f k a0 a1) (impl_WritesFrom.f (k + 1) a0 a1) := fun a0 a1 k => LeO.bind (impl_ReachOf.mono _ _ _) (fun _ => LeO.refl _)
set_option maxHeartbeats 4000000 in
set_option maxRecDepth 100000 in
theorem impl_WritesFrom.calls (k : Nat) (A0 : Option Addr) (c0 : Nat) (l0 : List Int) (a1 : Int) (r : Bool) (w : World) (hr0 : Kd.C (Kd.int .i64) w A0 l0.length l0) (hc0 : l0.length ≤ c0) (h : impl_WritesFrom.f k l0 a1 = some r) :
  Calls Try.prog 9 #[.slice A0 l0.length c0, .int .i64 a1] w fun e w' => e = .returned (.bool r) ∧ Below w.heap.size w w' := by
 have HR0 := Aside0.mk hr0
 have HC0 := Aside0.mk hc0
 unfold impl_WritesFrom.f at h
 obtain ⟨rs, h1, h⟩ := Option.bind_eq_some_iff.mp h
 obtain ⟨v, h2, h⟩ := Option.bind_eq_some_iff.mp h
 obtain rfl := Option.some.inj h
 have AR := Aside0.mk h1
 have AV := Aside0.mk h2
 clear hr0 hc0 h h1 h2
 have HB := Aside0.mk (Below.refl w.heap.size w)
 go_enter Try.func9, Try.ntmps9
 go_wp2_with (first
  | ((with_reducible refine gate_dst (N := 2) rfl ?_); refine box_event ?hg (N := 2) ?hd (cs := #[.slice A0 l0.length c0]) (t := 24) ?hr ?_; (case hd => rfl); (case hg => rfl); (case hr => first | (go_simp; done) | (go_simp; rfl)); intro g1 hg w1 hbox hb; have BK1 := Aside0.mk ((blk_cell hbox 0).trans rfl : w1.cell? ⟨g1, 0, none⟩ = some (.slice A0 l0.length c0)); have n0_ := Aside0.mk (below_step HB.out hb); clear HB; have HB := n0_; clear n0_; have hcz := BK1.out; clear hg hb hbox)
  | (go_at_call 10; (refine (impl_ReachOf.calls k A0 c0 l0 a1 rs _ (Kd.C_below HR0.out HB.out) HC0.out AR.out).mono ?_); rintro e w8 ⟨v0, rfl, ho, hb⟩; obtain ⟨A1, c1, eo⟩ := Kd.R_slice ho; subst eo; have HO := Aside0.mk (Kd.R_reads' ho).2.2; clear ho; have n1_ := Aside0.mk ((hb.cell (World.block_lt_of_cell? _ _ BK1.out)).trans BK1.out); clear BK1; have BK1 := n1_; clear n1_; have n0_ := Aside0.mk (below_step HB.out hb); clear HB; have HB := n0_; clear n0_; clear hb)
  | (go_at_call 24; (refine (wr_has (wrAt l0) A1 c1 rs _ v _ HO.out (fun w9 hw9 c b hcb => wrAt_calls g1 A0 c0 l0 c b w9 ((hw9.cell (World.block_lt_of_cell? _ _ BK1.out)).trans BK1.out) (Kd.C_below (Kd.C_below HR0.out HB.out) hw9) hcb) AV.out).mono ?_); rintro e w8 ⟨rfl, hb⟩; have n0_ := Aside0.mk (below_step HB.out hb); clear HB; have HB := n0_; clear n0_; clear hb))
 go_ret
 exact ⟨rfl, zB10_0⟩

end Go.Proofs.Ytmfhfnpinmlloaa.PFnGoes
