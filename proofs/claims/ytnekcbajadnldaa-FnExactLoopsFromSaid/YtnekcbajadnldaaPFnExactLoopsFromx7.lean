-- made by wip/tools/myprint.py out of the seat's translation
import Derived.Test.YtnekcbajadnldaaPFnExactLoopsFromx0
import Derived.Test.YtnekcbajadnldaaPFnExactLoopsFromx2
import Derived.Test.YtnekcbajadnldaaPFnExactLoopsFromx4
import Derived.Test.YtnekcbajadnldaaPFnExactLoopsFromx5
import Derived.Test.YtnekcbajadnldaaPFnExactLoopsFromx6
namespace Go.Proofs.Ytnekcbajadnldaa.PFnExactLoopsFrom
open Go.RowKit Go.Proofs.YtnekcbajadnldaaW.PrintWords Go.Proofs.YtnekcbajadnldaaW.PrintLast Go.Proofs.YtnekcbajadnldaaW.PrintMore
attribute [local go_sem] max2_int min2_int max_two min_two max_three min_three max_four min_four   -- for this text's walks alone
set_option linter.unusedVariables false
set_option linter.unusedSimpArgs false
theorem zR7 {p q : Prop} (x : q) (h : q → p := by intro h; (with_reducible repeat (first | apply Kd.R_alloc | apply Kd.R_drewN | apply Kd.R_drew)); exact h) : p := h x
theorem zA7 {p : Prop} [Decidable p] (h : decide p = true := by first | (with_reducible assumption) | assumption) : p := of_decide_eq_true h
theorem zT7 {p : Prop} (h : p := by (try simp only [List.map_toArray, List.map_cons, List.map_nil]); first | done | rfl | (simp only [List.length_drop, List.length_take]; rfl)) : p := h
theorem zC7 {p q : Prop} (x : q) (h : q → p := by intro h; repeat (first | exact h | (with_reducible refine Kd.C_alloc ?_ _) | (with_reducible refine Kd.C_drewN ?_ _) | (with_reducible refine Kd.C_drew ?_))) : p := h x
theorem zE7 {p : Prop} (h : p := by first | rfl | (simp [errW_none, errW_some] <;> rfl) | (simp [*, errW_none, errW_some] <;> rfl)) : p := h
theorem zB7_0 {p : Prop} (h : p := by repeat (first | (with_reducible first | exact HB.out | apply below_alloc | apply pw_below_drewN | apply below_drew1) | exact HB.out)) : p := h

/-! ### impl_ReachOf: function 22 -/
mutual
def impl_ReachOf.j0 : Nat → List Int → Int → List Int → Bool → Option (List Int)
 | 0, _, _, _, _ => none
 | k + 1, x0, x1, x5, x17 => if x17 = true then (some x5) else (if x5.length < 17592186044416 then (impl_ReachOf.l0 k x0 (x5 ++ [x1]) 0) else (none))
def impl_ReachOf.l0 : Nat → List Int → List Int → Int → Option (List Int)
 | 0, _, _, _ => none
 | k + 1, x0, x5, x6 => if x6 < (x5.length : Int) then (if 0 ≤ x6 then ((impl_NextOf.f k x0 (rd x5 x6)).bind fun t266 => (impl_ReachOf.l1 k x0 x5 x6 t266 (t266.length : Int) 0)) else (none)) else ((slices_Sort_int_int.f x5).bind fun t264 => (some t264))
def impl_ReachOf.l1 : Nat → List Int → List Int → Int → List Int → Int → Int → Option (List Int)
 | 0, _, _, _, _, _, _ => none
 | k + 1, x0, x5, x6, x34, x35, x36 => if x36 < x35 then (if 0 ≤ x36 then (if x36 < (x34.length : Int) then ((slices_Contains_int_int.f k x5 (rd x34 x36)).bind fun t270 => (if t270 = true then (impl_ReachOf.l1 k x0 x5 x6 x34 x35 (wrap64 (x36 + 1))) else (if x5.length < 17592186044416 then (impl_ReachOf.l1 k x0 (x5 ++ [rd x34 x36]) x6 x34 x35 (wrap64 (x36 + 1))) else (none)))) else (none)) else (none)) else (impl_ReachOf.l0 k x0 x5 (wrap64 (x6 + 1)))
end
def impl_ReachOf.f (k : Nat) (l0 : List Int) (a1 : Int) : Option (List Int) := (some (([] : List Int) : List Int)).bind fun y256 => ((impl_memOk.f k l0).bind fun t259 => (if t259 = true then ((impl_isCell.f a1).bind fun t260 => (impl_ReachOf.j0 k l0 a1 y256 (!t260))) else (impl_ReachOf.j0 k l0 a1 y256 true)))
theorem impl_ReachOf.mono_l : ∀ k, (∀ y0 y1 y2 y3, LeO (impl_ReachOf.j0 k y0 y1 y2 y3) (impl_ReachOf.j0 (k + 1) y0 y1 y2 y3)) ∧ (∀ y0 y1 y2, LeO (impl_ReachOf.l0 k y0 y1 y2) (impl_ReachOf.l0 (k + 1) y0 y1 y2)) ∧ (∀ y0 y1 y2 y3 y4 y5, LeO (impl_ReachOf.l1 k y0 y1 y2 y3 y4 y5) (impl_ReachOf.l1 (k + 1) y0 y1 y2 y3 y4 y5))
 | 0 => ⟨fun _ _ _ _ r h => by simp [impl_ReachOf.j0] at h, fun _ _ _ r h => by simp [impl_ReachOf.l0] at h, fun _ _ _ _ _ _ r h => by simp [impl_ReachOf.l1] at h⟩
 | k + 1 => by
  obtain ⟨ih0, ih1, ih2⟩ := impl_ReachOf.mono_l k
  refine ⟨?_, ?_, ?_⟩
  ·intro y0 y1 y2 y3
   unfold impl_ReachOf.j0
   repeat' first
   | (with_reducible exact ih0 _ _ _ _)
   | (with_reducible exact ih1 _ _ _)
   | (with_reducible exact ih2 _ _ _ _ _ _)
   | (with_reducible exact impl_NextOf.mono _ _ _)
   | (with_reducible exact impl_memOk.mono _ _)
   | (with_reducible exact slices_Contains_int_int.mono _ _ _)
   | (with_reducible exact LeO.refl _)
   | (with_reducible exact LeO.none _)
   | (with_reducible refine LeO.ite ?_ ?_)
   | (with_reducible refine LeO.bind ?_ (fun _ => ?_))
   | exact ih0 _ _ _ _
   | exact ih1 _ _ _
   | exact ih2 _ _ _ _ _ _
   | exact impl_NextOf.mono _ _ _
   | exact impl_memOk.mono _ _
   | exact slices_Contains_int_int.mono _ _ _
   | exact LeO.none _
   | refine LeO.ite ?_ ?_
   | refine LeO.bind ?_ (fun _ => ?_)
  ·intro y0 y1 y2
   unfold impl_ReachOf.l0
   repeat' first
   | (with_reducible exact ih0 _ _ _ _)
   | (with_reducible exact ih1 _ _ _)
   | (with_reducible exact ih2 _ _ _ _ _ _)
   | (with_reducible exact impl_NextOf.mono _ _ _)
   | (with_reducible exact impl_memOk.mono _ _)
   | (with_reducible exact slices_Contains_int_int.mono _ _ _)
   | (with_reducible exact LeO.refl _)
   | (with_reducible exact LeO.none _)
   | (with_reducible refine LeO.ite ?_ ?_)
   | (with_reducible refine LeO.bind ?_ (fun _ => ?_))
   | exact ih0 _ _ _ _
   | exact ih1 _ _ _
   | exact ih2 _ _ _ _ _ _
   | exact impl_NextOf.mono _ _ _
   | exact impl_memOk.mono _ _
   | exact slices_Contains_int_int.mono _ _ _
   | exact LeO.none _
   | refine LeO.ite ?_ ?_
   | refine LeO.bind ?_ (fun _ => ?_)
  ·intro y0 y1 y2 y3 y4 y5
   unfold impl_ReachOf.l1
   repeat' first
   | (with_reducible exact ih0 _ _ _ _)
   | (with_reducible exact ih1 _ _ _)
   | (with_reducible exact ih2 _ _ _ _ _ _)
   | (with_reducible exact impl_NextOf.mono _ _ _)
   | (with_reducible exact impl_memOk.mono _ _)
   | (with_reducible exact slices_Contains_int_int.mono _ _ _)
   | (with_reducible exact LeO.refl _)
   | (with_reducible exact LeO.none _)
   | (with_reducible refine LeO.ite ?_ ?_)
   | (with_reducible refine LeO.bind ?_ (fun _ => ?_))
   | exact ih0 _ _ _ _
   | exact ih1 _ _ _
   | exact ih2 _ _ _ _ _ _
   | exact impl_NextOf.mono _ _ _
   | exact impl_memOk.mono _ _
   | exact slices_Contains_int_int.mono _ _ _
   | exact LeO.none _
   | refine LeO.ite ?_ ?_
   | refine LeO.bind ?_ (fun _ => ?_)
theorem impl_ReachOf.mono : ∀ a0 a1 k, LeO (impl_ReachOf.f k a0 a1) (impl_ReachOf.f (k + 1) a0 a1) := by
 intro a0 a1 k
 obtain ⟨ih0, ih1, ih2⟩ := impl_ReachOf.mono_l k
 unfold impl_ReachOf.f
 repeat' first
   | (with_reducible exact ih0 _ _ _ _)
   | (with_reducible exact ih1 _ _ _)
   | (with_reducible exact ih2 _ _ _ _ _ _)
   | (with_reducible exact impl_NextOf.mono _ _ _)
   | (with_reducible exact impl_memOk.mono _ _)
   | (with_reducible exact slices_Contains_int_int.mono _ _ _)
   | (with_reducible exact LeO.refl _)
   | (with_reducible exact LeO.none _)
   | (with_reducible refine LeO.ite ?_ ?_)
   | (with_reducible refine LeO.bind ?_ (fun _ => ?_))
   | exact ih0 _ _ _ _
   | exact ih1 _ _ _
   | exact ih2 _ _ _ _ _ _
   | exact impl_NextOf.mono _ _ _
   | exact impl_memOk.mono _ _
   | exact slices_Contains_int_int.mono _ _ _
   | exact LeO.none _
   | refine LeO.ite ?_ ?_
   | refine LeO.bind ?_ (fun _ => ?_)
set_option maxHeartbeats 8000000 in
set_option maxRecDepth 100000 in
theorem impl_ReachOf.calls (k : Nat) (A0 : Option Addr) (c0 : Nat) (l0 : List Int) (a1 : Int) (r : List Int) (w : World) (hr0 : Kd.C (Kd.int .i64) w A0 l0.length l0) (hc0 : l0.length ≤ c0) (h : impl_ReachOf.f k l0 a1 = some r) :
  Calls Try.prog 22 #[.slice A0 l0.length c0, .int .i64 a1] w fun e w' => ∃ v0_ : Value, e = .returned (v0_) ∧ Kd.R (Kd.int .i64) 3 w' w.heap.size (fun _ => True) v0_ r ∧ Below w.heap.size w w' := by
 have HR0 := Aside0.mk hr0
 have HC0 := Aside0.mk hc0
 clear hr0 hc0
 have HB := Aside0.mk (Below.refl w.heap.size w)
 have H : ((some (([] : List Int) : List Int)).bind fun y256 => ((impl_memOk.f k l0).bind fun t259 => (if t259 = true then ((impl_isCell.f a1).bind fun t260 => (impl_ReachOf.j0 k l0 a1 y256 (!t260))) else (impl_ReachOf.j0 k l0 a1 y256 true)))) = some r := h
 clear h
 obtain ⟨y256, hy256⟩ : ∃ y_ : List Int, y_ = (([] : List Int)) := ⟨_, rfl⟩
 replace H : ((impl_memOk.f k l0).bind fun t259 => (if t259 = true then ((impl_isCell.f a1).bind fun t260 => (impl_ReachOf.j0 k l0 a1 y256 (!t260))) else (impl_ReachOf.j0 k l0 a1 y256 true))) = some r := by first | (rw [hy256]; with_reducible exact H) | (have H2_ := (Option.bind_some _ _).symm.trans H; rw [hy256]; with_reducible exact H2_) | (have H2_ := (Option.bind_some _ _).symm.trans H; with_reducible exact H2_) | with_reducible exact H | (rw [hy256]; exact H) | exact H
 have Ny256 := Aside0.mk hy256
 clear hy256
 have HC3 := Aside0.mk H
 clear H
 go_enter Try.func22, Try.ntmps22
 go_upto_region 2 with (first | ((with_reducible refine gate_dst (N := 9) rfl ?_); refine Kd.R_lit (Kd.int .i64) _ 3 ?hg (N := 9) ?hd (xs := ([] : List Int)) (inner := []) (ok := fun _ => True) (okp := fun _ => True) ?hr ?hp (fun _ hk => hk) trivial (Below.refl _ _) (Nat.le_refl _) (by simp) ?_; (case hd => rfl); (case hg => rfl); (case hr => first | (go_simp; done) | (go_simp; rfl)); (case hp => exact (Reps.none _ _)); intro v257 w4 ho5 hb hg_ hnew_; clear hg_ hnew_; (first | rw [← Ny256.out] at ho5 | (simp only [Int.reduceToNat] at ho5; rw [← Ny256.out] at ho5)); have n0_ := Aside0.mk (Kd.R_lower ho5 (below_size (zB7_0))); have n1_ := Aside0.mk (below_step (zB7_0) hb); clear HB; have HO258 := n0_; have HB := n1_; clear n0_ n1_; clear hb ho5))
 (try simp only [Act.put, List.setIfInBounds_toArray, List.set_cons_zero, List.set_cons_succ])
 go_cut [17] (fun v17 wc => ∃ (kq : Nat) (x17_2 : Bool), v17 = .bool x17_2 ∧ Aside0 (impl_ReachOf.j0 kq l0 a1 y256 x17_2 = some r) ∧ Aside0 (kq ≤ k) ∧ Aside0 (Kd.R (Kd.int .i64) 3 wc w.heap.size (fun _ => True) v257 y256) ∧ Aside0 (Below w.heap.size w wc))
 case first =>
  have H := HC3.out
  clear HC3
  replace H := Option.bind_eq_some_iff.mp H
  obtain ⟨t259, A60, H⟩ := H
  replace H : (if t259 = true then ((impl_isCell.f a1).bind fun t260 => (impl_ReachOf.j0 k l0 a1 y256 (!t260))) else (impl_ReachOf.j0 k l0 a1 y256 true)) = some r := H
  have A6 := Aside0.mk A60
  clear A60
  by_cases c7 : t259 = true
  rotate_left
  ·replace c7 := Bool.eq_false_iff.mpr c7
   subst c7
   have H1 : (impl_ReachOf.j0 k l0 a1 y256 true) = some r := by rw [if_neg (show ¬ (false = true) by decide)] at H; exact H
   clear H
   have H := H1
   clear H1
   have H' := Aside0.mk H
   clear H
   go_wp2_with (first | ((with_reducible refine gate_callee (f := 80) rfl ?_); refine goesL_ (some 11) rfl rfl Try.func80 (by kernel_rfl) rfl #[.slice A0 l0.length c0] rfl zT7 ?_; (with_reducible refine (impl_memOk.calls k _ _ l0 false _ ?side1 ?side2 A6.out).mono ?_); (case side1 => exact zC7 (Kd.C_below HR0.out HB.out)); (case side2 => exact HC0.out); rintro e w' ⟨rfl, ⟨nd, rfl⟩⟩; refine ⟨_, rfl, ?_⟩))
   go_meet
   case rel => exact ⟨_, (true), (by first | rfl | (simp; done) | (simp [*]; done)), H', ⟨by first | omega | exact Nat.le_refl _⟩, ⟨zR7 HO258.out⟩, ⟨zB7_0⟩⟩
  subst c7
  have H1 : ((impl_isCell.f a1).bind fun t260 => (impl_ReachOf.j0 k l0 a1 y256 (!t260))) = some r := by rw [if_pos rfl] at H; exact H
  clear H
  have H := H1
  clear H1
  replace H := Option.bind_eq_some_iff.mp H
  obtain ⟨t260, A80, H⟩ := H
  replace H : (impl_ReachOf.j0 k l0 a1 y256 (!t260)) = some r := H
  have A8 := Aside0.mk A80
  clear A80
  have H' := Aside0.mk H
  clear H
  go_wp2_with (first | ((with_reducible refine gate_callee (f := 80) rfl ?_); refine goesL_ (some 11) rfl rfl Try.func80 (by kernel_rfl) rfl #[.slice A0 l0.length c0] rfl zT7 ?_; (with_reducible refine (impl_memOk.calls k _ _ l0 true _ ?side1 ?side2 A6.out).mono ?_); (case side1 => exact zC7 (Kd.C_below HR0.out HB.out)); (case side2 => exact HC0.out); rintro e w' ⟨rfl, ⟨nd, rfl⟩⟩; refine ⟨_, rfl, ?_⟩) | (go_at_call 81; (with_reducible refine (impl_isCell.calls a1 t260 _ A8.out).mono ?_); rintro e w' ⟨rfl, ⟨nd, rfl⟩⟩))
  go_meet
  case rel => exact ⟨_, (!t260), (by first | rfl | (simp; done) | (simp [*]; done)), H', ⟨by first | omega | exact Nat.le_refl _⟩, ⟨zR7 HO258.out⟩, ⟨zB7_0⟩⟩
 case rest =>
  clear HC3
  try clear c2
  try clear p2
  try clear c7
  try clear c8
  obtain ⟨kq, x17_2, rfl, HA, HJ2, HO_5, HB⟩ := hcut
  cases kq with
  | zero => exact absurd HA.out (by simp [impl_ReachOf.j0])
  | succ kj2 =>
   have H := HA.out
   clear HA
   simp only [impl_ReachOf.j0] at H
   by_cases c9 : x17_2 = true
   ·subst c9
    have H1 : (some y256) = some r := by rw [if_pos rfl] at H; exact H
    clear H
    have H := H1
    clear H1
    obtain rfl := Option.some.inj H
    go_wp2
    go_ret
    exact ⟨_, zE7, zR7 HO_5.out, zB7_0⟩
   replace c9 := Bool.eq_false_iff.mpr c9
   subst c9
   have H1 : (if y256.length < 17592186044416 then (impl_ReachOf.l0 kj2 l0 (y256 ++ [a1]) 0) else (none)) = some r := by rw [if_neg (show ¬ (false = true) by decide)] at H; exact H
   clear H
   have H := H1
   clear H1
   by_cases c10 : y256.length < 17592186044416
   rotate_left
   ·rw [if_neg c10] at H
    exact absurd H (by simp)
   rw [if_pos c10] at H
   have LMc10 := Aside0.mk c10
   clear c10
   obtain ⟨y261, hy261⟩ : ∃ y_ : List Int, y_ = (y256 ++ [a1]) := ⟨_, rfl⟩
   replace H : (impl_ReachOf.l0 kj2 l0 y261 0) = some r := by first | (rw [hy261]; with_reducible exact H) | (have H2_ := (Option.bind_some _ _).symm.trans H; rw [hy261]; with_reducible exact H2_) | (have H2_ := (Option.bind_some _ _).symm.trans H; with_reducible exact H2_) | with_reducible exact H | (rw [hy261]; exact H) | exact H
   have Ny261 := Aside0.mk hy261
   clear hy261
   have H' := Aside0.mk H
   clear H
   go_wp2_with (first | ((with_reducible refine gate_builtin (b := .append) (xs := #[.tmp 19, .tmp 21]) rfl ?_); at_builtin; refine Kd.R_append (Kd.int .i64) (w0 := w) w.heap.size rfl (.tmp 19) (.tmp 21) 22 3 (.int .i64 0) 8 rfl Try.underlying22 info3 rfl (by decide) (by omega) v257 y256 a1 [.int .i64 a1] (fun _ => True) (fun _ => False) rfl rfl ?aP (fun _ hk => hk.elim) ?aF ?aO ?aB ?aS ?aL ?_; (case aP => exact rfl); (case aB => exact (zB7_0)); (case aF => exact (fun _ _ => trivial)); (case aO => exact (zR7 HO_5.out)); (case aS => exact (below_size (zB7_0))); (case aL => have := LMc10.out; omega); intro v262 w11 ho hb hg hat; rw [← Ny261.out] at ho; have n0_ := Aside0.mk (hb); have n1_ := Aside0.mk (ho); clear HB; clear HO_5; have HB := n0_; have HO263 := n1_; clear n0_ n1_; clear ho hb hg hat))
   go_loopg [5, 6] kj2 (fun kq v5 v6 w' => ∃ (x5_2 : List Int) (x6_2 : Int), v6 = .int .i64 x6_2 ∧ Aside0 (impl_ReachOf.l0 kq l0 x5_2 x6_2 = some r) ∧ Aside0 (kq ≤ kj2) ∧ Aside0 (Kd.R (Kd.int .i64) 3 w' w.heap.size (fun _ => True) v5 x5_2) ∧ Aside0 (Below w.heap.size w w'))
   case atStart => exact ⟨(y261), (0), (by first | rfl | (simp; done) | (simp [*]; done)), H', ⟨Nat.le_refl _⟩, ⟨zR7 HO263.out⟩, ⟨zB7_0⟩⟩
   case round =>
    clear H'
    try clear c1
    try clear c2
    try clear p2
    try clear c7
    try clear c8
    try clear c9
    try clear c10
    try clear p2
    obtain ⟨x5_2, x6_2, rfl, HA, HK2, HO_5, HB⟩ := hrel
    cases gk with
    | zero => exact absurd HA.out (by simp [impl_ReachOf.l0])
    | succ k2 =>
     have H := HA.out
     clear HA
     simp only [impl_ReachOf.l0] at H
     by_cases c12 : x6_2 < (x5_2.length : Int)
     rotate_left
     ·rw [if_neg c12] at H
      have c12b0 : decide (x6_2 < (x5_2.length : Int)) = false := decide_eq_false c12
      clear c12
      replace H := Option.bind_eq_some_iff.mp H
      obtain ⟨t264, A270, H⟩ := H
      replace H : (some t264) = some r := H
      have A27 := Aside0.mk A270
      clear A270
      obtain rfl := Option.some.inj H
      obtain ⟨Ao28, co28, eo28⟩ := Kd.R_slice HO_5.out
      subst eo28
      go_wp2_with (first | ((with_reducible refine gate_callee (f := 83) rfl ?_); refine goesL_ (some 50) rfl rfl Try.func83 (by kernel_rfl) rfl #[.slice Ao28 x5_2.length co28] rfl zT7 ?_; (with_reducible refine (slices_Sort_int_int.calls (fun k_ => some k_ = (.slice Ao28 x5_2.length co28 : Value).ownBlock) (.slice Ao28 x5_2.length co28) x5_2 t264 w _ ?side1 ?side2 A27.out).mono ?_); (case side1 => repeat (first | (with_reducible first | exact HB.out | apply below_alloc | apply pw_below_drewN | apply below_drew1) | exact HB.out)); (case side2 => exact Kd.R_tight rfl HO_5.out); rintro e w29 ⟨rfl, hy0, hb, hkp⟩; refine ⟨_, rfl, ?_⟩; have n0_ := Aside0.mk (Kd.R_reok rfl hy0 (fun k_ e_ => HO_5.out.1 k_ e_)); have n1_ := Aside0.mk (hb); clear HO_5; clear HB; have HO_5 := n0_; have HB := n1_; clear n0_ n1_; (try clear hb); (try clear hkp); (try clear hy0)))
      go_ret
      exact ⟨_, zE7, zR7 HO_5.out, zB7_0⟩
     rw [if_pos c12] at H
     have c12b0 : decide (x6_2 < (x5_2.length : Int)) = true := decide_eq_true c12
     clear c12
     by_cases c13 : 0 ≤ x6_2
     rotate_left
     ·rw [if_neg c13] at H
      exact absurd H (by simp)
     rw [if_pos c13] at H
     have c13b0 : decide (0 ≤ x6_2) = true := decide_eq_true c13
     clear c13
     replace H := Option.bind_eq_some_iff.mp H
     obtain ⟨t266, A140, H⟩ := H
     replace H : (impl_ReachOf.l1 k2 l0 x5_2 x6_2 t266 (t266.length : Int) 0) = some r := H
     have A14 := Aside0.mk A140
     clear A140
     have H' := Aside0.mk H
     clear H
     obtain ⟨Ao15, co15, eo15⟩ := Kd.R_slice HO_5.out
     subst eo15
     have p265 : 0 ≤ (x6_2 : Int) := zA7
     have q265 : x6_2 < (x5_2.length : Int) := zA7
     obtain ⟨ad265, e265, hx265_0⟩ := Kd.at_int (Kd.R_reads' HO_5.out).2.2 x6_2 p265 q265
     cases e265
     replace p265 := eq_true p265
     replace q265 := eq_true q265
     go_wp2_with (first | ((with_reducible refine gate_callee (f := 17) rfl ?_); refine goesL_ (some 34) rfl rfl Try.func17 (by kernel_rfl) rfl #[.slice A0 l0.length c0, .int .i64 (rd x5_2 x6_2)] rfl zT7 ?_; (with_reducible refine (impl_NextOf.calls k2 _ _ l0 (rd x5_2 x6_2) t266 _ ?side1 ?side2 A14.out).mono ?_); (case side1 => exact zC7 (Kd.C_below HR0.out HB.out)); (case side2 => exact HC0.out); rintro e w16 ⟨v267, rfl, ho0, hb⟩; refine ⟨_, rfl, ?_⟩; have n0_ := Aside0.mk (Kd.R_elder' (zR7 HO_5.out) (Kd.R_base ho0) hb); have n1_ := Aside0.mk (Kd.R_lower (Kd.R_new' ho0 (Kd.R_lt (zR7 HO_5.out))) (below_size (zB7_0))); have n2_ := Aside0.mk (below_step (zB7_0) hb); clear HO_5; clear HB; have HO_5 := n0_; have HO268 := n1_; have HB := n2_; clear n0_ n1_ n2_; (try clear hb); (try clear hb2); (try clear hk); (try clear hi); (try clear ho0); obtain ⟨Ao17, co17, eo17⟩ := Kd.R_slice HO268.out; subst eo17))
     go_loopg [5, 36] k2 (fun kq v5 v36 w' => ∃ (x5_3 : List Int) (x36_3 : Int), v36 = .int .i64 x36_3 ∧ Aside0 (impl_ReachOf.l1 kq l0 x5_3 x6_2 t266 (t266.length : Int) x36_3 = some r) ∧ Aside0 (kq ≤ k2) ∧ Aside0 (Kd.R (Kd.int .i64) 3 w' w.heap.size (fun k_ => some k_ ≠ ((.slice Ao17 t266.length co17) : Value).ownBlock) v5 x5_3) ∧ Aside0 (Kd.R (Kd.int .i64) 3 w' w.heap.size (fun k_ => some k_ ≠ (v5 : Value).ownBlock) (.slice Ao17 t266.length co17) t266) ∧ Aside0 (Below w.heap.size w w'))
     case atStart => exact ⟨(x5_2), (0), (by first | rfl | (simp; done) | (simp [*]; done)), H', ⟨Nat.le_refl _⟩, ⟨by (with_reducible repeat (first | apply Kd.R_alloc | apply Kd.R_drewN | apply Kd.R_drew)); exact Kd.R_mono HO_5.out (fun _ hk => hk.2)⟩, ⟨by (with_reducible repeat (first | apply Kd.R_alloc | apply Kd.R_drewN | apply Kd.R_drew)); exact Kd.R_mono HO268.out (fun _ hk => hk.2)⟩, ⟨zB7_0⟩⟩
     case round =>
      clear H'
      try clear c1
      try clear c2
      try clear p2
      try clear q2
      try clear hx2
      try clear c7
      try clear c8
      try clear c9
      try clear c10
      try clear c12
      try clear c12b0
      try clear c13
      try clear c13b0
      try clear c17
      try clear hx265_0
      try clear p2
      try clear p265
      try clear q265
      obtain ⟨x5_3, x36_3, rfl, HA, HK3, HO_5, HO_34, HB⟩ := hrel
      cases gk with
      | zero => exact absurd HA.out (by simp [impl_ReachOf.l1])
      | succ k3 =>
       have H := HA.out
       clear HA
       simp only [impl_ReachOf.l1] at H
       by_cases c18 : x36_3 < (t266.length : Int)
       rotate_left
       ·rw [if_neg c18] at H
        have c18b0 : decide (x36_3 < (t266.length : Int)) = false := decide_eq_false c18
        clear c18
        have H' := Aside0.mk H
        clear H
        go_wp2
        go_roundg k3
        case measure => have := HJ2.out; have := HK2.out; have := HK3.out; omega
        case rel => exact ⟨(x5_3), (wrap64 (x6_2 + 1)), (by first | rfl | (simp; done) | (simp [*]; done)), H', ⟨by have := HJ2.out; have := HK2.out; have := HK3.out; omega⟩, ⟨by (with_reducible repeat (first | apply Kd.R_alloc | apply Kd.R_drewN | apply Kd.R_drew)); exact Kd.R_mono HO_5.out (fun _ hk => trivial)⟩, ⟨zB7_0⟩⟩
       rw [if_pos c18] at H
       have c18b0 : decide (x36_3 < (t266.length : Int)) = true := decide_eq_true c18
       clear c18
       by_cases c19 : 0 ≤ x36_3
       rotate_left
       ·rw [if_neg c19] at H
        exact absurd H (by simp)
       rw [if_pos c19] at H
       have c19b0 : decide (0 ≤ x36_3) = true := decide_eq_true c19
       clear c19
       by_cases c20 : x36_3 < (t266.length : Int)
       rotate_left
       ·rw [if_neg c20] at H
        exact absurd H (by simp)
       rw [if_pos c20] at H
       have c20b0 : decide (x36_3 < (t266.length : Int)) = true := decide_eq_true c20
       clear c20
       replace H := Option.bind_eq_some_iff.mp H
       obtain ⟨t270, A210, H⟩ := H
       replace H : (if t270 = true then (impl_ReachOf.l1 k3 l0 x5_3 x6_2 t266 (t266.length : Int) (wrap64 (x36_3 + 1))) else (if x5_3.length < 17592186044416 then (impl_ReachOf.l1 k3 l0 (x5_3 ++ [rd t266 x36_3]) x6_2 t266 (t266.length : Int) (wrap64 (x36_3 + 1))) else (none))) = some r := H
       have A21 := Aside0.mk A210
       clear A210
       by_cases c22 : t270 = true
       ·subst c22
        have H1 : (impl_ReachOf.l1 k3 l0 x5_3 x6_2 t266 (t266.length : Int) (wrap64 (x36_3 + 1))) = some r := by rw [if_pos rfl] at H; exact H
        clear H
        have H := H1
        clear H1
        have H' := Aside0.mk H
        clear H
        have p269 : 0 ≤ (x36_3 : Int) := zA7
        have q269 : x36_3 < (t266.length : Int) := zA7
        obtain ⟨ad269, e269, hx269_0⟩ := Kd.at_int (Kd.R_reads' HO_34.out).2.2 x36_3 p269 q269
        cases e269
        replace p269 := eq_true p269
        replace q269 := eq_true q269
        obtain ⟨Ao23, co23, eo23⟩ := Kd.R_slice HO_5.out
        subst eo23
        go_wp2_with (first | ((with_reducible refine gate_callee (f := 86) rfl ?_); refine goesL_ (some 42) rfl rfl Try.func86 (by kernel_rfl) rfl #[.slice Ao23 x5_3.length co23, .int .i64 (rd t266 x36_3)] rfl zT7 ?_; (with_reducible refine (slices_Contains_int_int.calls k3 _ _ x5_3 (rd t266 x36_3) true _ ?side1 ?side2 A21.out).mono ?_); (case side1 => exact zC7 (Kd.R_reads' HO_5.out).2.2); (case side2 => exact (Kd.R_reads' HO_5.out).2.1); rintro e w' ⟨rfl, ⟨nd, rfl⟩⟩; refine ⟨_, rfl, ?_⟩))
        go_roundg k3
        case measure => have := HJ2.out; have := HK2.out; have := HK3.out; omega
        case rel => exact ⟨(x5_3), (wrap64 (x36_3 + 1)), (by first | rfl | (simp; done) | (simp [*]; done)), H', ⟨by have := HJ2.out; have := HK2.out; have := HK3.out; omega⟩, ⟨zR7 HO_5.out⟩, ⟨zR7 HO_34.out⟩, ⟨zB7_0⟩⟩
       replace c22 := Bool.eq_false_iff.mpr c22
       subst c22
       have H1 : (if x5_3.length < 17592186044416 then (impl_ReachOf.l1 k3 l0 (x5_3 ++ [rd t266 x36_3]) x6_2 t266 (t266.length : Int) (wrap64 (x36_3 + 1))) else (none)) = some r := by rw [if_neg (show ¬ (false = true) by decide)] at H; exact H
       clear H
       have H := H1
       clear H1
       by_cases c24 : x5_3.length < 17592186044416
       rotate_left
       ·rw [if_neg c24] at H
        exact absurd H (by simp)
       rw [if_pos c24] at H
       have LMc24 := Aside0.mk c24
       clear c24
       obtain ⟨y271, hy271⟩ : ∃ y_ : List Int, y_ = (x5_3 ++ [rd t266 x36_3]) := ⟨_, rfl⟩
       replace H : (impl_ReachOf.l1 k3 l0 y271 x6_2 t266 (t266.length : Int) (wrap64 (x36_3 + 1))) = some r := by first | (rw [hy271]; with_reducible exact H) | (have H2_ := (Option.bind_some _ _).symm.trans H; rw [hy271]; with_reducible exact H2_) | (have H2_ := (Option.bind_some _ _).symm.trans H; with_reducible exact H2_) | with_reducible exact H | (rw [hy271]; exact H) | exact H
       have Ny271 := Aside0.mk hy271
       clear hy271
       have H' := Aside0.mk H
       clear H
       have p269 : 0 ≤ (x36_3 : Int) := zA7
       have q269 : x36_3 < (t266.length : Int) := zA7
       obtain ⟨ad269, e269, hx269_0⟩ := Kd.at_int (Kd.R_reads' HO_34.out).2.2 x36_3 p269 q269
       cases e269
       replace p269 := eq_true p269
       replace q269 := eq_true q269
       obtain ⟨Ao25, co25, eo25⟩ := Kd.R_slice HO_5.out
       subst eo25
       go_wp2_with (first | ((with_reducible refine gate_callee (f := 86) rfl ?_); refine goesL_ (some 42) rfl rfl Try.func86 (by kernel_rfl) rfl #[.slice Ao25 x5_3.length co25, .int .i64 (rd t266 x36_3)] rfl zT7 ?_; (with_reducible refine (slices_Contains_int_int.calls k3 _ _ x5_3 (rd t266 x36_3) false _ ?side1 ?side2 A21.out).mono ?_); (case side1 => exact zC7 (Kd.R_reads' HO_5.out).2.2); (case side2 => exact (Kd.R_reads' HO_5.out).2.1); rintro e w' ⟨rfl, ⟨nd, rfl⟩⟩; refine ⟨_, rfl, ?_⟩) | ((with_reducible refine gate_builtin (b := .append) (xs := #[.tmp 44, .tmp 46]) rfl ?_); at_builtin; refine Kd.R_append (Kd.int .i64) (w0 := w) w.heap.size rfl (.tmp 44) (.tmp 46) 22 3 (.int .i64 0) 8 rfl Try.underlying22 info3 rfl (by decide) (by omega) (.slice Ao25 x5_3.length co25) x5_3 (rd t266 x36_3) [.int .i64 (rd t266 x36_3)] (fun k_ => some k_ ≠ (.slice (some ad269) t266.length co17 : Value).ownBlock) (fun _ => False) rfl rfl ?aP (fun _ hk => hk.elim) ?aF ?aO ?aB ?aS ?aL ?_; (case aP => exact rfl); (case aB => exact (zB7_0)); (case aF => exact (fun k_ hk => Kd.fresh' (Kd.R_lt (zR7 HO_34.out)) k_ hk)); (case aO => exact (zR7 HO_5.out)); (case aS => exact (below_size (zB7_0))); (case aL => have := LMc24.out; omega); intro v272 w26 ho hb hg hat; rw [← Ny271.out] at ho; have n0_ := Aside0.mk (Kd.R_after (ok := (fun _ => True)) (by (with_reducible repeat (first | apply Kd.R_alloc | apply Kd.R_drewN | apply Kd.R_drew)); exact Kd.R_mono HO_34.out (fun _ hk => ⟨trivial, hk⟩)) hg hat); have n1_ := Aside0.mk (hb); have n2_ := Aside0.mk (ho); clear HO_34; clear HB; clear HO_5; have HO_34 := n0_; have HB := n1_; have HO273 := n2_; clear n0_ n1_ n2_; clear ho hb hg hat))
       go_roundg k3
       case measure => have := HJ2.out; have := HK2.out; have := HK3.out; omega
       case rel => exact ⟨(y271), (wrap64 (x36_3 + 1)), (by first | rfl | (simp; done) | (simp [*]; done)), H', ⟨by have := HJ2.out; have := HK2.out; have := HK3.out; omega⟩, ⟨zR7 HO273.out⟩, ⟨by (with_reducible repeat (first | apply Kd.R_alloc | apply Kd.R_drewN | apply Kd.R_drew)); exact Kd.R_mono HO_34.out (fun _ hk => hk.2)⟩, ⟨zB7_0⟩⟩

/-! ### impl_LeadsTo: function 24 -/
def impl_LeadsTo.f (k : Nat) (l0 : List Int) (a1 : Int) (a2 : Int) : Option (Bool) := (impl_ReachOf.f k l0 a1).bind fun t274 => ((slices_Contains_int_int.f k t274 a2).bind fun t277 => (some t277))
theorem impl_LeadsTo.mono : ∀ a0 a1 a2 k, LeO (impl_LeadsTo.f k a0 a1 a2) (impl_LeadsTo.f (k + 1) a0 a1 a2) := by
 intro a0 a1 a2 k
 unfold impl_LeadsTo.f
 repeat' first
   | (with_reducible exact impl_ReachOf.mono _ _ _)
   | (with_reducible exact slices_Contains_int_int.mono _ _ _)
   | (with_reducible exact LeO.refl _)
   | (with_reducible exact LeO.none _)
   | (with_reducible refine LeO.ite ?_ ?_)
   | (with_reducible refine LeO.bind ?_ (fun _ => ?_))
   | exact impl_ReachOf.mono _ _ _
   | exact slices_Contains_int_int.mono _ _ _
   | exact LeO.none _
   | refine LeO.ite ?_ ?_
   | refine LeO.bind ?_ (fun _ => ?_)
set_option maxHeartbeats 8000000 in
set_option maxRecDepth 100000 in
theorem impl_LeadsTo.calls (k : Nat) (A0 : Option Addr) (c0 : Nat) (l0 : List Int) (a1 : Int) (a2 : Int) (r : Bool) (w : World) (hr0 : Kd.C (Kd.int .i64) w A0 l0.length l0) (hc0 : l0.length ≤ c0) (h : impl_LeadsTo.f k l0 a1 a2 = some r) :
  Calls Try.prog 24 #[.slice A0 l0.length c0, .int .i64 a1, .int .i64 a2] w fun e w' => e = .returned (.bool r) ∧ Below w.heap.size w w' := by
 have HR0 := Aside0.mk hr0
 have HC0 := Aside0.mk hc0
 clear hr0 hc0
 have HB := Aside0.mk (Below.refl w.heap.size w)
 have H : ((impl_ReachOf.f k l0 a1).bind fun t274 => ((slices_Contains_int_int.f k t274 a2).bind fun t277 => (some t277))) = some r := h
 clear h
 replace H := Option.bind_eq_some_iff.mp H
 obtain ⟨t274, A40, H⟩ := H
 replace H : ((slices_Contains_int_int.f k t274 a2).bind fun t277 => (some t277)) = some r := H
 have A4 := Aside0.mk A40
 clear A40
 replace H := Option.bind_eq_some_iff.mp H
 obtain ⟨t277, A50, H⟩ := H
 replace H : (some t277) = some r := H
 have A5 := Aside0.mk A50
 clear A50
 obtain rfl := Option.some.inj H
 go_enter Try.func24, Try.ntmps24
 go_wp2_with (first | ((with_reducible refine gate_callee (f := 22) rfl ?_); refine goesL_ (some 9) rfl rfl Try.func22 (by kernel_rfl) rfl #[.slice A0 l0.length c0, .int .i64 a1] rfl zT7 ?_; (with_reducible refine (impl_ReachOf.calls k _ _ l0 a1 t274 _ ?side1 ?side2 A4.out).mono ?_); (case side1 => exact zC7 HR0.out); (case side2 => exact HC0.out); rintro e w6 ⟨v275, rfl, ho0, hb⟩; refine ⟨_, rfl, ?_⟩; have n0_ := Aside0.mk (Kd.R_lower ho0 (below_size (zB7_0))); have n1_ := Aside0.mk (below_step (zB7_0) hb); clear HB; have HO276 := n0_; have HB := n1_; clear n0_ n1_; (try clear hb); (try clear hb2); (try clear hk); (try clear hi); (try clear ho0); obtain ⟨Ao7, co7, eo7⟩ := Kd.R_slice HO276.out; subst eo7) | ((with_reducible refine gate_callee (f := 86) rfl ?_); refine goesL_ (some 11) rfl rfl Try.func86 (by kernel_rfl) rfl #[.slice Ao7 t274.length co7, .int .i64 a2] rfl zT7 ?_; (with_reducible refine (slices_Contains_int_int.calls k _ _ t274 a2 t277 _ ?side1 ?side2 A5.out).mono ?_); (case side1 => exact zC7 (Kd.R_reads' HO276.out).2.2); (case side2 => exact (Kd.R_reads' HO276.out).2.1); rintro e w' ⟨rfl, ⟨nd, rfl⟩⟩; refine ⟨_, rfl, ?_⟩))
 go_ret
 exact ⟨zE7, zB7_0⟩

-- NOT PRINTED: function 94 (impl_LoopsFrom_1_1)

-- NOT PRINTED: function 93 (impl_LoopsFrom_1)

/-! ### impl_LoopsFrom: function 31 -/
/-- The first place whose number passes. -/
def findI (p : Int → Option Bool) : List Int → Nat → Option Int
 | [], _ => some (-1)
 | c :: r, i => (p c).bind fun b => if b = true then some (i : Int) else findI p r (i + 1)
theorem findI_drop (p : Int → Option Bool) (l : List Int) (i : Nat) (h : i < l.length) : findI p (l.drop i) i = (p (rd l (i : Int))).bind fun b => if b = true then some (i : Int) else findI p (l.drop (i + 1)) (i + 1) := by
 have e : rd l (i : Int) = l[i] := by unfold rd; simp [List.getD, h]
 rw [List.drop_eq_getElem_cons h, findI, e]
theorem findI_mono {p q : Int → Option Bool} (h : ∀ c, LeO (p c) (q c)) : ∀ (l : List Int) (i : Nat), LeO (findI p l i) (findI q l i)
 | [], _ => LeO.refl _
 | c :: r, i => by
  unfold findI
  refine LeO.bind (h c) (fun b => ?_)
  refine LeO.ite (LeO.refl _) (findI_mono h r (i + 1))
set_option maxHeartbeats 4000000 in
set_option maxRecDepth 100000 in
theorem ld_idx (p : Int → Option Bool) (A0 : Option Addr) (c0 : Nat) (l0 : List Int) (q1 q2 : Value) (v : Int) (w : World) (hr0 : Kd.C (Kd.int .i64) w A0 l0.length l0) (hp : ∀ w1 : World, Below w.heap.size w w1 → ∀ (c : Int) (b : Bool), p c = some b → Calls Try.prog 94 #[.int .i64 c, q1, q2] w1 fun e w' => e = .returned (.bool b) ∧ Below w1.heap.size w1 w') (h : findI p l0 0 = some v) :
  Calls Try.prog 155 #[.slice A0 l0.length c0, .func (.func 94) #[] #[q1, q2]] w fun e w' => e = .returned (.int .i64 v) ∧ Below w.heap.size w w' := by
 have HR0 := Aside0.mk hr0
 have HPP := Aside0.mk hp
 have HV := Aside0.mk h
 have HL := Aside0.mk (show l0.length ≤ 9223372036854775807 from hr0.2.1)
 clear hr0 hp h
 have HB := Aside0.mk (Below.refl w.heap.size w)
 go_enter Try.func155, Try.ntmps155
 go_wp2
 go_loopg [8] l0.length (fun kq v8 w' => ∃ i : Nat, v8 = .int .i64 i ∧ Aside0 (i + kq = l0.length) ∧ Aside0 (findI p (l0.drop i) i = some v) ∧ Aside0 (Below w.heap.size w w'))
 case atStart => exact ⟨0, rfl, ⟨by omega⟩, ⟨HV.out⟩, ⟨HB.out⟩⟩
 case round =>
  try clear p2
  clear HB
  obtain ⟨i, rfl, HI, HP, HB⟩ := hrel
  by_cases hi : i < l0.length
  rotate_left
  ·have d0 : decide ((i : Int) < (l0.length : Int)) = false := decide_eq_false (by omega)
   have hp := HP.out
   rw [List.drop_of_length_le (by omega)] at hp
   have HP' := Aside0.mk (Option.some.inj (show some (-1 : Int) = some v from hp))
   clear hp HP
   go_wp2_with fail
   go_ret
   exact ⟨by rw [← HP'.out]; rfl, zB7_0⟩
  have HI2 := Aside0.mk hi
  have d0 : decide ((i : Int) < (l0.length : Int)) = true := decide_eq_true (by omega)
  have hp := HP.out
  rw [findI_drop p l0 i hi] at hp
  obtain ⟨b, hpb, hp⟩ := Option.bind_eq_some_iff.mp hp
  have AP := Aside0.mk hpb
  obtain ⟨ad, e0, hx0⟩ := Kd.at_int HR0.out (i : Int) (by omega) (by omega)
  cases e0
  replace hx0 := (HB.out.cell (World.block_lt_of_cell? w _ hx0)).trans hx0
  simp only [Int.toNat_natCast] at hx0
  have p1 : (0 ≤ (i : Int)) = True := eq_true (by omega)
  have p2' : ((i : Int) < (l0.length : Int)) = True := eq_true (by omega)
  cases b with
  | true =>
   have HP' := Aside0.mk (Option.some.inj hp)
   clear hp HP hpb
   go_wp2_with (first | (go_at_call 94; (refine (HPP.out _ HB.out (rd l0 (i : Int)) true AP.out).mono ?_); rintro e w8 ⟨rfl, hb⟩; have n0_ := Aside0.mk (below_step HB.out hb); clear HB; have HB := n0_; clear n0_; clear hb))
   go_ret
   exact ⟨by rw [← HP'.out]; rfl, zB7_0⟩
  | false =>
   have HP' := Aside0.mk (show findI p (l0.drop (i + 1)) (i + 1) = some v from hp)
   clear hp HP hpb
   go_wp2_with (first | (go_at_call 94; (refine (HPP.out _ HB.out (rd l0 (i : Int)) false AP.out).mono ?_); rintro e w8 ⟨rfl, hb⟩; have n0_ := Aside0.mk (below_step HB.out hb); clear HB; have HB := n0_; clear n0_; clear hb))
   go_roundg (gk - 1)
   case rel => exact ⟨i + 1, congrArg (Value.int .i64) (by have h1_ := HI2.out; have h2_ := HL.out; show wrap64 ((i : Int) + 1) = ((i + 1 : Nat) : Int); unfold wrap64; omega), ⟨by have := HI.out; have := HI2.out; omega⟩, ⟨HP'.out⟩, ⟨HB.out⟩⟩
   all_goals (have := HI.out; have := HI2.out; omega)
set_option maxHeartbeats 4000000 in
set_option maxRecDepth 100000 in
theorem ld_has (p : Int → Option Bool) (A0 : Option Addr) (c0 : Nat) (l0 : List Int) (q1 q2 : Value) (v : Int) (w : World) (hr0 : Kd.C (Kd.int .i64) w A0 l0.length l0) (hp : ∀ w1 : World, Below w.heap.size w w1 → ∀ (c : Int) (b : Bool), p c = some b → Calls Try.prog 94 #[.int .i64 c, q1, q2] w1 fun e w' => e = .returned (.bool b) ∧ Below w1.heap.size w1 w') (h : findI p l0 0 = some v) :
  Calls Try.prog 92 #[.slice A0 l0.length c0, .func (.func 94) #[] #[q1, q2]] w fun e w' => e = .returned (.bool (decide (v ≥ 0))) ∧ Below w.heap.size w w' := by
 have HR0 := Aside0.mk hr0
 have HPP := Aside0.mk hp
 have HV := Aside0.mk h
 clear hr0 hp h
 have HB := Aside0.mk (Below.refl w.heap.size w)
 go_enter Try.func92, Try.ntmps92
 go_wp2_with (first
  | (go_at_call 155; (refine (ld_idx p A0 c0 l0 q1 q2 v _ HR0.out HPP.out HV.out).mono ?_); rintro e w8 ⟨rfl, hb⟩; have n0_ := Aside0.mk (below_step HB.out hb); clear HB; have HB := n0_; clear n0_; clear hb))
 go_ret
 exact ⟨rfl, zB7_0⟩
set_option maxHeartbeats 4000000 in
set_option maxRecDepth 100000 in
theorem lo_idx (p : Int → Option Bool) (A0 : Option Addr) (c0 : Nat) (l0 : List Int) (q1 : Value) (v : Int) (w : World) (hr0 : Kd.C (Kd.int .i64) w A0 l0.length l0) (hp : ∀ w1 : World, Below w.heap.size w w1 → ∀ (c : Int) (b : Bool), p c = some b → Calls Try.prog 93 #[.int .i64 c, q1] w1 fun e w' => e = .returned (.bool b) ∧ Below w1.heap.size w1 w') (h : findI p l0 0 = some v) :
  Calls Try.prog 155 #[.slice A0 l0.length c0, .func (.func 93) #[] #[q1]] w fun e w' => e = .returned (.int .i64 v) ∧ Below w.heap.size w w' := by
 have HR0 := Aside0.mk hr0
 have HPP := Aside0.mk hp
 have HV := Aside0.mk h
 have HL := Aside0.mk (show l0.length ≤ 9223372036854775807 from hr0.2.1)
 clear hr0 hp h
 have HB := Aside0.mk (Below.refl w.heap.size w)
 go_enter Try.func155, Try.ntmps155
 go_wp2
 go_loopg [8] l0.length (fun kq v8 w' => ∃ i : Nat, v8 = .int .i64 i ∧ Aside0 (i + kq = l0.length) ∧ Aside0 (findI p (l0.drop i) i = some v) ∧ Aside0 (Below w.heap.size w w'))
 case atStart => exact ⟨0, rfl, ⟨by omega⟩, ⟨HV.out⟩, ⟨HB.out⟩⟩
 case round =>
  try clear p2
  clear HB
  obtain ⟨i, rfl, HI, HP, HB⟩ := hrel
  by_cases hi : i < l0.length
  rotate_left
  ·have d0 : decide ((i : Int) < (l0.length : Int)) = false := decide_eq_false (by omega)
   have hp := HP.out
   rw [List.drop_of_length_le (by omega)] at hp
   have HP' := Aside0.mk (Option.some.inj (show some (-1 : Int) = some v from hp))
   clear hp HP
   go_wp2_with fail
   go_ret
   exact ⟨by rw [← HP'.out]; rfl, zB7_0⟩
  have HI2 := Aside0.mk hi
  have d0 : decide ((i : Int) < (l0.length : Int)) = true := decide_eq_true (by omega)
  have hp := HP.out
  rw [findI_drop p l0 i hi] at hp
  obtain ⟨b, hpb, hp⟩ := Option.bind_eq_some_iff.mp hp
  have AP := Aside0.mk hpb
  obtain ⟨ad, e0, hx0⟩ := Kd.at_int HR0.out (i : Int) (by omega) (by omega)
  cases e0
  replace hx0 := (HB.out.cell (World.block_lt_of_cell? w _ hx0)).trans hx0
  simp only [Int.toNat_natCast] at hx0
  have p1 : (0 ≤ (i : Int)) = True := eq_true (by omega)
  have p2' : ((i : Int) < (l0.length : Int)) = True := eq_true (by omega)
  cases b with
  | true =>
   have HP' := Aside0.mk (Option.some.inj hp)
   clear hp HP hpb
   go_wp2_with (first | (go_at_call 93; (refine (HPP.out _ HB.out (rd l0 (i : Int)) true AP.out).mono ?_); rintro e w8 ⟨rfl, hb⟩; have n0_ := Aside0.mk (below_step HB.out hb); clear HB; have HB := n0_; clear n0_; clear hb))
   go_ret
   exact ⟨by rw [← HP'.out]; rfl, zB7_0⟩
  | false =>
   have HP' := Aside0.mk (show findI p (l0.drop (i + 1)) (i + 1) = some v from hp)
   clear hp HP hpb
   go_wp2_with (first | (go_at_call 93; (refine (HPP.out _ HB.out (rd l0 (i : Int)) false AP.out).mono ?_); rintro e w8 ⟨rfl, hb⟩; have n0_ := Aside0.mk (below_step HB.out hb); clear HB; have HB := n0_; clear n0_; clear hb))
   go_roundg (gk - 1)
   case rel => exact ⟨i + 1, congrArg (Value.int .i64) (by have h1_ := HI2.out; have h2_ := HL.out; show wrap64 ((i : Int) + 1) = ((i + 1 : Nat) : Int); unfold wrap64; omega), ⟨by have := HI.out; have := HI2.out; omega⟩, ⟨HP'.out⟩, ⟨HB.out⟩⟩
   all_goals (have := HI.out; have := HI2.out; omega)
set_option maxHeartbeats 4000000 in
set_option maxRecDepth 100000 in
theorem lo_has (p : Int → Option Bool) (A0 : Option Addr) (c0 : Nat) (l0 : List Int) (q1 : Value) (v : Int) (w : World) (hr0 : Kd.C (Kd.int .i64) w A0 l0.length l0) (hp : ∀ w1 : World, Below w.heap.size w w1 → ∀ (c : Int) (b : Bool), p c = some b → Calls Try.prog 93 #[.int .i64 c, q1] w1 fun e w' => e = .returned (.bool b) ∧ Below w1.heap.size w1 w') (h : findI p l0 0 = some v) :
  Calls Try.prog 92 #[.slice A0 l0.length c0, .func (.func 93) #[] #[q1]] w fun e w' => e = .returned (.bool (decide (v ≥ 0))) ∧ Below w.heap.size w w' := by
 have HR0 := Aside0.mk hr0
 have HPP := Aside0.mk hp
 have HV := Aside0.mk h
 clear hr0 hp h
 have HB := Aside0.mk (Below.refl w.heap.size w)
 go_enter Try.func92, Try.ntmps92
 go_wp2_with (first
  | (go_at_call 155; (refine (lo_idx p A0 c0 l0 q1 v _ HR0.out HPP.out HV.out).mono ?_); rintro e w8 ⟨rfl, hb⟩; have n0_ := Aside0.mk (below_step HB.out hb); clear HB; have HB := n0_; clear n0_; clear hb))
 go_ret
 exact ⟨rfl, zB7_0⟩
set_option maxHeartbeats 4000000 in
set_option maxRecDepth 100000 in
theorem ldAt_calls (k : Nat) (g1 g2 : Nat) (A0 : Option Addr) (c0 : Nat) (m : List Int) (c n : Int) (b : Bool) (w : World) (hc1 : w.cell? ⟨g1, 0, none⟩ = some (.slice A0 m.length c0)) (hc2 : w.cell? ⟨g2, 0, none⟩ = some (.int .i64 c)) (hr : Kd.C (Kd.int .i64) w A0 m.length m) (hm : m.length ≤ c0) (h : impl_LeadsTo.f k m n c = some b) :
  Calls Try.prog 94 #[.int .i64 n, .pointer (some ⟨g1, 0, none⟩), .pointer (some ⟨g2, 0, none⟩)] w fun e w' => e = .returned (.bool b) ∧ Below w.heap.size w w' := by
 have HR := Aside0.mk hr
 have HM := Aside0.mk hm
 have AH := Aside0.mk h
 clear hr hm h
 have HB := Aside0.mk (Below.refl w.heap.size w)
 go_enter Try.func94, Try.ntmps94
 go_wp2_with (first
  | (go_at_call 24; (refine (impl_LeadsTo.calls k A0 c0 m n c b _ (Kd.C_below HR.out HB.out) HM.out AH.out).mono ?_); rintro e w8 ⟨rfl, hb⟩; have n0_ := Aside0.mk (below_step HB.out hb); clear HB; have HB := n0_; clear n0_; clear hb))
 go_ret
 exact ⟨rfl, zB7_0⟩
/-- Does a cell lead to itself. -/
def loAt (k : Nat) (m : List Int) (c : Int) : Option Bool := (impl_NextOf.f k m c).bind fun t => (findI (fun n => impl_LeadsTo.f k m n c) t 0).bind fun v => some (decide (v ≥ 0))
theorem loAt_mono (k : Nat) (m : List Int) (c : Int) : LeO (loAt k m c) (loAt (k + 1) m c) := LeO.bind (impl_NextOf.mono _ _ _) (fun _ => LeO.bind (findI_mono (fun n => impl_LeadsTo.mono _ _ _ _) _ _) (fun _ => LeO.refl _))
set_option maxHeartbeats 4000000 in
set_option maxRecDepth 100000 in
theorem loAt_calls (k : Nat) (g : Nat) (A0 : Option Addr) (c0 : Nat) (m : List Int) (c : Int) (b : Bool) (w : World) (hc : w.cell? ⟨g, 0, none⟩ = some (.slice A0 m.length c0)) (hr : Kd.C (Kd.int .i64) w A0 m.length m) (hm : m.length ≤ c0) (h : loAt k m c = some b) :
  Calls Try.prog 93 #[.int .i64 c, .pointer (some ⟨g, 0, none⟩)] w fun e w' => e = .returned (.bool b) ∧ Below w.heap.size w w' := by
 have HR := Aside0.mk hr
 have HM := Aside0.mk hm
 have HC := Aside0.mk hc
 unfold loAt at h
 obtain ⟨ts, h1, h⟩ := Option.bind_eq_some_iff.mp h
 obtain ⟨v, h2, h⟩ := Option.bind_eq_some_iff.mp h
 obtain rfl := Option.some.inj h
 have AR := Aside0.mk h1
 have AV := Aside0.mk h2
 clear hr hm hc h h1 h2
 have HB := Aside0.mk (Below.refl w.heap.size w)
 go_enter Try.func93, Try.ntmps93
 go_wp2_with (first
  | ((with_reducible refine gate_dst (N := 2) rfl ?_); refine box_event ?hg (N := 2) ?hd (cs := #[.int .i64 c]) (t := 3) ?hr ?_; (case hd => rfl); (case hg => rfl); (case hr => first | (go_simp; done) | (go_simp; rfl)); intro g1 hg w1 hbox hb; have BK1 := Aside0.mk ((blk_cell hbox 0).trans rfl : w1.cell? ⟨g1, 0, none⟩ = some (.int .i64 c)); have n0_ := Aside0.mk (below_step HB.out hb); clear HB; have HB := n0_; clear n0_; have hcz := BK1.out; have HC1 := Aside0.mk ((hb.cell (World.block_lt_of_cell? _ _ HC.out)).trans HC.out : w1.cell? ⟨g, 0, none⟩ = some (.slice A0 m.length c0)); have hcn := HC1.out; clear hg hb hbox)
  | (go_at_call 17; (refine (impl_NextOf.calls k A0 c0 m c ts _ (Kd.C_below HR.out HB.out) HM.out AR.out).mono ?_); rintro e w8 ⟨v0, rfl, ho, hb⟩; obtain ⟨A1, c1, eo⟩ := Kd.R_slice ho; subst eo; have HO := Aside0.mk (Kd.R_reads' ho).2.2; clear ho; have n1_ := Aside0.mk ((hb.cell (World.block_lt_of_cell? _ _ BK1.out)).trans BK1.out); clear BK1; have BK1 := n1_; clear n1_; have n1_ := Aside0.mk ((hb.cell (World.block_lt_of_cell? _ _ HC1.out)).trans HC1.out); clear HC1; have HC1 := n1_; clear n1_; have n0_ := Aside0.mk (below_step HB.out hb); clear HB; have HB := n0_; clear n0_; clear hb)
  | (go_at_call 92; (refine (ld_has (fun n => impl_LeadsTo.f k m n c) A1 c1 ts _ _ v _ HO.out (fun w9 hw9 n b hnb => ldAt_calls k g g1 A0 c0 m c n b w9 ((hw9.cell (World.block_lt_of_cell? _ _ HC1.out)).trans HC1.out) ((hw9.cell (World.block_lt_of_cell? _ _ BK1.out)).trans BK1.out) (Kd.C_below (Kd.C_below HR.out HB.out) hw9) HM.out hnb) AV.out).mono ?_); rintro e w8 ⟨rfl, hb⟩; have n0_ := Aside0.mk (below_step HB.out hb); clear HB; have HB := n0_; clear n0_; clear hb))
 go_ret
 exact ⟨rfl, zB7_0⟩
def impl_LoopsFrom.f (k : Nat) (l0 : List Int) (a1 : Int) : Option Bool := (impl_ReachOf.f k l0 a1).bind fun r => (findI (loAt k l0) r 0).bind fun v => some (decide (v ≥ 0))
theorem impl_LoopsFrom.mono : ∀ a0 a1 k, LeO (impl_LoopsFrom.f k a0 a1) (impl_LoopsFrom.f (k + 1) a0 a1) := fun a0 a1 k => LeO.bind (impl_ReachOf.mono _ _ _) (fun _ => LeO.bind (findI_mono (loAt_mono k a0) _ _) (fun _ => LeO.refl _))
set_option maxHeartbeats 4000000 in
set_option maxRecDepth 100000 in
theorem impl_LoopsFrom.calls (k : Nat) (A0 : Option Addr) (c0 : Nat) (l0 : List Int) (a1 : Int) (r : Bool) (w : World) (hr0 : Kd.C (Kd.int .i64) w A0 l0.length l0) (hc0 : l0.length ≤ c0) (h : impl_LoopsFrom.f k l0 a1 = some r) :
  Calls Try.prog 31 #[.slice A0 l0.length c0, .int .i64 a1] w fun e w' => e = .returned (.bool r) ∧ Below w.heap.size w w' := by
 have HR0 := Aside0.mk hr0
 have HC0 := Aside0.mk hc0
 unfold impl_LoopsFrom.f at h
 obtain ⟨rs, h1, h⟩ := Option.bind_eq_some_iff.mp h
 obtain ⟨v, h2, h⟩ := Option.bind_eq_some_iff.mp h
 obtain rfl := Option.some.inj h
 have AR := Aside0.mk h1
 have AV := Aside0.mk h2
 clear hr0 hc0 h h1 h2
 have HB := Aside0.mk (Below.refl w.heap.size w)
 go_enter Try.func31, Try.ntmps31
 go_wp2_with (first
  | ((with_reducible refine gate_dst (N := 2) rfl ?_); refine box_event ?hg (N := 2) ?hd (cs := #[.slice A0 l0.length c0]) (t := 22) ?hr ?_; (case hd => rfl); (case hg => rfl); (case hr => first | (go_simp; done) | (go_simp; rfl)); intro g1 hg w1 hbox hb; have BK1 := Aside0.mk ((blk_cell hbox 0).trans rfl : w1.cell? ⟨g1, 0, none⟩ = some (.slice A0 l0.length c0)); have n0_ := Aside0.mk (below_step HB.out hb); clear HB; have HB := n0_; clear n0_; have hcz := BK1.out; clear hg hb hbox)
  | (go_at_call 22; (refine (impl_ReachOf.calls k A0 c0 l0 a1 rs _ (Kd.C_below HR0.out HB.out) HC0.out AR.out).mono ?_); rintro e w8 ⟨v0, rfl, ho, hb⟩; obtain ⟨A1, c1, eo⟩ := Kd.R_slice ho; subst eo; have HO := Aside0.mk (Kd.R_reads' ho).2.2; clear ho; have n1_ := Aside0.mk ((hb.cell (World.block_lt_of_cell? _ _ BK1.out)).trans BK1.out); clear BK1; have BK1 := n1_; clear n1_; have n0_ := Aside0.mk (below_step HB.out hb); clear HB; have HB := n0_; clear n0_; clear hb)
  | (go_at_call 92; (refine (lo_has (loAt k l0) A1 c1 rs _ v _ HO.out (fun w9 hw9 c b hcb => loAt_calls k g1 A0 c0 l0 c b w9 ((hw9.cell (World.block_lt_of_cell? _ _ BK1.out)).trans BK1.out) (Kd.C_below (Kd.C_below HR0.out HB.out) hw9) HC0.out hcb) AV.out).mono ?_); rintro e w8 ⟨rfl, hb⟩; have n0_ := Aside0.mk (below_step HB.out hb); clear HB; have HB := n0_; clear n0_; clear hb))
 go_ret
 exact ⟨rfl, zB7_0⟩

/-! ### laws_FnExactLoopsFrom: function 7 -/
def KT (w : World) (L : List Nat) (k : Nat) : Prop := ∃ q, q ∈ L ∧ ∃ cells, w.heap[k]? = some (.cells cells q (0, 0))
theorem KT_ne {w : World} {L1 L2 : List Nat} {k : Nat} (hd : ∀ q, q ∈ L1 → ¬ q ∈ L2) (h1 : KT w L1 k) (h2 : KT w L2 k) : False := by
 obtain ⟨q1, m1, c1, e1⟩ := h1; obtain ⟨q2, m2, c2, e2⟩ := h2
 rw [e1] at e2; simp at e2; obtain ⟨_, rfl⟩ := e2; exact hd _ m1 m2
theorem own_any {A : Option Addr} {n n' c c' : Nat} : (Value.slice A n c).ownBlock = (Value.slice A n' c').ownBlock := by cases A <;> rfl
theorem iv_R {α : Type} {d : Kd α} {e b : Nat} {ok : Nat → Prop} {W w' : World} {v : Value} {xs : List α} (h : d.R e w' W.heap.size ok v xs) (hb : b ≤ W.heap.size) : d.R e w' b (fun k => W.heap.size ≤ k ∧ k < w'.heap.size ∧ KT w' (e :: d.E) k ∧ ok k) v xs := Kd.R_lower (Kd.R_mono (Kd.R_bound h) (fun _ hk => ⟨hk.2.1, hk.2.2.1, hk.2.2.2, hk.1⟩)) hb
theorem iv_O {α : Type} {d : Kd α} {e b : Nat} {ok : Nat → Prop} {W w' : World} {v : Value} {xs : List α} (hE : d.E = []) (h : d.R e w' W.heap.size ok v xs) (hb : b ≤ W.heap.size) : d.R e w' b (fun k => W.heap.size ≤ k ∧ k < w'.heap.size ∧ KT w' (e :: d.E) k ∧ some k = v.ownBlock) v xs := Kd.R_lower (Kd.R_mono (Kd.R_bound (Kd.R_tight2 hE h)) (fun _ hk => ⟨hk.2.1, hk.2.2.1, hk.2.2.2, hk.1.1⟩)) hb
theorem iv_S {α : Type} {d : Kd α} {e b : Nat} {ok : Nat → Prop} {W w' : World} {v : Value} {xs : List α} (h : Kd.S d e w' W.heap.size ok v xs) (hb : b ≤ W.heap.size) : Kd.S d e w' b (fun k => W.heap.size ≤ k ∧ k < w'.heap.size ∧ KT w' (e :: d.E) k ∧ ok k) v xs := Kd.S_lower (Kd.S_mono (Kd.S_bound h) (fun _ hk => ⟨hk.2.1, hk.2.2.1, hk.2.2.2, hk.1⟩)) hb
theorem iv_Q {α : Type} {d : Kd α} {e b : Nat} {ok : Nat → Prop} {W w' : World} {v : Value} {xs : List α} (h : d.Q e w' W.heap.size ok v xs) (hb : b ≤ W.heap.size) : d.Q e w' b (fun k => W.heap.size ≤ k ∧ k < w'.heap.size ∧ KT w' (e :: d.E) k ∧ ok k) v xs := Kd.Q_lower (Kd.Q_mono (Kd.Q_bound h) (fun _ hk => ⟨hk.2.1, hk.2.2.1, hk.2.2.2, hk.1⟩)) hb
def laws_FnExactLoopsFrom.f (k : Nat) (l0 : List Int) (a1 : Int) : Option (Bool) := if (l0.length : Int) > 1048576 then (some true) else ((laws_toIntS.f k l0).bind fun t278 => ((spec_LoopsFrom.f k t278 a1).bind fun t281 => ((laws_toIntS.f k l0).bind fun t282 => ((impl_LoopsFrom.f k t282 a1).bind fun t285 => (if (t285 != t281) = true then (some false) else ((laws_toIntS.f k l0).bind fun t286 => ((laws_eqIntS.f k t282 t286).bind fun t289 => (if t289 = true then (some true) else (some false)))))))))
theorem laws_FnExactLoopsFrom.mono : ∀ a0 a1 k, LeO (laws_FnExactLoopsFrom.f k a0 a1) (laws_FnExactLoopsFrom.f (k + 1) a0 a1) := by
 intro a0 a1 k
 unfold laws_FnExactLoopsFrom.f
 repeat' first
   | (with_reducible exact impl_LoopsFrom.mono _ _ _)
   | (with_reducible exact laws_eqIntS.mono _ _ _)
   | (with_reducible exact laws_toIntS.mono _ _)
   | (with_reducible exact spec_LoopsFrom.mono _ _ _)
   | (with_reducible exact LeO.refl _)
   | (with_reducible exact LeO.none _)
   | (with_reducible refine LeO.ite ?_ ?_)
   | (with_reducible refine LeO.bind ?_ (fun _ => ?_))
   | exact impl_LoopsFrom.mono _ _ _
   | exact laws_eqIntS.mono _ _ _
   | exact laws_toIntS.mono _ _
   | exact spec_LoopsFrom.mono _ _ _
   | exact LeO.none _
   | refine LeO.ite ?_ ?_
   | refine LeO.bind ?_ (fun _ => ?_)
set_option maxHeartbeats 8000000 in
set_option maxRecDepth 100000 in
theorem laws_FnExactLoopsFrom.calls (k : Nat) (A0 : Option Addr) (c0 : Nat) (l0 : List Int) (a1 : Int) (r : Bool) (w : World) (hr0 : Kd.C (Kd.int .i64) w A0 l0.length l0) (hc0 : l0.length ≤ c0) (hr_ : r = true) (h : laws_FnExactLoopsFrom.f k l0 a1 = some r) :
  Calls Try.prog 7 #[.slice A0 l0.length c0, .int .i64 a1] w fun e w' => e = .returned (.bool r) ∧ Below w.heap.size w w' := by
 subst hr_
 have HR0 := Aside0.mk hr0
 have HC0 := Aside0.mk hc0
 clear hr0 hc0
 unfold laws_FnExactLoopsFrom.f at h
 have H := h
 clear h
 by_cases ci1 : (l0.length : Int) > 1048576
 ·rw [if_pos ci1] at H
  have ci1b0 : decide (1048576 < (l0.length : Int)) = true := decide_eq_true ci1
  have ci1b1 : decide (1048576 < l0.length) = true := decide_eq_true (by omega)
  clear ci1
  have HB := Aside0.mk (Below.refl w.heap.size w)
  have HZ := Aside0.mk (Nat.le_refl w.heap.size)
  clear H
  go_enter Try.func7, Try.ntmps7
  go_wp2
  go_ret
  exact ⟨rfl, HB.out⟩
 rw [if_neg ci1] at H
 have ci1b0 : decide (1048576 < (l0.length : Int)) = false := decide_eq_false ci1
 have ci1b1 : decide (1048576 < l0.length) = false := decide_eq_false (by omega)
 clear ci1
 obtain ⟨t278, hA_, H⟩ := Option.bind_eq_some_iff.mp H
 try dsimp only at H
 have AE0 := Aside0.mk hA_
 clear hA_
 obtain ⟨t281, hA_, H⟩ := Option.bind_eq_some_iff.mp H
 try dsimp only at H
 have AE1 := Aside0.mk hA_
 clear hA_
 obtain ⟨t282, hA_, H⟩ := Option.bind_eq_some_iff.mp H
 try dsimp only at H
 have AE2 := Aside0.mk hA_
 clear hA_
 obtain ⟨t285, hA_, H⟩ := Option.bind_eq_some_iff.mp H
 try dsimp only at H
 have AE3 := Aside0.mk hA_
 clear hA_
 by_cases ci2 : (t285 != t281) = true
 ·rw [if_pos ci2] at H
  exact absurd H (by simp)
 rw [if_neg ci2] at H
 have ci2b0 : (t285 != t281) = false := by simpa using ci2
 (try (have ci2b1 : decide (t285 = t281) = true := by simpa using ci2))
 (try (have ci2b2 : (t285 == t281) = true := by simpa using ci2))
 clear ci2
 obtain ⟨t286, hA_, H⟩ := Option.bind_eq_some_iff.mp H
 try dsimp only at H
 have AE4 := Aside0.mk hA_
 clear hA_
 obtain ⟨t289, hA_, H⟩ := Option.bind_eq_some_iff.mp H
 try dsimp only at H
 have AE5 := Aside0.mk hA_
 clear hA_
 by_cases ci3 : t289 = true
 rotate_left
 ·rw [if_neg ci3] at H
  exact absurd H (by simp)
 rw [if_pos ci3] at H
 subst ci3
 have HB := Aside0.mk (Below.refl w.heap.size w)
 have HZ := Aside0.mk (Nat.le_refl w.heap.size)
 clear H
 go_enter Try.func7, Try.ntmps7
 go_wp2_with (first | (go_at_call 16; (refine (laws_toIntS.calls k _ _ l0 t278 _ ((Kd.C_below HR0.out HB.out)) (HC0.out) AE0.out).mono ?_); rintro e wx1 ⟨v279, rfl, ho0, hb⟩; obtain ⟨AHO280, cHO280, e_⟩ := Kd.R_slice ho0; subst e_; have HO280 := Aside0.mk (iv_O rfl ho0 HB.out.size); clear ho0; have n_ := Aside0.mk (show _ ∧ w.heap.size ≤ wx1.heap.size from ⟨HZ.out, hb.size⟩); clear HZ; have HZ := n_; clear n_; have n_ := Aside0.mk (below_step HB.out hb); clear HB; have HB := n_; clear n_ hb))
 go_wp2_with (first | (go_at_call 30; (refine (spec_LoopsFrom.calls k _ _ t278 a1 _ _ ((Kd.R_reads' HO280.out).2.2) ((Kd.R_reads' HO280.out).2.1) AE1.out).mono ?_); rintro e wx2 ⟨rfl, hb⟩; have n0_ := Aside0.mk (Kd.R_below HO280.out hb); clear HO280; have HO280 := n0_; clear n0_; have n_ := Aside0.mk (show _ ∧ wx1.heap.size ≤ wx2.heap.size from ⟨HZ.out, hb.size⟩); clear HZ; have HZ := n_; clear n_; have n_ := Aside0.mk (below_step HB.out hb); clear HB; have HB := n_; clear n_ hb))
 go_wp2_with (first | (go_at_call 16; (refine (laws_toIntS.calls k _ _ l0 t282 _ ((Kd.C_below HR0.out HB.out)) (HC0.out) AE2.out).mono ?_); rintro e wx3 ⟨v283, rfl, ho0, hb⟩; obtain ⟨AHO284, cHO284, e_⟩ := Kd.R_slice ho0; subst e_; have n0_ := Aside0.mk (Kd.R_below HO280.out hb); clear HO280; have HO280 := n0_; clear n0_; have HO284 := Aside0.mk (iv_O rfl ho0 HB.out.size); clear ho0; have n_ := Aside0.mk (show _ ∧ wx2.heap.size ≤ wx3.heap.size from ⟨HZ.out, hb.size⟩); clear HZ; have HZ := n_; clear n_; have n_ := Aside0.mk (below_step HB.out hb); clear HB; have HB := n_; clear n_ hb))
 go_wp2_with (first | (go_at_call 31; (refine (impl_LoopsFrom.calls k _ _ t282 a1 _ _ ((Kd.R_reads' HO284.out).2.2) ((Kd.R_reads' HO284.out).2.1) AE3.out).mono ?_); rintro e wx4 ⟨rfl, hb⟩; have n0_ := Aside0.mk (Kd.R_below HO280.out hb); have n1_ := Aside0.mk (Kd.R_below HO284.out hb); clear HO280; clear HO284; have HO280 := n0_; have HO284 := n1_; clear n0_; clear n1_; have n_ := Aside0.mk (show _ ∧ wx3.heap.size ≤ wx4.heap.size from ⟨HZ.out, hb.size⟩); clear HZ; have HZ := n_; clear n_; have n_ := Aside0.mk (below_step HB.out hb); clear HB; have HB := n_; clear n_ hb))
 go_wp2_with (first | (go_at_call 16; (refine (laws_toIntS.calls k _ _ l0 t286 _ ((Kd.C_below HR0.out HB.out)) (HC0.out) AE4.out).mono ?_); rintro e wx5 ⟨v287, rfl, ho0, hb⟩; obtain ⟨AHO288, cHO288, e_⟩ := Kd.R_slice ho0; subst e_; have n0_ := Aside0.mk (Kd.R_below HO280.out hb); have n1_ := Aside0.mk (Kd.R_below HO284.out hb); clear HO280; clear HO284; have HO280 := n0_; have HO284 := n1_; clear n0_; clear n1_; have HO288 := Aside0.mk (iv_O rfl ho0 HB.out.size); clear ho0; have n_ := Aside0.mk (show _ ∧ wx4.heap.size ≤ wx5.heap.size from ⟨HZ.out, hb.size⟩); clear HZ; have HZ := n_; clear n_; have n_ := Aside0.mk (below_step HB.out hb); clear HB; have HB := n_; clear n_ hb))
 go_wp2_with (first | (go_at_call 18; (refine (laws_eqIntS.calls k _ _ t282 _ _ t286 _ _ ((Kd.R_reads' HO284.out).2.2) ((Kd.R_reads' HO284.out).2.1) ((Kd.R_reads' HO288.out).2.2) ((Kd.R_reads' HO288.out).2.1) AE5.out).mono ?_); rintro e wx6 ⟨rfl, hd_⟩; have hb := hd_.below; clear hd_; have n0_ := Aside0.mk (Kd.R_below HO280.out hb); have n1_ := Aside0.mk (Kd.R_below HO284.out hb); have n2_ := Aside0.mk (Kd.R_below HO288.out hb); clear HO280; clear HO284; clear HO288; have HO280 := n0_; have HO284 := n1_; have HO288 := n2_; clear n0_; clear n1_; clear n2_; have n_ := Aside0.mk (show _ ∧ wx5.heap.size ≤ wx6.heap.size from ⟨HZ.out, hb.size⟩); clear HZ; have HZ := n_; clear n_; have n_ := Aside0.mk (below_step HB.out hb); clear HB; have HB := n_; clear n_ hb))
 go_ret
 exact ⟨rfl, HB.out⟩

/-- THE ONE PURE STATEMENT of laws_FnExactLoopsFrom: yours. -/
def laws_FnExactLoopsFrom.Pure : Prop := ∀ (l0 : List Int) (a1 : Int), (l0.length ≤ maxLen ∧ ∀ y1_ ∈ l0, (Lit.int .i64 y1_).wf = true) → (Lit.int .i64 a1).wf = true → ∃ k, laws_FnExactLoopsFrom.f k l0 a1 = some true
theorem laws_FnExactLoopsFrom.walk (P : laws_FnExactLoopsFrom.Pure) (A0 : Option Addr) (c0 : Nat) (l0 : List Int) (a1 : Int) (w : World) (hr0 : Kd.C (Kd.int .i64) w A0 l0.length l0) (hc0 : l0.length ≤ c0) (g0 : (l0.length ≤ maxLen ∧ ∀ y1_ ∈ l0, (Lit.int .i64 y1_).wf = true)) (g1 : (Lit.int .i64 a1).wf = true) :
  Calls Try.prog 7 #[.slice A0 l0.length c0, .int .i64 a1] w fun e w' => e = .returned (.bool true) ∧ Below w.heap.size w w' := by
 obtain ⟨k, h⟩ := P l0 a1 g0 g1
 exact laws_FnExactLoopsFrom.calls k A0 c0 l0 a1 true w hr0 hc0 rfl h

end Go.Proofs.Ytnekcbajadnldaa.PFnExactLoopsFrom
