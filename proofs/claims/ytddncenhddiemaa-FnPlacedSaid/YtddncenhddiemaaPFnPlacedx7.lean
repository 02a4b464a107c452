-- made by wip/tools/myprint.py out of the seat's translation
import Derived.Test.YtddncenhddiemaaPFnPlacedx0
import Derived.Test.YtddncenhddiemaaPFnPlacedx4
import Derived.Test.YtddncenhddiemaaPFnPlacedx5
import Derived.Test.YtddncenhddiemaaPFnPlacedx6
namespace Go.Proofs.Ytddncenhddiemaa.PFnPlaced
open Go.RowKit Go.Proofs.YtddncenhddiemaaW.PrintWords Go.Proofs.YtddncenhddiemaaW.PrintLast Go.Proofs.YtddncenhddiemaaW.PrintMore
attribute [local go_sem] max2_int min2_int max_two min_two max_three min_three max_four min_four   -- for this text's walks alone
set_option linter.unusedVariables false
set_option linter.unusedSimpArgs false
theorem zR7 {p q : Prop} (x : q) (h : q → p := by intro h; (with_reducible repeat (first | apply Kd.R_alloc | apply Kd.R_drewN | apply Kd.R_drew)); exact h) : p := h x
theorem zK7 {p q : Prop} (x : q) (h : q → p := by intro h; (with_reducible repeat (first | refine blk_drewN ?_ _ | refine blk_drew ?_ | refine blk_alloc ?_ _)); exact h) : p := h x
theorem zA7 {p : Prop} [Decidable p] (h : decide p = true := by first | (with_reducible assumption) | assumption) : p := of_decide_eq_true h
theorem zT7 {p : Prop} (h : p := by (try simp only [List.map_toArray, List.map_cons, List.map_nil]); first | done | rfl | (simp only [List.length_drop, List.length_take]; rfl)) : p := h
theorem zC7 {p q : Prop} (x : q) (h : q → p := by intro h; repeat (first | exact h | (with_reducible refine Kd.C_alloc ?_ _) | (with_reducible refine Kd.C_drewN ?_ _) | (with_reducible refine Kd.C_drew ?_))) : p := h x
theorem zE7 {p : Prop} (h : p := by first | rfl | (simp [errW_none, errW_some] <;> rfl) | (simp [*, errW_none, errW_some] <;> rfl)) : p := h
theorem zB7_0 {p : Prop} (h : p := by repeat (first | (with_reducible first | exact HB.out | apply below_alloc | apply pw_below_drewN | apply below_drew1) | exact HB.out)) : p := h
theorem zB7_1 {p : Prop} (h : p := by repeat (first | (with_reducible first | exact HB.out | apply below_alloc | apply pw_below_drewN | apply below_drew1 | refine below_set ?_ GE385.out) | exact HB.out)) : p := h
theorem zB7_2 {p : Prop} (h : p := by repeat (first | (with_reducible first | exact HI393.out | apply IsS174.alloc | apply IsS174.drewN | apply IsS174.drew | apply IsS174.set_1 | apply IsS174.set_2) | exact HI393.out)) : p := h
theorem zB7_3 {p : Prop} (h : p := by repeat (first | (with_reducible first | exact HI393.out | apply IsS174.alloc | apply IsS174.drewN | apply IsS174.drew | apply IsS174.set_1 | apply IsS174.set_2 | refine IsS174.far ?_ NB393_405.out _) | exact HI393.out)) : p := h

/-! ### spec_Place: function 50 -/
mutual
def spec_Place.j0 : Nat → Int → List Int → List Int → Bool → Option (List Int × Bool)
  | 0, _, _, _, _ => none
  | k + 1, x1, x2, x8, x33 => if x33 = true then (some (x8, false)) else (spec_Place.l0 k x1 x2 x8 0)
def spec_Place.l0 : Nat → Int → List Int → List Int → Int → Option (List Int × Bool)
  | 0, _, _, _, _ => none
  | k + 1, x1, x2, x8, x9 => if x9 < (x2.length : Int) then (if 0 ≤ x9 then (if 0 ≤ (wrap64 (x1 + x9)) then (if (wrap64 (x1 + x9)) < (x8.length : Int) then (spec_Place.l0 k x1 x2 (x8.set ((wrap64 (x1 + x9)) : Int).toNat (rd x2 x9)) (wrap64 (x9 + 1))) else (none)) else (none)) else (none)) else (some (x8, true))
end
def spec_Place.f (k : Nat) (l0 : List Int) (a1 : Int) (l2 : List Int) : Option (List Int × Bool) := (some (([] : List Int) : List Int)).bind fun y375 => (if y375.length + l0.length < 17592186044416 then ((some (y375 ++ l0 : List Int)).bind fun y378 => ((spec_l1Words.f k l0 24).bind fun t381 => (if t381 = true then (if a1 < 0 then (spec_Place.j0 k a1 l2 y378 true) else (if a1 > (wrap64 (24 - (l2.length : Int))) then (spec_Place.j0 k a1 l2 y378 true) else ((spec_l1Words.f k l2 (l2.length : Int)).bind fun t382 => (spec_Place.j0 k a1 l2 y378 (!t382))))) else (spec_Place.j0 k a1 l2 y378 true)))) else (none))
theorem spec_Place.mono_l : ∀ k, (∀ y0 y1 y2 y3, LeO (spec_Place.j0 k y0 y1 y2 y3) (spec_Place.j0 (k + 1) y0 y1 y2 y3)) ∧ (∀ y0 y1 y2 y3, LeO (spec_Place.l0 k y0 y1 y2 y3) (spec_Place.l0 (k + 1) y0 y1 y2 y3))
  | 0 => ⟨fun _ _ _ _ r h => by simp [spec_Place.j0] at h, fun _ _ _ _ r h => by simp [spec_Place.l0] at h⟩
  | k + 1 => by
    obtain ⟨ih0, ih1⟩ := spec_Place.mono_l k
    refine ⟨?_, ?_⟩
    · intro y0 y1 y2 y3
      unfold spec_Place.j0
      repeat' first
      | (with_reducible exact ih0 _ _ _ _)
      | (with_reducible exact ih1 _ _ _ _)
      | (with_reducible exact spec_l1Words.mono _ _ _)
      | (with_reducible exact LeO.refl _)
      | (with_reducible exact LeO.none _)
      | (with_reducible refine LeO.ite ?_ ?_)
      | (with_reducible refine LeO.bind ?_ (fun _ => ?_))
      | exact ih0 _ _ _ _
      | exact ih1 _ _ _ _
      | exact spec_l1Words.mono _ _ _
      | exact LeO.none _
      | refine LeO.ite ?_ ?_
      | refine LeO.bind ?_ (fun _ => ?_)
    · intro y0 y1 y2 y3
      unfold spec_Place.l0
      repeat' first
      | (with_reducible exact ih0 _ _ _ _)
      | (with_reducible exact ih1 _ _ _ _)
      | (with_reducible exact spec_l1Words.mono _ _ _)
      | (with_reducible exact LeO.refl _)
      | (with_reducible exact LeO.none _)
      | (with_reducible refine LeO.ite ?_ ?_)
      | (with_reducible refine LeO.bind ?_ (fun _ => ?_))
      | exact ih0 _ _ _ _
      | exact ih1 _ _ _ _
      | exact spec_l1Words.mono _ _ _
      | exact LeO.none _
      | refine LeO.ite ?_ ?_
      | refine LeO.bind ?_ (fun _ => ?_)
theorem spec_Place.mono : ∀ a0 a1 a2 k, LeO (spec_Place.f k a0 a1 a2) (spec_Place.f (k + 1) a0 a1 a2) := by
  intro a0 a1 a2 k
  obtain ⟨ih0, ih1⟩ := spec_Place.mono_l k
  unfold spec_Place.f
  repeat' first
      | (with_reducible exact ih0 _ _ _ _)
      | (with_reducible exact ih1 _ _ _ _)
      | (with_reducible exact spec_l1Words.mono _ _ _)
      | (with_reducible exact LeO.refl _)
      | (with_reducible exact LeO.none _)
      | (with_reducible refine LeO.ite ?_ ?_)
      | (with_reducible refine LeO.bind ?_ (fun _ => ?_))
      | exact ih0 _ _ _ _
      | exact ih1 _ _ _ _
      | exact spec_l1Words.mono _ _ _
      | exact LeO.none _
      | refine LeO.ite ?_ ?_
      | refine LeO.bind ?_ (fun _ => ?_)
set_option maxHeartbeats 8000000 in
set_option maxRecDepth 100000 in
theorem spec_Place.calls (k : Nat) (A0 : Option Addr) (c0 : Nat) (l0 : List Int) (a1 : Int) (A2 : Option Addr) (c2 : Nat) (l2 : List Int) (r1 : List Int) (r2 : Bool) (w : World) (hr0 : Kd.C (Kd.int .i64) w A0 l0.length l0) (hc0 : l0.length ≤ c0) (hr2 : Kd.C (Kd.int .i64) w A2 l2.length l2) (hc2 : l2.length ≤ c2) (h : spec_Place.f k l0 a1 l2 = some (r1, r2)) :
    Calls Try.prog 50 #[.slice A0 l0.length c0, .int .i64 a1, .slice A2 l2.length c2] w fun e w' => ∃ v0_ : Value, e = .returned (.tuple #[v0_, .bool r2]) ∧ Kd.R (Kd.int .i64) 3 w' w.heap.size (fun _ => True) v0_ r1 ∧ Below w.heap.size w w' := by
  have HR0 := Aside0.mk hr0
  have HC0 := Aside0.mk hc0
  clear hr0 hc0
  have HR2 := Aside0.mk hr2
  have HC2 := Aside0.mk hc2
  clear hr2 hc2
  have HB := Aside0.mk (Below.refl w.heap.size w)
  have H : ((some (([] : List Int) : List Int)).bind fun y375 => (if y375.length + l0.length < 17592186044416 then ((some (y375 ++ l0 : List Int)).bind fun y378 => ((spec_l1Words.f k l0 24).bind fun t381 => (if t381 = true then (if a1 < 0 then (spec_Place.j0 k a1 l2 y378 true) else (if a1 > (wrap64 (24 - (l2.length : Int))) then (spec_Place.j0 k a1 l2 y378 true) else ((spec_l1Words.f k l2 (l2.length : Int)).bind fun t382 => (spec_Place.j0 k a1 l2 y378 (!t382))))) else (spec_Place.j0 k a1 l2 y378 true)))) else (none))) = some (r1, r2) := h
  clear h
  obtain ⟨y375, hy375⟩ : ∃ y_ : List Int, y_ = (([] : List Int)) := ⟨_, rfl⟩
  replace H : (if y375.length + l0.length < 17592186044416 then ((some (y375 ++ l0 : List Int)).bind fun y378 => ((spec_l1Words.f k l0 24).bind fun t381 => (if t381 = true then (if a1 < 0 then (spec_Place.j0 k a1 l2 y378 true) else (if a1 > (wrap64 (24 - (l2.length : Int))) then (spec_Place.j0 k a1 l2 y378 true) else ((spec_l1Words.f k l2 (l2.length : Int)).bind fun t382 => (spec_Place.j0 k a1 l2 y378 (!t382))))) else (spec_Place.j0 k a1 l2 y378 true)))) else (none)) = some (r1, r2) := by first | (rw [hy375]; with_reducible exact H) | (have H2_ := (Option.bind_some _ _).symm.trans H; rw [hy375]; with_reducible exact H2_) | (have H2_ := (Option.bind_some _ _).symm.trans H; with_reducible exact H2_) | with_reducible exact H | (rw [hy375]; exact H) | exact H
  have Ny375 := Aside0.mk hy375
  clear hy375
  by_cases c4 : y375.length + l0.length < 17592186044416
  rotate_left
  · rw [if_neg c4] at H
    exact absurd H (by simp)
  rw [if_pos c4] at H
  have LMc4 := Aside0.mk c4
  clear c4
  obtain ⟨y378, hy378⟩ : ∃ y_ : List Int, y_ = (y375 ++ l0) := ⟨_, rfl⟩
  replace H : ((spec_l1Words.f k l0 24).bind fun t381 => (if t381 = true then (if a1 < 0 then (spec_Place.j0 k a1 l2 y378 true) else (if a1 > (wrap64 (24 - (l2.length : Int))) then (spec_Place.j0 k a1 l2 y378 true) else ((spec_l1Words.f k l2 (l2.length : Int)).bind fun t382 => (spec_Place.j0 k a1 l2 y378 (!t382))))) else (spec_Place.j0 k a1 l2 y378 true))) = some (r1, r2) := by first | (rw [hy378]; with_reducible exact H) | (have H2_ := (Option.bind_some _ _).symm.trans H; rw [hy378]; with_reducible exact H2_) | (have H2_ := (Option.bind_some _ _).symm.trans H; with_reducible exact H2_) | with_reducible exact H | (rw [hy378]; exact H) | exact H
  have Ny378 := Aside0.mk hy378
  clear hy378
  have HC5 := Aside0.mk H
  clear H
  go_enter Try.func50, Try.ntmps50
  go_upto_region 2 with (first | ((with_reducible refine gate_dst (N := 10) rfl ?_); (try (refine gate_guard (by rfl) ?_; dsimp only)); refine Kd.R_lit (Kd.int .i64) _ 3 ?hg (N := 10) ?hd (xs := ([] : List Int)) (inner := []) (ok := fun _ => True) (okp := fun _ => True) ?hr ?hp (fun _ hk => hk) trivial (Below.refl _ _) (Nat.le_refl _) (by simp) ?_; (case hd => rfl); (case hg => rfl); (case hr => first | (go_simp; done) | (go_simp; rfl)); (case hp => exact (Reps.none _ _)); intro v376 w6 ho7 hb hg_ hnew_; clear hg_ hnew_; (first | rw [← Ny375.out] at ho7 | (simp only [Int.reduceToNat] at ho7; rw [← Ny375.out] at ho7)); have n0_ := Aside0.mk (Kd.R_lower ho7 (below_size (zB7_0))); have n1_ := Aside0.mk (below_step (zB7_0) hb); clear HB; have HO377 := n0_; have HB := n1_; clear n0_ n1_; clear hb ho7) | ((with_reducible refine gate_builtin (b := .append) (xs := #[.tmp 10, .tmp 11]) rfl ?_); (try (refine gate_guard (by rfl) ?_; dsimp only)); at_builtin; refine Kd.R_append_rows (Kd.int .i64) (w0 := w) w.heap.size rfl (.tmp 10) (.tmp 11) 25 3 (.int .i64 0) 8 rfl Try.underlying25 info3 rfl (by decide) (by omega) v376 y375 l0 _ _ _ (fun _ => True) (fun _ => False) rfl rfl ?aO ?aR (fun _ _ h => h) (fun _ h => h.elim) ?aF ?aB ?aS ?aL ?_; (case aR => exact zC7 (Kd.C_below HR0.out HB.out)); (case aB => exact (zB7_0)); (case aF => exact (fun _ _ => trivial)); (case aO => exact (zR7 HO377.out)); (case aS => exact (below_size (zB7_0))); (case aL => have := LMc4.out; omega); intro v379 w8 ho hb hg hat; rw [← Ny378.out] at ho; have n0_ := Aside0.mk (hb); have n1_ := Aside0.mk (ho); clear HB; clear HO377; have HB := n0_; have HO380 := n1_; clear n0_ n1_; clear ho hb hg hat))
  (try simp only [Act.put, List.setIfInBounds_toArray, List.set_cons_zero, List.set_cons_succ])
  go_cut [33] (fun v33 wc => ∃ (kq : Nat) (x33_4 : Bool), v33 = .bool x33_4 ∧ Aside0 (spec_Place.j0 kq a1 l2 y378 x33_4 = some (r1, r2)) ∧ Aside0 (kq ≤ k) ∧ Aside0 (Kd.R (Kd.int .i64) 3 wc w.heap.size (fun _ => True) v379 y378) ∧ Aside0 (Below w.heap.size w wc))
  case first =>
    have H := HC5.out
    clear HC5
    replace H := Option.bind_eq_some_iff.mp H
    obtain ⟨t381, A90, H⟩ := H
    replace H : (if t381 = true then (if a1 < 0 then (spec_Place.j0 k a1 l2 y378 true) else (if a1 > (wrap64 (24 - (l2.length : Int))) then (spec_Place.j0 k a1 l2 y378 true) else ((spec_l1Words.f k l2 (l2.length : Int)).bind fun t382 => (spec_Place.j0 k a1 l2 y378 (!t382))))) else (spec_Place.j0 k a1 l2 y378 true)) = some (r1, r2) := H
    have A9 := Aside0.mk A90
    clear A90
    by_cases c10 : t381 = true
    rotate_left
    · replace c10 := Bool.eq_false_iff.mpr c10
      subst c10
      have H1 : (spec_Place.j0 k a1 l2 y378 true) = some (r1, r2) := by rw [if_neg (show ¬ (false = true) by decide)] at H; exact H
      clear H
      have H := H1
      clear H1
      have H' := Aside0.mk H
      clear H
      go_wp2_with (first | ((with_reducible refine gate_callee (f := 126) rfl ?_); refine goesL_ (some 14) rfl rfl Try.func126 (by kernel_rfl) rfl #[.slice A0 l0.length c0, .int .i64 24] rfl zT7 ?_; (with_reducible refine (spec_l1Words.calls k _ _ l0 24 false _ ?side1 ?side2 A9.out).mono ?_); (case side1 => exact zC7 (Kd.C_below HR0.out HB.out)); (case side2 => exact HC0.out); rintro e w' ⟨rfl, ⟨nd, rfl⟩⟩; refine ⟨_, rfl, ?_⟩))
      go_meet
      case rel => exact ⟨_, (true), (by first | rfl | (simp; done) | (simp [*]; done)), H', ⟨by first | omega | exact Nat.le_refl _⟩, ⟨zR7 HO380.out⟩, ⟨zB7_0⟩⟩
    subst c10
    have H1 : (if a1 < 0 then (spec_Place.j0 k a1 l2 y378 true) else (if a1 > (wrap64 (24 - (l2.length : Int))) then (spec_Place.j0 k a1 l2 y378 true) else ((spec_l1Words.f k l2 (l2.length : Int)).bind fun t382 => (spec_Place.j0 k a1 l2 y378 (!t382))))) = some (r1, r2) := by rw [if_pos rfl] at H; exact H
    clear H
    have H := H1
    clear H1
    by_cases c11 : a1 < 0
    · rw [if_pos c11] at H
      have c11b0 : decide (a1 < 0) = true := decide_eq_true c11
      clear c11
      (first | rw [c11b0] | (simp only [i64_w, i32_w]; rw [c11b0]) | skip)
      have H' := Aside0.mk H
      clear H
      go_wp2_with (first | ((with_reducible refine gate_callee (f := 126) rfl ?_); refine goesL_ (some 14) rfl rfl Try.func126 (by kernel_rfl) rfl #[.slice A0 l0.length c0, .int .i64 24] rfl zT7 ?_; (with_reducible refine (spec_l1Words.calls k _ _ l0 24 true _ ?side1 ?side2 A9.out).mono ?_); (case side1 => exact zC7 (Kd.C_below HR0.out HB.out)); (case side2 => exact HC0.out); rintro e w' ⟨rfl, ⟨nd, rfl⟩⟩; refine ⟨_, rfl, ?_⟩))
      go_meet
      case rel => exact ⟨_, (true), (by first | rfl | (simp; done) | (simp [*]; done)), H', ⟨by first | omega | exact Nat.le_refl _⟩, ⟨zR7 HO380.out⟩, ⟨zB7_0⟩⟩
    rw [if_neg c11] at H
    have c11b0 : decide (a1 < 0) = false := decide_eq_false c11
    clear c11
    (first | rw [c11b0] | (simp only [i64_w, i32_w]; rw [c11b0]) | skip)
    by_cases c12 : a1 > (wrap64 (24 - (l2.length : Int)))
    · rw [if_pos c12] at H
      have c12b0 : decide ((wrap64 (24 - (l2.length : Int))) < a1) = true := decide_eq_true c12
      clear c12
      have H' := Aside0.mk H
      clear H
      go_wp2_with (first | ((with_reducible refine gate_callee (f := 126) rfl ?_); refine goesL_ (some 14) rfl rfl Try.func126 (by kernel_rfl) rfl #[.slice A0 l0.length c0, .int .i64 24] rfl zT7 ?_; (with_reducible refine (spec_l1Words.calls k _ _ l0 24 true _ ?side1 ?side2 A9.out).mono ?_); (case side1 => exact zC7 (Kd.C_below HR0.out HB.out)); (case side2 => exact HC0.out); rintro e w' ⟨rfl, ⟨nd, rfl⟩⟩; refine ⟨_, rfl, ?_⟩))
      go_meet
      case rel => exact ⟨_, (true), (by first | rfl | (simp; done) | (simp [*]; done)), H', ⟨by first | omega | exact Nat.le_refl _⟩, ⟨zR7 HO380.out⟩, ⟨zB7_0⟩⟩
    rw [if_neg c12] at H
    have c12b0 : decide ((wrap64 (24 - (l2.length : Int))) < a1) = false := decide_eq_false c12
    clear c12
    replace H := Option.bind_eq_some_iff.mp H
    obtain ⟨t382, A130, H⟩ := H
    replace H : (spec_Place.j0 k a1 l2 y378 (!t382)) = some (r1, r2) := H
    have A13 := Aside0.mk A130
    clear A130
    have H' := Aside0.mk H
    clear H
    go_wp2_with (first | ((with_reducible refine gate_callee (f := 126) rfl ?_); refine goesL_ (some 14) rfl rfl Try.func126 (by kernel_rfl) rfl #[.slice A0 l0.length c0, .int .i64 24] rfl zT7 ?_; (with_reducible refine (spec_l1Words.calls k _ _ l0 24 true _ ?side1 ?side2 A9.out).mono ?_); (case side1 => exact zC7 (Kd.C_below HR0.out HB.out)); (case side2 => exact HC0.out); rintro e w' ⟨rfl, ⟨nd, rfl⟩⟩; refine ⟨_, rfl, ?_⟩) | (go_at_call 126; (with_reducible refine (spec_l1Words.calls k _ _ l2 (l2.length : Int) t382 _ ?side1 ?side2 A13.out).mono ?_); (case side1 => repeat (first | exact (Kd.C_below HR2.out (zB7_0)) | (with_reducible refine Kd.C_alloc ?_ _) | (with_reducible refine Kd.C_drewN ?_ _) | (with_reducible refine Kd.C_drew ?_))); (case side2 => exact HC2.out); rintro e w' ⟨rfl, ⟨nd, rfl⟩⟩))
    go_meet
    case rel => exact ⟨_, (!t382), (by first | rfl | (simp; done) | (simp [*]; done)), H', ⟨by first | omega | exact Nat.le_refl _⟩, ⟨zR7 HO380.out⟩, ⟨zB7_0⟩⟩
  case rest =>
    clear HC5
    try clear c1
    try clear c2
    try clear p2
    try clear c4
    try clear c5
    try clear p6
    try clear c10
    try clear c11
    try clear c11b0
    try clear c12
    try clear c12b0
    obtain ⟨kq, x33_4, rfl, HA, HJ4, HO_8, HB⟩ := hcut
    cases kq with
    | zero => exact absurd HA.out (by simp [spec_Place.j0])
    | succ kj4 =>
      have H := HA.out
      clear HA
      simp only [spec_Place.j0] at H
      by_cases c14 : x33_4 = true
      · subst c14
        have H1 : (some (y378, false)) = some (r1, r2) := by rw [if_pos rfl] at H; exact H
        clear H
        have H := H1
        clear H1
        simp only [Option.some.injEq, Prod.mk.injEq] at H
        obtain ⟨rfl, rfl⟩ := H
        go_wp2
        go_ret2
        exact ⟨_, zE7, zR7 HO_8.out, zB7_0⟩
      replace c14 := Bool.eq_false_iff.mpr c14
      subst c14
      have H1 : (spec_Place.l0 kj4 a1 l2 y378 0) = some (r1, r2) := by rw [if_neg (show ¬ (false = true) by decide)] at H; exact H
      clear H
      have H := H1
      clear H1
      have H' := Aside0.mk H
      clear H
      go_wp2
      go_loopg [9] kj4 (fun kq v9 w' => ∃ (x8_2 : List Int) (x9_2 : Int), v9 = .int .i64 x9_2 ∧ Aside0 (spec_Place.l0 kq a1 l2 x8_2 x9_2 = some (r1, r2)) ∧ Aside0 (kq ≤ kj4) ∧ Aside0 (Kd.R (Kd.int .i64) 3 w' w.heap.size (fun _ => True) v379 x8_2) ∧ Aside0 (Below w.heap.size w w'))
      case atStart => exact ⟨(y378), (0), (by first | rfl | (simp; done) | (simp [*]; done)), H', ⟨Nat.le_refl _⟩, ⟨zR7 HO_8.out⟩, ⟨zB7_0⟩⟩
      case round =>
        clear H'
        try clear c1
        try clear c2
        try clear p2
        try clear c4
        try clear c5
        try clear p6
        try clear c10
        try clear c11
        try clear c11b0
        try clear c12
        try clear c12b0
        try clear c14
        try clear p2
        try clear p6
        obtain ⟨x8_2, x9_2, rfl, HA, HK2, HO_8, HB⟩ := hrel
        cases gk with
        | zero => exact absurd HA.out (by simp [spec_Place.l0])
        | succ k2 =>
          have H := HA.out
          clear HA
          simp only [spec_Place.l0] at H
          by_cases c15 : x9_2 < (l2.length : Int)
          rotate_left
          · rw [if_neg c15] at H
            have c15b0 : decide (x9_2 < (l2.length : Int)) = false := decide_eq_false c15
            clear c15
            simp only [Option.some.injEq, Prod.mk.injEq] at H
            obtain ⟨rfl, rfl⟩ := H
            go_wp2
            go_ret2
            exact ⟨_, zE7, zR7 HO_8.out, zB7_0⟩
          rw [if_pos c15] at H
          have c15b0 : decide (x9_2 < (l2.length : Int)) = true := decide_eq_true c15
          clear c15
          by_cases c16 : 0 ≤ x9_2
          rotate_left
          · rw [if_neg c16] at H
            exact absurd H (by simp)
          rw [if_pos c16] at H
          have c16b0 : decide (0 ≤ x9_2) = true := decide_eq_true c16
          clear c16
          obtain ⟨ji17, hji17⟩ : ∃ j_ : Int, (wrap64 (a1 + x9_2)) = j_ := ⟨_, rfl⟩
          replace H : (if 0 ≤ (ji17) then (if (ji17) < (x8_2.length : Int) then (spec_Place.l0 k2 a1 l2 (x8_2.set ((ji17) : Int).toNat (rd l2 x9_2)) (wrap64 (x9_2 + 1))) else (none)) else (none)) = some (r1, r2) := by first | (rw [hji17] at H; exact H) | (simp only [hji17] at H ⊢; exact H)
          have hji17w : (IntKind.i64.wrap (a1 + x9_2)) = ji17 := (i64_w _).trans hji17
          by_cases c18 : 0 ≤ (ji17)
          rotate_left
          · rw [if_neg c18] at H
            exact absurd H (by simp)
          rw [if_pos c18] at H
          have c18b0 : decide (0 ≤ (ji17)) = true := decide_eq_true c18
          clear c18
          by_cases c19 : (ji17) < (x8_2.length : Int)
          rotate_left
          · rw [if_neg c19] at H
            exact absurd H (by simp)
          rw [if_pos c19] at H
          have c19b0 : decide ((ji17) < (x8_2.length : Int)) = true := decide_eq_true c19
          clear c19
          obtain ⟨y384, hy384⟩ : ∃ y_ : List Int, y_ = (x8_2.set ((ji17) : Int).toNat (rd l2 x9_2)) := ⟨_, rfl⟩
          replace H : (spec_Place.l0 k2 a1 l2 y384 (wrap64 (x9_2 + 1))) = some (r1, r2) := by first | (rw [hy384]; with_reducible exact H) | (have H2_ := (Option.bind_some _ _).symm.trans H; rw [hy384]; with_reducible exact H2_) | (have H2_ := (Option.bind_some _ _).symm.trans H; with_reducible exact H2_) | with_reducible exact H | (rw [hy384]; exact H) | exact H
          have Ny384 := Aside0.mk hy384
          clear hy384
          have H' := Aside0.mk H
          clear H
          have p383 : 0 ≤ (x9_2 : Int) := zA7
          have q383 : x9_2 < (l2.length : Int) := zA7
          obtain ⟨ad383, e383, hx383_0⟩ := Kd.at_int HR2.out x9_2 p383 q383
          cases e383
          replace hx383_0 := (HB.out.cell (World.block_lt_of_cell? w _ hx383_0)).trans hx383_0
          replace p383 := eq_true p383
          replace q383 := eq_true q383
          have p20 : 0 ≤ ((ji17) : Int) := zA7
          have q20 : ((ji17) : Int) < ((x8_2.length : Int) : Int) := zA7
          obtain ⟨go20, co20, eo20, gb20, gl20, cl20, HG20⟩ := Kd.R_form HO_8.out (by omega)
          (first | cases eo20 | (injection eo20 with ea_ en_ ec_; (first | subst ea_ | (injection ea_ with ea_; subst ea_)); subst ec_; clear en_))
          have GB20 := Aside0.mk gb20
          have GG20 := Aside0.mk HG20
          clear gb20 gl20 HG20
          obtain ⟨hx20_0, hf20_0⟩ := Kd.R_celln 0 HO_8.out ((ji17) : Int) p20 q20
          replace p20 := eq_true p20
          replace q20 := eq_true q20
          have HP21 := Kd.R_putg HO_8.out ((ji17) : Int) (rd l2 x9_2)
          go_wp2_with (first | ((with_reducible refine gate_store (t := 3) (p := 49) rfl ?_); refine store_event (t := 3) (p := 49) (v := ?vo_w22) (w1 := (wr.setCell ⟨go20, ((ji17) : Int).toNat, none⟩ (.int .i64 (rd l2 x9_2)))) ?hg ?ho ?hn ?hr ?_; (case ho => rfl); (case hg => rfl); (case hn => rfl); (case hr => first | (go_simp; done) | (go_simp; rfl)); intro w22 hw; have hg : wr.grownBy w22 (some go20) := (by rw [hw]; exact HP21.2); have hp_ : Kd.R (Kd.int .i64) 3 w22 w.heap.size (fun _ => True) (.slice (some ⟨go20, 0, none⟩) x8_2.length co20) y384 := (by rw [hw, Ny384.out]; exact HP21.1); clear HP21; have n0_ := Aside0.mk (hp_); have n1_ := Aside0.mk ((by rw [hw]; exact below_set (HB.out) GB20.out : Below w.heap.size w w22)); clear HO_8; clear HB; have HO_8 := n0_; have HB := n1_; clear n0_ n1_; clear hg hw hp_))
          go_roundg k2
          case measure => have := HJ4.out; have := HK2.out; omega
          case rel => exact ⟨(y384), (wrap64 (x9_2 + 1)), (by first | rfl | (simp; done) | (simp [*]; done)), H', ⟨by have := HJ4.out; have := HK2.out; omega⟩, ⟨zR7 HO_8.out⟩, ⟨zB7_0⟩⟩

/-! ### spec_l9Address: function 176 -/
def spec_l9Address.f (a0 : Int) : Option (Int) := if (Int.tmod a0 24) < 0 then (some (wrap64 ((Int.tmod a0 24) + 24))) else (some (Int.tmod a0 24))
set_option maxHeartbeats 8000000 in
set_option maxRecDepth 100000 in
theorem spec_l9Address.calls (a0 : Int) (r : Int) (w : World) (h : spec_l9Address.f a0 = some r) :
    Calls Try.prog 176 #[.int .i64 a0] w fun e w' => e = .returned (.int .i64 r) ∧ Drawn0 w w' := by
  have H : (if (Int.tmod a0 24) < 0 then (some (wrap64 ((Int.tmod a0 24) + 24))) else (some (Int.tmod a0 24))) = some r := h
  clear h
  by_cases c2 : (Int.tmod a0 24) < 0
  · rw [if_pos c2] at H
    have c2b0 : decide ((Int.tmod a0 24) < 0) = true := decide_eq_true c2
    clear c2
    obtain rfl := Option.some.inj H
    go_enter Try.func176, Try.ntmps176
    go_wp2
    go_ret
    exact ⟨by first | rfl | (simp; done) | (simp [*]; done), by repeat (first | exact Drawn0.refl _ | apply Drawn0.step)⟩
  rw [if_neg c2] at H
  have c2b0 : decide ((Int.tmod a0 24) < 0) = false := decide_eq_false c2
  clear c2
  obtain rfl := Option.some.inj H
  go_enter Try.func176, Try.ntmps176
  go_wp2
  go_ret
  exact ⟨by first | rfl | (simp; done) | (simp [*]; done), by repeat (first | exact Drawn0.refl _ | apply Drawn0.step)⟩

/-! ### spec_HartNew: function 130 -/
def spec_HartNew.f (a0 : Int) : Option (List Int × Int × Int) := if 4 ≤ 35184372088832 then ((spec_l9Address.f a0).bind fun t389 => (some ((List.replicate 4 0), t389, 0))) else (none)
set_option maxHeartbeats 8000000 in
set_option maxRecDepth 100000 in
theorem spec_HartNew.calls (a0 : Int) (r1 : List Int) (r2 : Int) (r3 : Int) (w : World) (h : spec_HartNew.f a0 = some (r1, r2, r3)) :
    Calls Try.prog 130 #[.int .i64 a0] w fun e w' => ∃ v0_ : Value, e = .returned (.agg #[v0_, .int .i64 r2, .int .i64 r3]) ∧ Kd.R (Kd.int .i64) 3 w' w.heap.size (fun _ => True) v0_ r1 ∧ Below w.heap.size w w' := by
  have hu31 := Try.underlying31
  have HB := Aside0.mk (Below.refl w.heap.size w)
  have H : (if 4 ≤ 35184372088832 then ((spec_l9Address.f a0).bind fun t389 => (some ((List.replicate 4 0), t389, 0))) else (none)) = some (r1, r2, r3) := h
  clear h
  by_cases c2 : 4 ≤ 35184372088832
  rotate_left
  · rw [if_neg c2] at H
    exact absurd H (by simp)
  rw [if_pos c2] at H
  have c2b0 := eq_true c2
  have c2b1 : decide (4 ≤ 35184372088832) = true := decide_eq_true c2
  clear c2
  obtain ⟨y386, hy386⟩ : ∃ y_ : List Int, y_ = (List.replicate 4 0) := ⟨_, rfl⟩
  replace H : ((spec_l9Address.f a0).bind fun t389 => (some (y386, t389, 0))) = some (r1, r2, r3) := by first | (rw [hy386]; with_reducible exact H) | (have H2_ := (Option.bind_some _ _).symm.trans H; rw [hy386]; with_reducible exact H2_) | (have H2_ := (Option.bind_some _ _).symm.trans H; with_reducible exact H2_) | with_reducible exact H | (rw [hy386]; exact H) | exact H
  have Ny386 := Aside0.mk hy386
  clear hy386
  replace H := Option.bind_eq_some_iff.mp H
  obtain ⟨t389, A30, H⟩ := H
  replace H : (some (y386, t389, 0)) = some (r1, r2, r3) := H
  have A3 := Aside0.mk A30
  clear A30
  simp only [Option.some.injEq, Prod.mk.injEq] at H
  obtain ⟨rfl, rfl, rfl⟩ := H
  go_enter Try.func130, Try.ntmps130
  try go_wp2_with (first | ((with_reducible refine gate_dst (N := 2) rfl ?_); refine box_event ?hg (N := 2) ?hd (cs := #[.slice none 0 0, .int .i64 0, .int .i64 0]) (t := 31) ?hr ?_; (case hd => rfl); (case hg => rfl); (case hr => first | (go_simp; done) | (go_simp; rfl)); intro gb385 hg w4 hbox hb; have n0_ := Aside0.mk (below_step (zB7_0) hb); have n1_ := Aside0.mk (hbox); have n2_ := Aside0.mk ((by rw [hg]; exact (below_size (zB7_0)) : w.heap.size ≤ gb385)); have n3_ := Aside0.mk ((by rw [hg]; exact (below_size (zB7_0)) : w.heap.size ≤ gb385)); clear HB; have HB := n0_; have BK385 := n1_; have GW385 := n2_; have GE385 := n3_; clear n0_ n1_ n2_ n3_; clear hb hbox hg))
  have n0_ := Aside0.mk (blk_drew BK385.out)
  have n1_ := Aside0.mk (below_drew1 HB.out)
  clear BK385 HB
  have BK385 := n0_
  have HB := n1_
  clear n0_ n1_
  refine start_ (n := 5) (S := fun w' => True) (ds := []) #[false, false, false, false, false] (by kernel_rfl) rfl rfl trivial (fun hHeld => ?_)
  generalize w4.drew = w5 at BK385 HB hHeld ⊢
  refine pure_ (i := 1) (N := some 4) (v := ?_) (a' := ?_) #[false, true, false, false, false] rfl rfl (by kernel_rfl) (fun _ _ _ h => h) (Or.inl ⟨by rfl, ?_⟩) ?_ ?_
  rotate_left
  · intro w'
    go_simp
    with_reducible rfl
  rotate_left
  · simp only [Act.put, List.setIfInBounds_toArray, List.set_cons_zero, List.set_cons_succ, i64_w, i32_w]
    rfl
  refine join_ (σ := Value) 2 #[true, true, true, false, false] (fun s_ => [(3, s_), (5, .int .i64 t389)]) (fun s_ w' => (Kd.R (Kd.int .i64) 3 w' w.heap.size (fun _ => True) s_ y386) ∧ (w'.heap[gb385]? = some (.cells #[.slice none 0 0, .int .i64 0, .int .i64 0] 31 (0, 0))) ∧ (Below w.heap.size w w')) ?_ ?_
  rotate_left
  · intro hCont
    refine two_ (i := 0) (j := 2) (Ni := some 3) (Nj := some 5) #[true, true, false, false, false] #[false, true, true, false, false] rfl rfl rfl rfl (by kernel_rfl) (by decide) (by decide) (fun K hK => ?_) (fun K hK => ?_)
    · skip
      refine Kd.R_make_step (Kd.int .i64) _ 3 (by rfl) (N := 3) rfl 25 _ _ rfl 4 rfl rfl Try.underlying25 (.int .i64 0) 8 info3 rfl (by decide) (by omega) 0 (ok := fun _ => True) (okp := fun _ => True) rfl (fun _ hk => hk) trivial (by omega) (by omega) (Below.refl _ _) (Nat.le_refl _) ?_
      intro v387 w6 ho7 hb hg_ hnew_
      clear hg_ hnew_
      (first | rw [← Ny386.out] at ho7 | (simp only [Int.reduceToNat] at ho7; rw [← Ny386.out] at ho7))
      have n0_ := Aside0.mk (Kd.R_lower ho7 (below_size (zB7_1)))
      have n1_ := Aside0.mk (blk_below (g := gb385) (o := .cells #[.slice none 0 0, .int .i64 0, .int .i64 0] 31 (0, 0)) (zK7 BK385.out) hb)
      have n2_ := Aside0.mk (below_step (zB7_1) hb)
      clear BK385 HB
      have HO388 := n0_
      have BK385 := n1_
      have HB := n2_
      clear n0_ n1_ n2_ hb ho7
      refine hK.out _ _ trivial (fun hHeld => ?_)
      clear hK K
      refine norm_ (a' := ?_) ?_ ?_
      rotate_left
      · show Act.put _ (some 3) _ = _
        simp only [Act.put, List.setIfInBounds_toArray, List.set_cons_zero, List.set_cons_succ, i64_w, i32_w]
        rfl
      refine one_ (i := 2) (N := some 5) #[true, true, true, false, false] rfl rfl (by kernel_rfl) (by decide) (fun K hK => ?_)
      refine goes_ Try.func176 (by kernel_rfl) rfl #[.int .i64 a0] (by rfl) rfl rfl zT7 ?_
      with_reducible refine (spec_l9Address.calls a0 t389 _ A3.out).mono ?_
      rintro e w' ⟨rfl, ⟨nd, rfl⟩⟩
      refine ⟨_, rfl, ?_⟩
      obtain ⟨Ao8, co8, eo8⟩ := Kd.R_slice HO388.out
      (first | subst eo8 | (injection eo8 with f1_ f2_ f3_; have f4_ := f1_.symm; have f5_ := f3_.symm; clear f1_ f2_ f3_; subst f4_; subst f5_))
      refine hK.out _ _ trivial (fun hHeld => ?_)
      clear hK K
      refine norm_ (a' := ?_) ?_ ?_
      rotate_left
      · show Act.put _ (some 5) _ = _
        simp only [Act.put, List.setIfInBounds_toArray, List.set_cons_zero, List.set_cons_succ, i64_w, i32_w]
        rfl
      exact norm_ (by simp only [putAll, Act.put, List.setIfInBounds_toArray, List.set_cons_zero, List.set_cons_succ]) (hCont (.slice Ao8 y386.length co8) _ ⟨(zR7 HO388.out), (zK7 BK385.out), (zB7_1)⟩)
    · skip
      refine goes_ Try.func176 (by kernel_rfl) rfl #[.int .i64 a0] (by rfl) rfl rfl zT7 ?_
      with_reducible refine (spec_l9Address.calls a0 t389 _ A3.out).mono ?_
      rintro e w' ⟨rfl, ⟨nd, rfl⟩⟩
      refine ⟨_, rfl, ?_⟩
      refine hK.out _ _ trivial (fun hHeld => ?_)
      clear hK K
      refine norm_ (a' := ?_) ?_ ?_
      rotate_left
      · show Act.put _ (some 5) _ = _
        simp only [Act.put, List.setIfInBounds_toArray, List.set_cons_zero, List.set_cons_succ, i64_w, i32_w]
        rfl
      refine one_ (i := 0) (N := some 3) #[true, true, true, false, false] rfl rfl (by kernel_rfl) (by decide) (fun K hK => ?_)
      refine Kd.R_make_step (Kd.int .i64) _ 3 (by rfl) (N := 3) rfl 25 _ _ rfl 4 rfl rfl Try.underlying25 (.int .i64 0) 8 info3 rfl (by decide) (by omega) 0 (ok := fun _ => True) (okp := fun _ => True) rfl (fun _ hk => hk) trivial (by omega) (by omega) (Below.refl _ _) (Nat.le_refl _) ?_
      intro v387 w6 ho7 hb hg_ hnew_
      clear hg_ hnew_
      (first | rw [← Ny386.out] at ho7 | (simp only [Int.reduceToNat] at ho7; rw [← Ny386.out] at ho7))
      have n0_ := Aside0.mk (Kd.R_lower ho7 (below_size (zB7_1)))
      have n1_ := Aside0.mk (blk_below (g := gb385) (o := .cells #[.slice none 0 0, .int .i64 0, .int .i64 0] 31 (0, 0)) (zK7 BK385.out) hb)
      have n2_ := Aside0.mk (below_step (zB7_1) hb)
      clear BK385 HB
      have HO388 := n0_
      have BK385 := n1_
      have HB := n2_
      clear n0_ n1_ n2_ hb ho7
      obtain ⟨Ao8, co8, eo8⟩ := Kd.R_slice HO388.out
      (first | subst eo8 | (injection eo8 with f1_ f2_ f3_; have f4_ := f1_.symm; have f5_ := f3_.symm; clear f1_ f2_ f3_; subst f4_; subst f5_))
      refine hK.out _ _ trivial (fun hHeld => ?_)
      clear hK K
      refine norm_ (a' := ?_) ?_ ?_
      rotate_left
      · show Act.put _ (some 3) _ = _
        simp only [Act.put, List.setIfInBounds_toArray, List.set_cons_zero, List.set_cons_succ, i64_w, i32_w]
        rfl
      exact norm_ (by simp only [putAll, Act.put, List.setIfInBounds_toArray, List.set_cons_zero, List.set_cons_succ]) (hCont (.slice Ao8 y386.length co8) _ ⟨(zR7 HO388.out), (zK7 BK385.out), (zB7_1)⟩)
  rintro v387 w9 ⟨h0_, h1_, h2_⟩
  have n0_ : Aside0 (Kd.R (Kd.int .i64) 3 w9 w.heap.size (fun _ => True) v387 y386) := ⟨h0_⟩
  have n1_ : Aside0 (w9.heap[gb385]? = some (.cells #[.slice none 0 0, .int .i64 0, .int .i64 0] 31 (0, 0))) := ⟨h1_⟩
  have n2_ : Aside0 (Below w.heap.size w w9) := ⟨h2_⟩
  clear BK385 HB h0_ h1_ h2_
  have HO388 := n0_
  have BK385 := n1_
  have HB := n2_
  clear n0_ n1_ n2_
  have hHeld := trivial
  obtain ⟨Ao10, co10, eo10⟩ := Kd.R_slice HO388.out
  (first | subst eo10 | (injection eo10 with f1_ f2_ f3_; have f4_ := f1_.symm; have f5_ := f3_.symm; clear f1_ f2_ f3_; subst f4_; subst f5_))
  refine norm_ (a' := ?_) ?_ ?_
  rotate_left
  · simp only [putAll, Act.put, List.setIfInBounds_toArray, List.set_cons_zero, List.set_cons_succ]
    rfl
  refine pure_ (i := 3) (N := some 6) (v := ?_) (a' := ?_) #[true, true, true, true, false] rfl rfl (by kernel_rfl) (fun _ _ _ h => h) (Or.inl ⟨by rfl, ?_⟩) ?_ ?_
  rotate_left
  · intro w'
    go_simp
    with_reducible rfl
  rotate_left
  · simp only [Act.put, List.setIfInBounds_toArray, List.set_cons_zero, List.set_cons_succ, i64_w, i32_w]
    rfl
  refine one_ (i := 4) (N := none) #[true, true, true, true, true] rfl rfl (by kernel_rfl) (by decide) (fun K hK => ?_)
  have hs11 : w9.cell? ⟨gb385, 0, none⟩ = some (.slice none 0 0) := (blk_cell BK385.out 0).trans rfl
  have hfs11 := blk_frozen BK385.out 0
  have hs12 : w9.cell? ⟨gb385, 1, none⟩ = some (.int .i64 0) := (blk_cell BK385.out 1).trans rfl
  have hfs12 := blk_frozen BK385.out 1
  have hs13 : w9.cell? ⟨gb385, 2, none⟩ = some (.int .i64 0) := (blk_cell BK385.out 2).trans rfl
  have hfs13 := blk_frozen BK385.out 2
  refine skip_ (w1 := ?_) (by rfl) rfl ?_ ?_
  rotate_left
  · go_simp
    rfl
  refine hK.out _ _ trivial (fun hHeld => ?_)
  clear hK K
  refine done_ (by kernel_rfl) ?_
  try go_wp2
  refine bodyPost_ret (results_cell_row rfl _ _ gb385 31 #[.slice Ao10 y386.length co10, .int .i64 t389, .int .i64 0] (0, 0) _ rfl (by (with_reducible repeat (first | refine blk_drewN ?_ _ | refine blk_drew ?_ | refine blk_alloc ?_ _)); refine blk_put (cs := #[.slice Ao10 y386.length co10, .int .i64 t389, .int .i64 0]) ?_ 2 _ rfl; (with_reducible repeat (first | refine blk_drewN ?_ _ | refine blk_drew ?_ | refine blk_alloc ?_ _)); refine blk_put (cs := #[.slice Ao10 y386.length co10, .int .i64 0, .int .i64 0]) ?_ 1 _ rfl; (with_reducible repeat (first | refine blk_drewN ?_ _ | refine blk_drew ?_ | refine blk_alloc ?_ _)); refine blk_put (cs := #[.slice none 0 0, .int .i64 0, .int .i64 0]) ?_ 0 _ rfl; (with_reducible repeat (first | refine blk_drewN ?_ _ | refine blk_drew ?_ | refine blk_alloc ?_ _)); exact BK385.out) Try.underlying31 rfl (by kernel_rfl)) rfl ?_
  exact ⟨_, zE7, by (with_reducible repeat (first | apply Kd.R_alloc | apply Kd.R_drewN | apply Kd.R_drew)); exact Kd.R_mono (Kd.R_far (p := ⟨gb385, 2, none⟩) (Kd.R_far (p := ⟨gb385, 1, none⟩) (Kd.R_far (p := ⟨gb385, 0, none⟩) (Kd.R_types HO388.out BK385.out (by decide)) (fun _ hk => hk.2) (.slice Ao10 y386.length co10)) (fun _ hk => hk.2) (.int .i64 t389)) (fun _ hk => hk.2) (.int .i64 0)) (fun _ hk => trivial), zB7_1⟩

/-! ### spec_DrawAllHalt: function 51 -/
def spec_DrawAllHalt.l0 : Nat → List (S31) → Int → List Int → Int → Int → Option ((List (S31)))
  | 0, _, _, _, _, _ => none
  | k + 1, x4, x5, x394000, x394001, x394002 => (spec_l1Below.f x394000 x394001 x394002 3).bind fun bt397 => (if x5 < bt397.1 then ((spec_HartNew.f 0).bind fun bt400 => ((spec_l1PickInt.f x394000 bt397.2.1 bt397.2.2 (([1, 1, 1, 0, 2] : List Int))).bind fun bt409 => (if x4.length < 3518437208883 then (spec_DrawAllHalt.l0 k (x4 ++ [(⟨bt400.1, bt400.2.1, bt409.1⟩ : S31)]) (wrap64 (x5 + 1)) x394000 bt409.2.1 bt409.2.2) else (none)))) else (some x4))
def spec_DrawAllHalt.f (k : Nat) (l0 : List Int) : Option ((List (S31))) := (spec_l1New.f k l0).bind fun bt390 => (spec_DrawAllHalt.l0 k (([] : List (S31))) 0 bt390.1 bt390.2.1 bt390.2.2)
theorem spec_DrawAllHalt.mono_l : ∀ k, (∀ y0 y1 y2 y3 y4, LeO (spec_DrawAllHalt.l0 k y0 y1 y2 y3 y4) (spec_DrawAllHalt.l0 (k + 1) y0 y1 y2 y3 y4))
  | 0 => fun _ _ _ _ _ r h => by simp [spec_DrawAllHalt.l0] at h
  | k + 1 => by
    have ih0 := spec_DrawAllHalt.mono_l k
    · intro y0 y1 y2 y3 y4
      unfold spec_DrawAllHalt.l0
      repeat' first
      | (with_reducible exact ih0 _ _ _ _ _)
      | (with_reducible exact spec_l1New.mono _ _)
      | (with_reducible exact LeO.refl _)
      | (with_reducible exact LeO.none _)
      | (with_reducible refine LeO.ite ?_ ?_)
      | (with_reducible refine LeO.bind ?_ (fun _ => ?_))
      | exact ih0 _ _ _ _ _
      | exact spec_l1New.mono _ _
      | exact LeO.none _
      | refine LeO.ite ?_ ?_
      | refine LeO.bind ?_ (fun _ => ?_)
theorem spec_DrawAllHalt.mono : ∀ a0 k, LeO (spec_DrawAllHalt.f k a0) (spec_DrawAllHalt.f (k + 1) a0) := by
  intro a0 k
  have ih0 := spec_DrawAllHalt.mono_l k
  unfold spec_DrawAllHalt.f
  repeat' first
      | (with_reducible exact ih0 _ _ _ _ _)
      | (with_reducible exact spec_l1New.mono _ _)
      | (with_reducible exact LeO.refl _)
      | (with_reducible exact LeO.none _)
      | (with_reducible refine LeO.ite ?_ ?_)
      | (with_reducible refine LeO.bind ?_ (fun _ => ?_))
      | exact ih0 _ _ _ _ _
      | exact spec_l1New.mono _ _
      | exact LeO.none _
      | refine LeO.ite ?_ ?_
      | refine LeO.bind ?_ (fun _ => ?_)
set_option maxHeartbeats 8000000 in
set_option maxRecDepth 100000 in
theorem spec_DrawAllHalt.calls (k : Nat) (A0 : Option Addr) (c0 : Nat) (l0 : List Int) (r : List (S31)) (w : World) (hr0 : Kd.C (Kd.int .u8) w A0 l0.length l0) (hc0 : l0.length ≤ c0) (h : spec_DrawAllHalt.f k l0 = some r) :
    Calls Try.prog 51 #[.slice A0 l0.length c0] w fun e w' => ∃ v0_ : Value, e = .returned (v0_) ∧ Kd.S k31 31 w' w.heap.size (fun _ => True) v0_ r ∧ Below w.heap.size w w' := by
  have hu31 := Try.underlying31
  have HR0 := Aside0.mk hr0
  have HC0 := Aside0.mk hc0
  clear hr0 hc0
  have HB := Aside0.mk (Below.refl w.heap.size w)
  have H : ((spec_l1New.f k l0).bind fun bt390 => (spec_DrawAllHalt.l0 k (([] : List (S31))) 0 bt390.1 bt390.2.1 bt390.2.2)) = some r := h
  clear h
  replace H := Option.bind_eq_some_iff.mp H
  obtain ⟨⟨t390, t391, t392⟩, A20, H⟩ := H
  replace H : (spec_DrawAllHalt.l0 k (([] : List (S31))) 0 t390 t391 t392) = some r := H
  have A2 := Aside0.mk A20
  clear A20
  obtain ⟨y394, hy394⟩ : ∃ y_ : List (S31), y_ = (([] : List (S31))) := ⟨_, rfl⟩
  replace H : (spec_DrawAllHalt.l0 k y394 0 t390 t391 t392) = some r := by first | (rw [hy394]; with_reducible exact H) | (have H2_ := (Option.bind_some _ _).symm.trans H; rw [hy394]; with_reducible exact H2_) | (have H2_ := (Option.bind_some _ _).symm.trans H; with_reducible exact H2_) | with_reducible exact H | (rw [hy394]; exact H) | exact H
  have Ny394 := Aside0.mk hy394
  clear hy394
  have H' := Aside0.mk H
  clear H
  go_enter Try.func51, Try.ntmps51
  go_wp2_with (first | ((with_reducible refine gate_callee (f := 112) rfl ?_); refine goesL_ (some 8) rfl rfl Try.func112 (by kernel_rfl) rfl #[.slice A0 l0.length c0] rfl zT7 ?_; (with_reducible refine (spec_l1New.calls k _ _ l0 t390 t391 t392 w _ ?side1 ?side2 ?side3 A2.out).mono ?_); (case side1 => repeat (first | (with_reducible first | exact HB.out | apply below_alloc | apply pw_below_drewN | apply below_drew1) | exact HB.out)); (case side2 => exact HR0.out); (case side3 => exact HC0.out); rintro e w3 ⟨g393, rfl, hi, hb, hb2⟩; refine ⟨_, rfl, ?_⟩; have n0_ := Aside0.mk (hb); have n1_ := Aside0.mk (hi); clear HB; have HB := n0_; have HI393 := n1_; clear n0_ n1_; (try clear hb); (try clear hb2); (try clear hk); (try clear hi)) | ((with_reducible refine gate_dst (N := 9) rfl ?_); refine Kd.S_lit k31 _ 31 ?hg (N := 9) ?hd (xs := ([] : List (S31))) (inner := []) (ok := fun _ => True) (okp := fun _ => True) ?hr ?hp (fun _ hk => hk) trivial (Below.refl _ _) (Nat.le_refl _) (by simp) ?_; (case hd => rfl); (case hg => rfl); (case hr => first | (go_simp; done) | (go_simp; rfl)); (case hp => exact (Reps.none _ _)); intro v395 w4 ho5 hb hg_ hnew_; clear hg_ hnew_; (first | rw [← Ny394.out] at ho5 | (simp only [Int.reduceToNat] at ho5; rw [← Ny394.out] at ho5)); have n0_ := Aside0.mk (Kd.S_lower ho5 (below_size (by repeat (first | (with_reducible first | exact HB.out | apply below_alloc | apply pw_below_drewN | apply below_drew1 | refine below_set ?_ (IsS174.ge HI393.out)) | exact HB.out)))); have n1_ := Aside0.mk (IsS174.below (zB7_2) hb); have n2_ := Aside0.mk (below_step (by repeat (first | (with_reducible first | exact HB.out | apply below_alloc | apply pw_below_drewN | apply below_drew1 | refine below_set ?_ (IsS174.ge HI393.out)) | exact HB.out)) hb); clear HI393; clear HB; have HO396 := n0_; have HI393 := n1_; have HB := n2_; clear n0_ n1_ n2_; clear hb ho5))
  go_loopg [4, 5] k (fun kq v4 v5 w' => ∃ (x4_1 : List (S31)) (x5_1 : Int) (x394001_1 : Int) (x394002_1 : Int), v5 = .int .i64 x5_1 ∧ Aside0 (spec_DrawAllHalt.l0 kq x4_1 x5_1 t390 x394001_1 x394002_1 = some r) ∧ Aside0 (kq ≤ k) ∧ Aside0 (Kd.S k31 31 w' w.heap.size (fun _ => True) v4 x4_1) ∧ Aside0 (IsS174 w w' g393 t390 x394001_1 x394002_1) ∧ Aside0 (Below w.heap.size w w'))
  case atStart => exact ⟨(y394), (0), (t391), (t392), (by first | rfl | (simp; done) | (simp [*]; done)), H', ⟨Nat.le_refl _⟩, ⟨by (with_reducible repeat (first | apply Kd.S_alloc | apply Kd.S_drewN | apply Kd.S_drew)); exact HO396.out⟩, ⟨zB7_2⟩, ⟨by repeat (first | (with_reducible first | exact HB.out | apply below_alloc | apply pw_below_drewN | apply below_drew1 | refine below_set ?_ (IsS174.ge HI393.out)) | exact HB.out)⟩⟩
  case round =>
    clear H'
    try clear c1
    try clear p2
    try clear c5
    obtain ⟨x4_1, x5_1, x394001_1, x394002_1, rfl, HA, HK1, HO_4, HI393, HB⟩ := hrel
    cases gk with
    | zero => exact absurd HA.out (by simp [spec_DrawAllHalt.l0])
    | succ k1 =>
      have H := HA.out
      clear HA
      simp only [spec_DrawAllHalt.l0] at H
      replace H := Option.bind_eq_some_iff.mp H
      obtain ⟨⟨t397, t398, t399⟩, A60, H⟩ := H
      replace H : (if x5_1 < t397 then ((spec_HartNew.f 0).bind fun bt400 => ((spec_l1PickInt.f t390 t398 t399 (([1, 1, 1, 0, 2] : List Int))).bind fun bt409 => (if x4_1.length < 3518437208883 then (spec_DrawAllHalt.l0 k1 (x4_1 ++ [(⟨bt400.1, bt400.2.1, bt409.1⟩ : S31)]) (wrap64 (x5_1 + 1)) t390 bt409.2.1 bt409.2.2) else (none)))) else (some x4_1)) = some r := H
      have A6 := Aside0.mk A60
      clear A60
      by_cases c7 : x5_1 < t397
      rotate_left
      · rw [if_neg c7] at H
        have c7b0 : decide (x5_1 < t397) = false := decide_eq_false c7
        clear c7
        obtain rfl := Option.some.inj H
        go_wp2_with (first | ((with_reducible refine gate_callee (f := 123) rfl ?_); refine goesL_ (some 12) rfl rfl Try.func123 (by kernel_rfl) rfl #[.pointer (some ⟨g393, 0, none⟩), .int .i64 3] rfl zT7 ?_; (with_reducible refine (spec_l1Below.calls g393 t390 x394001_1 x394002_1 3 t397 t398 t399 w _ ?side1 ?side2 A6.out).mono ?_); (case side1 => repeat (first | (with_reducible first | exact HI393.out | apply IsS174.alloc | apply IsS174.drewN | apply IsS174.drew | apply IsS174.set_1 | apply IsS174.set_2) | exact HI393.out)); (case side2 => repeat (first | (with_reducible first | exact HB.out | apply below_alloc | apply pw_below_drewN | apply below_drew1 | refine below_set ?_ (IsS174.ge HI393.out)) | exact HB.out)); rintro e w25 ⟨rfl, hi, hb, hk⟩; refine ⟨_, rfl, ?_⟩; have n0_ := Aside0.mk (Kd.S_mono (Kd.S_keep (IsS174.apartS (show IsS174 w _ g393 t390 x394001_1 x394002_1 from zB7_2) (by (with_reducible repeat (first | apply Kd.S_alloc | apply Kd.S_drewN | apply Kd.S_drew)); exact HO_4.out) (by decide)) hk (fun _ h => h.2)) (fun _ h => h.1)); have n1_ := Aside0.mk (hb); have n2_ := Aside0.mk (hi); clear HO_4; clear HB; clear HI393; have HO_4 := n0_; have HB := n1_; have HI393 := n2_; clear n0_ n1_ n2_; (try clear hb); (try clear hb2); (try clear hk); (try clear hi)))
        go_ret
        exact ⟨_, zE7, by (with_reducible repeat (first | apply Kd.S_alloc | apply Kd.S_drewN | apply Kd.S_drew)); exact HO_4.out, by repeat (first | (with_reducible first | exact HB.out | apply below_alloc | apply pw_below_drewN | apply below_drew1 | refine below_set ?_ (IsS174.ge HI393.out)) | exact HB.out)⟩
      rw [if_pos c7] at H
      have c7b0 : decide (x5_1 < t397) = true := decide_eq_true c7
      clear c7
      replace H := Option.bind_eq_some_iff.mp H
      obtain ⟨⟨t400, t403, t404⟩, A80, H⟩ := H
      replace H : ((spec_l1PickInt.f t390 t398 t399 (([1, 1, 1, 0, 2] : List Int))).bind fun bt409 => (if x4_1.length < 3518437208883 then (spec_DrawAllHalt.l0 k1 (x4_1 ++ [(⟨t400, t403, bt409.1⟩ : S31)]) (wrap64 (x5_1 + 1)) t390 bt409.2.1 bt409.2.2) else (none))) = some r := H
      have A8 := Aside0.mk A80
      clear A80
      obtain ⟨y406, hy406⟩ : ∃ y_ : List Int, y_ = (([1, 1, 1, 0, 2] : List Int)) := ⟨_, rfl⟩
      replace H : ((spec_l1PickInt.f t390 t398 t399 y406).bind fun bt409 => (if x4_1.length < 3518437208883 then (spec_DrawAllHalt.l0 k1 (x4_1 ++ [(⟨t400, t403, bt409.1⟩ : S31)]) (wrap64 (x5_1 + 1)) t390 bt409.2.1 bt409.2.2) else (none))) = some r := by first | (rw [hy406]; with_reducible exact H) | (have H2_ := (Option.bind_some _ _).symm.trans H; rw [hy406]; with_reducible exact H2_) | (have H2_ := (Option.bind_some _ _).symm.trans H; with_reducible exact H2_) | with_reducible exact H | (rw [hy406]; exact H) | exact H
      have Ny406 := Aside0.mk hy406
      clear hy406
      replace H := Option.bind_eq_some_iff.mp H
      obtain ⟨⟨t409, t410, t411⟩, A90, H⟩ := H
      replace H : (if x4_1.length < 3518437208883 then (spec_DrawAllHalt.l0 k1 (x4_1 ++ [(⟨t400, t403, t409⟩ : S31)]) (wrap64 (x5_1 + 1)) t390 t410 t411) else (none)) = some r := H
      have A9 := Aside0.mk A90
      clear A90
      by_cases c10 : x4_1.length < 3518437208883
      rotate_left
      · rw [if_neg c10] at H
        exact absurd H (by simp)
      rw [if_pos c10] at H
      have LMc10 := Aside0.mk c10
      clear c10
      obtain ⟨y412, hy412⟩ : ∃ y_ : List (S31), y_ = (x4_1 ++ [(⟨t400, t403, t409⟩ : S31)]) := ⟨_, rfl⟩
      replace H : (spec_DrawAllHalt.l0 k1 y412 (wrap64 (x5_1 + 1)) t390 t410 t411) = some r := by first | (rw [hy412]; with_reducible exact H) | (have H2_ := (Option.bind_some _ _).symm.trans H; rw [hy412]; with_reducible exact H2_) | (have H2_ := (Option.bind_some _ _).symm.trans H; with_reducible exact H2_) | with_reducible exact H | (rw [hy412]; exact H) | exact H
      have Ny412 := Aside0.mk hy412
      clear hy412
      have H' := Aside0.mk H
      clear H
      go_wp2_with (first | ((with_reducible refine gate_callee (f := 123) rfl ?_); refine goesL_ (some 12) rfl rfl Try.func123 (by kernel_rfl) rfl #[.pointer (some ⟨g393, 0, none⟩), .int .i64 3] rfl zT7 ?_; (with_reducible refine (spec_l1Below.calls g393 t390 x394001_1 x394002_1 3 t397 t398 t399 w _ ?side1 ?side2 A6.out).mono ?_); (case side1 => repeat (first | (with_reducible first | exact HI393.out | apply IsS174.alloc | apply IsS174.drewN | apply IsS174.drew | apply IsS174.set_1 | apply IsS174.set_2) | exact HI393.out)); (case side2 => repeat (first | (with_reducible first | exact HB.out | apply below_alloc | apply pw_below_drewN | apply below_drew1 | refine below_set ?_ (IsS174.ge HI393.out)) | exact HB.out)); rintro e w11 ⟨rfl, hi, hb, hk⟩; refine ⟨_, rfl, ?_⟩; have n0_ := Aside0.mk (Kd.S_mono (Kd.S_keep (IsS174.apartS (show IsS174 w _ g393 t390 x394001_1 x394002_1 from zB7_2) (by (with_reducible repeat (first | apply Kd.S_alloc | apply Kd.S_drewN | apply Kd.S_drew)); exact HO_4.out) (by decide)) hk (fun _ h => h.2)) (fun _ h => h.1)); have n1_ := Aside0.mk (hb); have n2_ := Aside0.mk (hi); clear HO_4; clear HB; clear HI393; have HO_4 := n0_; have HB := n1_; have HI393 := n2_; clear n0_ n1_ n2_; (try clear hb); (try clear hb2); (try clear hk); (try clear hi)) | ((with_reducible refine gate_callee (f := 130) rfl ?_); refine goesL_ (some 16) rfl rfl Try.func130 (by kernel_rfl) rfl #[.int .i64 0] rfl zT7 ?_; (with_reducible refine (spec_HartNew.calls 0 t400 t403 t404 _ A8.out).mono ?_); rintro e w12 ⟨v401, rfl, ho0, hb⟩; refine ⟨_, rfl, ?_⟩; have n0_ := Aside0.mk (Kd.S_elder' (by (with_reducible repeat (first | apply Kd.S_alloc | apply Kd.S_drewN | apply Kd.S_drew)); exact HO_4.out) (Kd.R_base ho0) hb); have n1_ := Aside0.mk (Kd.R_lower ho0 (below_size (by repeat (first | (with_reducible first | exact HB.out | apply below_alloc | apply pw_below_drewN | apply below_drew1 | refine below_set ?_ (IsS174.ge HI393.out)) | exact HB.out)))); have n2_ := Aside0.mk (IsS174.below (zB7_2) hb); have n3_ := Aside0.mk (below_step (by repeat (first | (with_reducible first | exact HB.out | apply below_alloc | apply pw_below_drewN | apply below_drew1 | refine below_set ?_ (IsS174.ge HI393.out)) | exact HB.out)) hb); clear HO_4; clear HI393; clear HB; have HO_4 := n0_; have HO402 := n1_; have HI393 := n2_; have HB := n3_; clear n0_ n1_ n2_ n3_; (try clear hb); (try clear hb2); (try clear hk); (try clear hi); (try clear ho0)) | ((with_reducible refine gate_dst (N := 6) rfl ?_); refine box_event ?hg (N := 6) ?hd (cs := #[.slice none 0 0, .int .i64 0, .int .i64 0]) (t := 31) ?hr ?_; (case hd => rfl); (case hg => rfl); (case hr => first | (go_simp; done) | (go_simp; rfl)); intro gb405 hg w13 hbox hb; have n0_ := Aside0.mk (Kd.S_below (Kd.S_elderB (by (with_reducible repeat (first | apply Kd.S_alloc | apply Kd.S_drewN | apply Kd.S_drew)); exact HO_4.out) gb405 (Nat.le_of_eq hg.symm)) hb); have n1_ := Aside0.mk (Kd.R_below (zR7 HO402.out) hb); have n2_ := Aside0.mk (IsS174.below (zB7_2) hb); have n3_ := Aside0.mk (below_step (by repeat (first | (with_reducible first | exact HB.out | apply below_alloc | apply pw_below_drewN | apply below_drew1 | refine below_set ?_ (IsS174.ge HI393.out)) | exact HB.out)) hb); have n4_ := Aside0.mk (hbox); have n5_ := Aside0.mk ((by rw [hg]; exact (below_size (by repeat (first | (with_reducible first | exact HB.out | apply below_alloc | apply pw_below_drewN | apply below_drew1 | refine below_set ?_ (IsS174.ge HI393.out)) | exact HB.out))) : w.heap.size ≤ gb405)); have n6_ := Aside0.mk ((by rw [hg]; exact (below_size (by repeat (first | (with_reducible first | exact HB.out | apply below_alloc | apply pw_below_drewN | apply below_drew1 | refine below_set ?_ (IsS174.ge HI393.out)) | exact HB.out))) : w.heap.size ≤ gb405)); have n7_ := Aside0.mk ((by rw [hg]; exact Nat.ne_of_lt (IsS174.lt (show IsS174 w _ g393 t390 t398 t399 from zB7_2)) : g393 ≠ gb405)); have n8_ := Aside0.mk ((by rw [hg]; exact Nat.ne_of_gt (IsS174.lt (show IsS174 w _ g393 t390 t398 t399 from zB7_2)) : gb405 ≠ g393)); clear HO_4; clear HO402; clear HI393; clear HB; have HO_4 := n0_; have HO402 := n1_; have HI393 := n2_; have HB := n3_; have BK405 := n4_; have GW405 := n5_; have GE405 := n6_; have NB393_405 := n7_; have NB405_393 := n8_; clear n0_ n1_ n2_ n3_ n4_ n5_ n6_ n7_ n8_; clear hb hbox hg; obtain ⟨Ao14, co14, eo14⟩ := Kd.R_slice HO402.out; subst eo14; have hnb15 := NB405_393.out; have hnc15 := NB393_405.out; have hcz16_0 : w13.cell? ⟨gb405, 0, none⟩ = some (.slice none 0 0) := (blk_cell BK405.out 0).trans rfl; have hcz16_1 : w13.cell? ⟨gb405, 1, none⟩ = some (.int .i64 0) := (blk_cell BK405.out 1).trans rfl; have hcz16_2 : w13.cell? ⟨gb405, 2, none⟩ = some (.int .i64 0) := (blk_cell BK405.out 2).trans rfl; have hfz16_0 := blk_frozen BK405.out 0; have hfz16_1 := blk_frozen BK405.out 1; have hfz16_2 := blk_frozen BK405.out 2) | ((with_reducible refine gate_dst (N := 18) rfl ?_); refine Kd.R_lit (Kd.int .i64) _ 3 ?hg (N := 18) ?hd (xs := ([1, 1, 1, 0, 2] : List Int)) (inner := [.int .i64 1, .int .i64 1, .int .i64 1, .int .i64 0, .int .i64 2]) (ok := fun _ => True) (okp := fun _ => True) ?hr ?hp (fun _ hk => hk) trivial (Below.refl _ _) (Nat.le_refl _) (by simp) ?_; (case hd => rfl); (case hg => rfl); (case hr => first | (go_simp; done) | (go_simp; rfl)); (case hp => exact (Reps.one (show Kd.M (Kd.int .i64) _ _ _ 1 [.int .i64 1] from rfl) (Reps.one (show Kd.M (Kd.int .i64) _ _ _ 1 [.int .i64 1] from rfl) (Reps.one (show Kd.M (Kd.int .i64) _ _ _ 1 [.int .i64 1] from rfl) (Reps.one (show Kd.M (Kd.int .i64) _ _ _ 0 [.int .i64 0] from rfl) (Reps.one (show Kd.M (Kd.int .i64) _ _ _ 2 [.int .i64 2] from rfl) (Reps.none _ _))))))); intro v407 w17 ho18 hb hg_ hnew_; clear hg_ hnew_; (first | rw [← Ny406.out] at ho18 | (simp only [Int.reduceToNat] at ho18; rw [← Ny406.out] at ho18)); have n0_ := Aside0.mk (Kd.S_elder' (by (with_reducible repeat (first | apply Kd.S_alloc | apply Kd.S_drewN | apply Kd.S_drew)); exact (Kd.S_mono (Kd.S_far (p := ⟨gb405, 2, none⟩) (Kd.S_far (p := ⟨gb405, 1, none⟩) (Kd.S_far (p := ⟨gb405, 0, none⟩) (Kd.S_mono HO_4.out (fun k_ hk => (⟨hk, hk.2⟩ : _ ∧ k_ ≠ gb405))) (fun _ hk => hk.2) (.slice Ao14 t400.length co14)) (fun _ hk => hk.2) (.int .i64 t403)) (fun _ hk => hk.2) (.int .i64 t404)) (fun _ h_ => h_.1))) (Kd.R_base ho18) hb); have n1_ := Aside0.mk (Kd.R_elder' (by (with_reducible repeat (first | apply Kd.R_alloc | apply Kd.R_drewN | apply Kd.R_drew)); exact (Kd.R_mono (Kd.R_far (p := ⟨gb405, 2, none⟩) (Kd.R_far (p := ⟨gb405, 1, none⟩) (Kd.R_far (p := ⟨gb405, 0, none⟩) (Kd.R_types HO402.out BK405.out (by decide)) (fun _ hk => hk.2) (.slice Ao14 t400.length co14)) (fun _ hk => hk.2) (.int .i64 t403)) (fun _ hk => hk.2) (.int .i64 t404)) (fun _ h_ => h_.1))) (Kd.R_base ho18) hb); have n2_ := Aside0.mk (Kd.R_lower (Kd.R_new' ho18 (Kd.R_lt (by (with_reducible repeat (first | apply Kd.R_alloc | apply Kd.R_drewN | apply Kd.R_drew)); exact (Kd.R_mono (Kd.R_far (p := ⟨gb405, 2, none⟩) (Kd.R_far (p := ⟨gb405, 1, none⟩) (Kd.R_far (p := ⟨gb405, 0, none⟩) (Kd.R_types HO402.out BK405.out (by decide)) (fun _ hk => hk.2) (.slice Ao14 t400.length co14)) (fun _ hk => hk.2) (.int .i64 t403)) (fun _ hk => hk.2) (.int .i64 t404)) (fun _ h_ => h_.1))))) (below_size (by repeat (first | (with_reducible first | exact HB.out | apply below_alloc | apply pw_below_drewN | apply below_drew1 | refine below_set ?_ (IsS174.ge HI393.out) | refine below_set ?_ GE405.out) | exact HB.out)))); have n3_ := Aside0.mk (IsS174.below (show IsS174 w (((w13.setCell ⟨gb405, 0, none⟩ (.slice Ao14 t400.length co14)).setCell ⟨gb405, 1, none⟩ (.int .i64 t403)).setCell ⟨gb405, 2, none⟩ (.int .i64 t404)) g393 t390 t398 t399 from zB7_3) hb); have n4_ := Aside0.mk (blk_below (g := gb405) (o := .cells #[.slice Ao14 t400.length co14, .int .i64 t403, .int .i64 t404] 31 (0, 0)) (by (with_reducible repeat (first | refine blk_drewN ?_ _ | refine blk_drew ?_ | refine blk_alloc ?_ _)); refine blk_put (cs := #[.slice Ao14 t400.length co14, .int .i64 t403, .int .i64 0]) ?_ 2 _ rfl; (with_reducible repeat (first | refine blk_drewN ?_ _ | refine blk_drew ?_ | refine blk_alloc ?_ _)); refine blk_put (cs := #[.slice Ao14 t400.length co14, .int .i64 0, .int .i64 0]) ?_ 1 _ rfl; (with_reducible repeat (first | refine blk_drewN ?_ _ | refine blk_drew ?_ | refine blk_alloc ?_ _)); refine blk_put (cs := #[.slice none 0 0, .int .i64 0, .int .i64 0]) ?_ 0 _ rfl; (with_reducible repeat (first | refine blk_drewN ?_ _ | refine blk_drew ?_ | refine blk_alloc ?_ _)); exact BK405.out) hb); have n5_ := Aside0.mk (below_step (by repeat (first | (with_reducible first | exact HB.out | apply below_alloc | apply pw_below_drewN | apply below_drew1 | refine below_set ?_ (IsS174.ge HI393.out) | refine below_set ?_ GE405.out) | exact HB.out)) hb); clear HO_4; clear HO402; clear HI393; clear BK405; clear HB; have HO_4 := n0_; have HO402 := n1_; have HO408 := n2_; have HI393 := n3_; have BK405 := n4_; have HB := n5_; clear n0_ n1_ n2_ n3_ n4_ n5_; clear hb ho18; obtain ⟨Ao19, co19, eo19⟩ := Kd.R_slice HO408.out; subst eo19) | ((with_reducible refine gate_callee (f := 114) rfl ?_); refine goesL_ (some 19) rfl rfl Try.func114 (by kernel_rfl) rfl #[.pointer (some ⟨g393, 0, none⟩), .slice Ao19 y406.length co19] rfl zT7 ?_; (with_reducible refine (spec_l1PickInt.calls g393 t390 t398 t399 _ _ y406 t409 t410 t411 w _ ?side1 ?side2 ?side3 ?side4 ?side5 A9.out).mono ?_); (case side1 => repeat (first | (with_reducible first | exact HI393.out | apply IsS174.alloc | apply IsS174.drewN | apply IsS174.drew | apply IsS174.set_1 | apply IsS174.set_2 | refine IsS174.far ?_ NB393_405.out _) | exact HI393.out)); (case side2 => repeat (first | (with_reducible first | exact HB.out | apply below_alloc | apply pw_below_drewN | apply below_drew1 | refine below_set ?_ (IsS174.ge HI393.out) | refine below_set ?_ GE405.out) | exact HB.out)); (case side3 => repeat (first | exact (Kd.R_reads' HO408.out).2.2 | (with_reducible refine Kd.C_alloc ?_ _) | (with_reducible refine Kd.C_drewN ?_ _) | (with_reducible refine Kd.C_drew ?_))); (case side4 => exact (Kd.R_reads' HO408.out).2.1); (case side5 => exact far_slice (IsS174.own_ne HI393.out HO408.out (by decide))); rintro e w20 ⟨rfl, hi, hb, hk⟩; refine ⟨_, rfl, ?_⟩; have n0_ := Aside0.mk (Kd.S_mono (Kd.S_keep (IsS174.apartS (show IsS174 w _ g393 t390 t398 t399 from zB7_3) (by (with_reducible repeat (first | apply Kd.S_alloc | apply Kd.S_drewN | apply Kd.S_drew)); exact HO_4.out) (by decide)) hk (fun _ h => h.2)) (fun _ h => h.1)); have n1_ := Aside0.mk (Kd.R_mono (Kd.R_keep (IsS174.apart (show IsS174 w _ g393 t390 t398 t399 from zB7_3) (zR7 HO402.out) (by decide)) hk (fun _ h => h.2)) (fun _ h => h.1)); have n2_ := Aside0.mk (KeepBut.blk hk (g' := gb405) (o := .cells #[.slice Ao14 t400.length co14, .int .i64 t403, .int .i64 t404] 31 (0, 0)) (zK7 BK405.out) NB405_393.out (by simp)); have n3_ := Aside0.mk (Kd.R_mono (Kd.R_keep (IsS174.apart (show IsS174 w _ g393 t390 t398 t399 from zB7_3) (zR7 HO408.out) (by decide)) hk (fun _ h => h.2)) (fun _ h => h.1)); have n4_ := Aside0.mk (hb); have n5_ := Aside0.mk (hi); clear HO_4; clear HO402; clear BK405; clear HO408; clear HB; clear HI393; have HO_4 := n0_; have HO402 := n1_; have BK405 := n2_; have HO408 := n3_; have HB := n4_; have HI393 := n5_; clear n0_ n1_ n2_ n3_ n4_ n5_; (try clear hb); (try clear hb2); (try clear hk); (try clear hi); have hcz21_0 : w20.cell? ⟨gb405, 0, none⟩ = some (.slice Ao14 t400.length co14) := (blk_cell BK405.out 0).trans rfl; have hcz21_1 : w20.cell? ⟨gb405, 1, none⟩ = some (.int .i64 t403) := (blk_cell BK405.out 1).trans rfl; have hcz21_2 : w20.cell? ⟨gb405, 2, none⟩ = some (.int .i64 t404) := (blk_cell BK405.out 2).trans rfl; have hfz21_0 := blk_frozen BK405.out 0; have hfz21_1 := blk_frozen BK405.out 1; have hfz21_2 := blk_frozen BK405.out 2) | ((with_reducible refine gate_store (t := 3) (p := 20) rfl ?_); refine store_event (t := 3) (p := 20) (v := ?vo_w22) (w1 := (w20.setCell ⟨gb405, 2, none⟩ (.int .i64 t409))) ?hg ?ho ?hn ?hr ?_; (case ho => rfl); (case hg => rfl); (case hn => rfl); (case hr => first | (go_simp; done) | (go_simp; rfl)); intro w22 hw; have n0_ : Aside0 (Kd.S k31 31 w22 w.heap.size (fun k_ => some k_ ≠ (.slice Ao14 t400.length co14 : Value).ownBlock ∧ some k_ ≠ (.slice Ao19 y406.length co19 : Value).ownBlock ∧ k_ ≠ gb405) u4 x4_1) := ⟨(by rw [hw]; exact (by (with_reducible repeat (first | apply Kd.S_alloc | apply Kd.S_drewN | apply Kd.S_drew)); exact Kd.S_mono (Kd.S_far (p := ⟨gb405, 2, none⟩) (Kd.S_mono HO_4.out (fun k_ hk => (⟨hk, hk.1.2⟩ : _ ∧ k_ ≠ gb405))) (fun _ hk => hk.2) (.int .i64 t409)) (fun _ hk => ⟨hk.1.1.1.2, ⟨hk.1.2, hk.1.1.2⟩⟩)))⟩; have n1_ : Aside0 (Kd.R (Kd.int .i64) 3 w22 w.heap.size (fun k_ => some k_ ≠ (.slice Ao19 y406.length co19 : Value).ownBlock) (.slice Ao14 t400.length co14) t400) := ⟨(by rw [hw]; exact (by (with_reducible repeat (first | apply Kd.R_alloc | apply Kd.R_drewN | apply Kd.R_drew)); exact Kd.R_mono (Kd.R_far (p := ⟨gb405, 2, none⟩) (Kd.R_types HO402.out BK405.out (by decide)) (fun _ hk => hk.2) (.int .i64 t409)) (fun _ hk => hk.1.2)))⟩; have n2_ : Aside0 (Kd.R (Kd.int .i64) 3 w22 w.heap.size (fun k_ => some k_ ≠ (.slice Ao14 t400.length co14 : Value).ownBlock) (.slice Ao19 y406.length co19) y406) := ⟨(by rw [hw]; exact (by (with_reducible repeat (first | apply Kd.R_alloc | apply Kd.R_drewN | apply Kd.R_drew)); exact Kd.R_mono (Kd.R_far (p := ⟨gb405, 2, none⟩) (Kd.R_types HO408.out BK405.out (by decide)) (fun _ hk => hk.2) (.int .i64 t409)) (fun _ hk => hk.1.2)))⟩; have n3_ : Aside0 (w22.heap[gb405]? = some (.cells #[.slice Ao14 t400.length co14, .int .i64 t403, .int .i64 t409] 31 (0, 0))) := ⟨(by rw [hw]; exact (by (with_reducible repeat (first | refine blk_drewN ?_ _ | refine blk_drew ?_ | refine blk_alloc ?_ _)); refine blk_put (cs := #[.slice Ao14 t400.length co14, .int .i64 t403, .int .i64 t404]) ?_ 2 _ rfl; (with_reducible repeat (first | refine blk_drewN ?_ _ | refine blk_drew ?_ | refine blk_alloc ?_ _)); exact BK405.out))⟩; have n4_ : Aside0 (IsS174 w w22 g393 t390 t410 t411) := ⟨(by rw [hw]; exact (zB7_3))⟩; have n5_ : Aside0 (Below w.heap.size w w22) := ⟨(by rw [hw]; exact (by repeat (first | (with_reducible first | exact HB.out | apply below_alloc | apply pw_below_drewN | apply below_drew1 | refine below_set ?_ (IsS174.ge HI393.out) | refine below_set ?_ GE405.out) | exact HB.out)))⟩; clear hw; clear HO_4; clear HO402; clear HO408; clear BK405; clear HI393; clear HB; have HO_4 := n0_; have HO402 := n1_; have HO408 := n2_; have BK405 := n3_; have HI393 := n4_; have HB := n5_; clear n0_ n1_ n2_ n3_ n4_ n5_; have hcz23_0 : w22.cell? ⟨gb405, 0, none⟩ = some (.slice Ao14 t400.length co14) := (blk_cell BK405.out 0).trans rfl; have hcz23_1 : w22.cell? ⟨gb405, 1, none⟩ = some (.int .i64 t403) := (blk_cell BK405.out 1).trans rfl; have hcz23_2 : w22.cell? ⟨gb405, 2, none⟩ = some (.int .i64 t409) := (blk_cell BK405.out 2).trans rfl; have hfz23_0 := blk_frozen BK405.out 0; have hfz23_1 := blk_frozen BK405.out 1; have hfz23_2 := blk_frozen BK405.out 2) | ((with_reducible refine gate_builtin (b := .append) (xs := #[.tmp 21, .tmp 23]) rfl ?_); at_builtin; refine Kd.S_append k31 (w0 := w) w.heap.size rfl (.tmp 21) (.tmp 23) 29 31 (.agg #[(.slice none 0 0), (.int .i64 0), (.int .i64 0)]) 40 rfl Try.underlying29 info31 rfl (by decide) (by omega) u4 x4_1 (⟨t400, t403, t409⟩ : S31) [.slice Ao14 t400.length co14, .int .i64 t403, .int .i64 t409] (fun k_ => some k_ ≠ (.slice Ao19 y406.length co19 : Value).ownBlock ∧ k_ ≠ gb405) (fun k_ => some k_ = (.slice Ao14 t400.length co14 : Value).ownBlock) rfl rfl ?aP (fun k_ hk_ => ((Kd.R_mono (ok' := fun k_ => ((fun k_ => some k_ ≠ (.slice Ao19 y406.length co19 : Value).ownBlock ∧ k_ ≠ gb405)) k_ ∧ some k_ ≠ (u4 : Value).ownBlock) (Kd.R_types (Kd.R_apart' (HO402.out) (Kd.S_typed HO_4.out) (by decide)) BK405.out (by decide)) (fun k_ hk => ⟨⟨hk.1.1, hk.2⟩, hk.1.2⟩))).1 k_ hk_.symm) ?aF ?aO ?aB ?aS ?aL ?_; (case aP => exact k31_mkM _ _ _ (⟨t400, t403, t409⟩ : S31) (Kd.R_mono (Kd.R_tight rfl (Kd.R_mono (ok' := fun k_ => ((fun k_ => some k_ ≠ (.slice Ao19 y406.length co19 : Value).ownBlock ∧ k_ ≠ gb405)) k_ ∧ some k_ ≠ (u4 : Value).ownBlock) (Kd.R_types (Kd.R_apart' (HO402.out) (Kd.S_typed HO_4.out) (by decide)) BK405.out (by decide)) (fun k_ hk => ⟨⟨hk.1.1, hk.2⟩, hk.1.2⟩))) (fun _ h_ => h_))); (case aB => exact (by repeat (first | (with_reducible first | exact HB.out | apply below_alloc | apply pw_below_drewN | apply below_drew1 | refine below_set ?_ (IsS174.ge HI393.out) | refine below_set ?_ GE405.out) | exact HB.out))); (case aF => exact (fun k_ hk => ⟨Kd.fresh' (Kd.R_lt (zR7 HO408.out)) k_ hk, Kd.freshB (g := gb405) (o := .cells #[.slice Ao14 t400.length co14, .int .i64 t403, .int .i64 t409] 31 (0, 0)) (zK7 BK405.out) k_ hk⟩)); (case aO => exact (by (with_reducible repeat (first | apply Kd.S_alloc | apply Kd.S_drewN | apply Kd.S_drew)); exact Kd.S_mono HO_4.out (fun k_ hk => ⟨⟨hk.2.1, hk.2.2⟩, fun e_ => hk.1 e_⟩))); (case aS => exact (below_size (by repeat (first | (with_reducible first | exact HB.out | apply below_alloc | apply pw_below_drewN | apply below_drew1 | refine below_set ?_ (IsS174.ge HI393.out) | refine below_set ?_ GE405.out) | exact HB.out)))); (case aL => have := LMc10.out; omega); intro v413 w24 ho hb hg hat; rw [← Ny412.out] at ho; have n0_ := Aside0.mk (IsS174.grown (zB7_3) hg (IsS174.own_neS HI393.out HO_4.out (by decide))); have n1_ := Aside0.mk (blk_grown (g := gb405) (o := .cells #[.slice Ao14 t400.length co14, .int .i64 t403, .int .i64 t409] 31 (0, 0)) (zK7 BK405.out) hg (Kd.S_away HO_4.out (fun _ hk => hk.2.2))); have n2_ := Aside0.mk (Kd.R_over' (zR7 HO408.out) (Kd.S_typed (by (with_reducible repeat (first | apply Kd.S_alloc | apply Kd.S_drewN | apply Kd.S_drew)); exact HO_4.out)) (by decide) hg); have n3_ := Aside0.mk (hb); have n4_ := Aside0.mk (ho); clear HI393; clear BK405; clear HO408; clear HB; clear HO_4; clear HO402; have HI393 := n0_; have BK405 := n1_; have HO408 := n2_; have HB := n3_; have HO414 := n4_; clear n0_ n1_ n2_ n3_ n4_; clear ho hb hg hat))
      go_roundg k1
      case measure => have := HK1.out; omega
      case rel => exact ⟨(y412), (wrap64 (x5_1 + 1)), (t410), (t411), (by first | rfl | (simp; done) | (simp [*]; done)), H', ⟨by have := HK1.out; omega⟩, ⟨by (with_reducible repeat (first | apply Kd.S_alloc | apply Kd.S_drewN | apply Kd.S_drew)); exact Kd.S_mono HO414.out (fun _ hk => trivial)⟩, ⟨zB7_3⟩, ⟨by repeat (first | (with_reducible first | exact HB.out | apply below_alloc | apply pw_below_drewN | apply below_drew1 | refine below_set ?_ (IsS174.ge HI393.out) | refine below_set ?_ GE405.out) | exact HB.out)⟩⟩

/-! ### spec_AllHalt: function 52 -/
def spec_AllHalt.l0 : Nat → List (S31) → Int → Option (Bool)
  | 0, _, _ => none
  | k + 1, x0, x3 => if x3 < (x0.length : Int) then (if 0 ≤ x3 then (if ((rd_T31 x0 x3).f2) = 1 then (spec_AllHalt.l0 k x0 (wrap64 (x3 + 1))) else (some false)) else (none)) else (some (decide ((x0.length : Int) > 0)))
def spec_AllHalt.f (k : Nat) (l0 : List (S31)) : Option (Bool) := spec_AllHalt.l0 k l0 0
theorem spec_AllHalt.mono_l : ∀ k, (∀ y0 y1, LeO (spec_AllHalt.l0 k y0 y1) (spec_AllHalt.l0 (k + 1) y0 y1))
  | 0 => fun _ _ r h => by simp [spec_AllHalt.l0] at h
  | k + 1 => by
    have ih0 := spec_AllHalt.mono_l k
    · intro y0 y1
      unfold spec_AllHalt.l0
      repeat' first
      | (with_reducible exact ih0 _ _)
      | (with_reducible exact LeO.refl _)
      | (with_reducible exact LeO.none _)
      | (with_reducible refine LeO.ite ?_ ?_)
      | (with_reducible refine LeO.bind ?_ (fun _ => ?_))
      | exact ih0 _ _
      | exact LeO.none _
      | refine LeO.ite ?_ ?_
      | refine LeO.bind ?_ (fun _ => ?_)
theorem spec_AllHalt.mono : ∀ a0 k, LeO (spec_AllHalt.f k a0) (spec_AllHalt.f (k + 1) a0) := by
  intro a0 k
  have ih0 := spec_AllHalt.mono_l k
  unfold spec_AllHalt.f
  repeat' first
      | (with_reducible exact ih0 _ _)
      | (with_reducible exact LeO.refl _)
      | (with_reducible exact LeO.none _)
      | (with_reducible refine LeO.ite ?_ ?_)
      | (with_reducible refine LeO.bind ?_ (fun _ => ?_))
      | exact ih0 _ _
      | exact LeO.none _
      | refine LeO.ite ?_ ?_
      | refine LeO.bind ?_ (fun _ => ?_)
set_option maxHeartbeats 8000000 in
set_option maxRecDepth 100000 in
theorem spec_AllHalt.calls (k : Nat) (A0 : Option Addr) (c0 : Nat) (l0 : List (S31)) (r : Bool) (w : World) (hr0 : Kd.C k31 w A0 l0.length l0) (hc0 : l0.length ≤ c0) (h : spec_AllHalt.f k l0 = some r) :
    Calls Try.prog 52 #[.slice A0 l0.length c0] w fun e w' => e = .returned (.bool r) ∧ Drawn0 w w' := by
  have HR0 := Aside0.mk hr0
  have HC0 := Aside0.mk hc0
  clear hr0 hc0
  have H : (spec_AllHalt.l0 k l0 0) = some r := h
  clear h
  have H' := Aside0.mk H
  clear H
  go_enter Try.func52, Try.ntmps52
  go_wp2
  go_loopg [3] k (fun kq v3 w' => ∃ (x3_1 : Int), v3 = .int .i64 x3_1 ∧ Aside0 (spec_AllHalt.l0 kq l0 x3_1 = some r) ∧ Aside0 (kq ≤ k) ∧ Drawn0 w w')
  case atStart => exact ⟨(0), (by first | rfl | (simp; done) | (simp [*]; done)), H', ⟨Nat.le_refl _⟩, by repeat (first | exact Drawn0.refl _ | apply Drawn0.step)⟩
  case round =>
    clear H'
    obtain ⟨x3_1, rfl, HA, HK1, ⟨m1, rfl⟩⟩ := hrel
    cases gk with
    | zero => exact absurd HA.out (by simp [spec_AllHalt.l0])
    | succ k1 =>
      have H := HA.out
      clear HA
      simp only [spec_AllHalt.l0] at H
      by_cases c2 : x3_1 < (l0.length : Int)
      rotate_left
      · rw [if_neg c2] at H
        have c2b0 : decide (x3_1 < (l0.length : Int)) = false := decide_eq_false c2
        clear c2
        obtain rfl := Option.some.inj H
        go_wp2
        go_ret
        exact ⟨by first | rfl | (simp; done) | (simp [*]; done), by repeat (first | exact Drawn0.refl _ | apply Drawn0.step)⟩
      rw [if_pos c2] at H
      have c2b0 : decide (x3_1 < (l0.length : Int)) = true := decide_eq_true c2
      clear c2
      by_cases c3 : 0 ≤ x3_1
      rotate_left
      · rw [if_neg c3] at H
        exact absurd H (by simp)
      rw [if_pos c3] at H
      have c3b0 : decide (0 ≤ x3_1) = true := decide_eq_true c3
      clear c3
      by_cases c4 : ((rd_T31 l0 x3_1).f2) = 1
      rotate_left
      · rw [if_neg c4] at H
        have c4b0 : (((rd_T31 l0 x3_1).f2) == 1) = false := beq_eq_false_iff_ne.mpr c4
        have c4b1 : (((rd_T31 l0 x3_1).f2) != 1) = true := bne_iff_ne.mpr c4
        obtain rfl := Option.some.inj H
        have p415 : 0 ≤ (x3_1 : Int) := zA7
        have q415 : x3_1 < (l0.length : Int) := zA7
        obtain ⟨ad415, A415_0, c415_0, e415, hx415_0, hx415_1, hx415_2, hl415_0, hi415_0⟩ := at_T31 HR0.out x3_1 p415 q415
        cases e415
        have HR415_0 := Aside0.mk hi415_0
        have HC415_0 := Aside0.mk hl415_0
        clear hi415_0 hl415_0
        replace p415 := eq_true p415
        replace q415 := eq_true q415
        go_wp2
        go_ret
        exact ⟨by first | rfl | (simp; done) | (simp [*]; done), by repeat (first | exact Drawn0.refl _ | apply Drawn0.step)⟩
      rw [if_pos c4] at H
      have c4b0 : (((rd_T31 l0 x3_1).f2) == 1) = true := beq_iff_eq.mpr c4
      have c4b1 : (((rd_T31 l0 x3_1).f2) != 1) = false := bne_eq_false_iff_eq.mpr c4
      clear c4
      have H' := Aside0.mk H
      clear H
      have p415 : 0 ≤ (x3_1 : Int) := zA7
      have q415 : x3_1 < (l0.length : Int) := zA7
      obtain ⟨ad415, A415_0, c415_0, e415, hx415_0, hx415_1, hx415_2, hl415_0, hi415_0⟩ := at_T31 HR0.out x3_1 p415 q415
      cases e415
      have HR415_0 := Aside0.mk hi415_0
      have HC415_0 := Aside0.mk hl415_0
      clear hi415_0 hl415_0
      replace p415 := eq_true p415
      replace q415 := eq_true q415
      go_wp2
      go_roundg k1
      case measure => have := HK1.out; omega
      case rel => exact ⟨(wrap64 (x3_1 + 1)), (by first | rfl | (simp; done) | (simp [*]; done)), H', ⟨by have := HK1.out; omega⟩, by repeat (first | exact Drawn0.refl _ | apply Drawn0.step)⟩

end Go.Proofs.Ytddncenhddiemaa.PFnPlaced
