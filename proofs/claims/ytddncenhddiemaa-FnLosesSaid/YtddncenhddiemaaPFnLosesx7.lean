-- made by wip/tools/myprint.py out of the seat's translation
import Derived.Test.YtddncenhddiemaaPFnLosesx0
import Derived.Test.YtddncenhddiemaaPFnLosesx2
import Derived.Test.YtddncenhddiemaaPFnLosesx3
import Derived.Test.YtddncenhddiemaaPFnLosesx6
namespace Go.Proofs.Ytddncenhddiemaa.PFnLoses
open Go.RowKit Go.Proofs.YtddncenhddiemaaW.PrintWords Go.Proofs.YtddncenhddiemaaW.PrintLast Go.Proofs.YtddncenhddiemaaW.PrintMore
attribute [local go_sem] max2_int min2_int max_two min_two max_three min_three max_four min_four   -- for this text's walks alone
set_option linter.unusedVariables false
set_option linter.unusedSimpArgs false
theorem zR7 {p q : Prop} (x : q) (h : q → p := by intro h; (with_reducible repeat (first | apply Kd.R_alloc | apply Kd.R_drewN | apply Kd.R_drew)); exact h) : p := h x
theorem zK7 {p q : Prop} (x : q) (h : q → p := by intro h; (with_reducible repeat (first | refine blk_drewN ?_ _ | refine blk_drew ?_ | refine blk_alloc ?_ _)); exact h) : p := h x
theorem zA7 {p : Prop} [Decidable p] (h : decide p = true := by first | (with_reducible assumption) | assumption) : p := of_decide_eq_true h
theorem zT7 {p : Prop} (h : p := by (try simp only [List.map_toArray, List.map_cons, List.map_nil]); first | done | rfl | (simp only [List.length_drop, List.length_take]; rfl)) : p := h
theorem zE7 {p : Prop} (h : p := by first | rfl | (simp [errW_none, errW_some] <;> rfl) | (simp [*, errW_none, errW_some] <;> rfl)) : p := h
theorem zB7_0 {p : Prop} (h : p := by repeat (first | (with_reducible first | exact HB.out | apply below_alloc | apply pw_below_drewN | apply below_drew1) | exact HB.out)) : p := h
theorem zB7_1 {p : Prop} (h : p := by repeat (first | (with_reducible first | exact HB.out | apply below_alloc | apply pw_below_drewN | apply below_drew1 | refine below_set ?_ GE235.out) | exact HB.out)) : p := h
theorem zB7_2 {p : Prop} (h : p := by repeat (first | (with_reducible first | exact HB.out | apply below_alloc | apply pw_below_drewN | apply below_drew1 | refine below_set ?_ GE258.out) | exact HB.out)) : p := h
theorem zB7_3 {p : Prop} (h : p := by repeat (first | (with_reducible first | exact HB.out | apply below_alloc | apply pw_below_drewN | apply below_drew1 | refine below_set ?_ GE265.out) | exact HB.out)) : p := h

/-! ### impl_coded: function 82 -/
mutual
def impl_coded.j0 : Nat → List (S54) → Bool → Option (List Int × Bool)
  | 0, _, _ => none
  | k + 1, x3, x41 => if x41 = true then (some (([] : List Int), false)) else (impl_coded.l0 k (([] : List Int)) x3 (x3.length : Int) 0)
def impl_coded.l0 : Nat → List Int → List (S54) → Int → Int → Option (List Int × Bool)
  | 0, _, _, _, _ => none
  | k + 1, x11, x43, x44, x45 => if x45 < x44 then (if 0 ≤ x45 then (if x45 < (x43.length : Int) then ((impl_Code.f ((rd_T54 x43 x45).f0) ((rd_T54 x43 x45).f1) ((rd_T54 x43 x45).f2) ((rd_T54 x43 x45).f3) ((rd_T54 x43 x45).f4)).bind fun bt236 => (if x11.length < 17592186044416 then (impl_coded.l0 k (x11 ++ [bt236.1]) x43 x44 (wrap64 (x45 + 1))) else (none))) else (none)) else (none)) else (some (x11, true))
end
def impl_coded.f (k : Nat) (a0 : Int) (a1 : Int) (a2 : Int) (l3 : List (S54)) : Option (List Int × Bool) := (impl_isCell.f a0).bind fun t227 => (if t227 = true then ((impl_from.f a1 1 63).bind fun t228 => (if t228 = true then ((impl_from.f a2 0 (wrap64 (24 - (l3.length : Int)))).bind fun t229 => (if t229 = true then ((impl_from.f a0 a2 (wrap64 ((wrap64 (a2 + (l3.length : Int))) - 1))).bind fun t230 => (impl_coded.j0 k l3 t230)) else (impl_coded.j0 k l3 true))) else (impl_coded.j0 k l3 true))) else (impl_coded.j0 k l3 true))
theorem impl_coded.mono_l : ∀ k, (∀ y0 y1, LeO (impl_coded.j0 k y0 y1) (impl_coded.j0 (k + 1) y0 y1)) ∧ (∀ y0 y1 y2 y3, LeO (impl_coded.l0 k y0 y1 y2 y3) (impl_coded.l0 (k + 1) y0 y1 y2 y3))
  | 0 => ⟨fun _ _ r h => by simp [impl_coded.j0] at h, fun _ _ _ _ r h => by simp [impl_coded.l0] at h⟩
  | k + 1 => by
    obtain ⟨ih0, ih1⟩ := impl_coded.mono_l k
    refine ⟨?_, ?_⟩
    · intro y0 y1
      unfold impl_coded.j0
      repeat' first
      | (with_reducible exact ih0 _ _)
      | (with_reducible exact ih1 _ _ _ _)
      | (with_reducible exact LeO.refl _)
      | (with_reducible exact LeO.none _)
      | (with_reducible refine LeO.ite ?_ ?_)
      | (with_reducible refine LeO.bind ?_ (fun _ => ?_))
      | exact ih0 _ _
      | exact ih1 _ _ _ _
      | exact LeO.none _
      | refine LeO.ite ?_ ?_
      | refine LeO.bind ?_ (fun _ => ?_)
    · intro y0 y1 y2 y3
      unfold impl_coded.l0
      repeat' first
      | (with_reducible exact ih0 _ _)
      | (with_reducible exact ih1 _ _ _ _)
      | (with_reducible exact LeO.refl _)
      | (with_reducible exact LeO.none _)
      | (with_reducible refine LeO.ite ?_ ?_)
      | (with_reducible refine LeO.bind ?_ (fun _ => ?_))
      | exact ih0 _ _
      | exact ih1 _ _ _ _
      | exact LeO.none _
      | refine LeO.ite ?_ ?_
      | refine LeO.bind ?_ (fun _ => ?_)
theorem impl_coded.mono : ∀ a0 a1 a2 a3 k, LeO (impl_coded.f k a0 a1 a2 a3) (impl_coded.f (k + 1) a0 a1 a2 a3) := by
  intro a0 a1 a2 a3 k
  obtain ⟨ih0, ih1⟩ := impl_coded.mono_l k
  unfold impl_coded.f
  repeat' first
      | (with_reducible exact ih0 _ _)
      | (with_reducible exact ih1 _ _ _ _)
      | (with_reducible exact LeO.refl _)
      | (with_reducible exact LeO.none _)
      | (with_reducible refine LeO.ite ?_ ?_)
      | (with_reducible refine LeO.bind ?_ (fun _ => ?_))
      | exact ih0 _ _
      | exact ih1 _ _ _ _
      | exact LeO.none _
      | refine LeO.ite ?_ ?_
      | refine LeO.bind ?_ (fun _ => ?_)
set_option maxHeartbeats 8000000 in
set_option maxRecDepth 100000 in
theorem impl_coded.calls (k : Nat) (a0 : Int) (a1 : Int) (a2 : Int) (A3 : Option Addr) (c3 : Nat) (l3 : List (S54)) (r1 : List Int) (r2 : Bool) (w : World) (hr3 : Kd.C k54 w A3 l3.length l3) (hc3 : l3.length ≤ c3) (h : impl_coded.f k a0 a1 a2 l3 = some (r1, r2)) :
    Calls Try.prog 82 #[.int .i64 a0, .int .i64 a1, .int .i64 a2, .slice A3 l3.length c3] w fun e w' => ∃ v0_ : Value, e = .returned (.tuple #[v0_, .bool r2]) ∧ Kd.R (Kd.int .i64) 3 w' w.heap.size (fun _ => True) v0_ r1 ∧ Below w.heap.size w w' := by
  have hu54 := Try.underlying54
  have HR3 := Aside0.mk hr3
  have HC3 := Aside0.mk hc3
  clear hr3 hc3
  have HB := Aside0.mk (Below.refl w.heap.size w)
  have H : ((impl_isCell.f a0).bind fun t227 => (if t227 = true then ((impl_from.f a1 1 63).bind fun t228 => (if t228 = true then ((impl_from.f a2 0 (wrap64 (24 - (l3.length : Int)))).bind fun t229 => (if t229 = true then ((impl_from.f a0 a2 (wrap64 ((wrap64 (a2 + (l3.length : Int))) - 1))).bind fun t230 => (impl_coded.j0 k l3 t230)) else (impl_coded.j0 k l3 true))) else (impl_coded.j0 k l3 true))) else (impl_coded.j0 k l3 true))) = some (r1, r2) := h
  clear h
  have HC5 := Aside0.mk H
  clear H
  go_enter Try.func82, Try.ntmps82
  go_upto_region 2 with (fail)
  go_cut [41] (fun v41 wc => ∃ (kq : Nat) (x41_4 : Bool), v41 = .bool x41_4 ∧ Aside0 (impl_coded.j0 kq l3 x41_4 = some (r1, r2)) ∧ Aside0 (kq ≤ k) ∧ Aside0 (Below w.heap.size w wc))
  case first =>
    have H := HC5.out
    clear HC5
    replace H := Option.bind_eq_some_iff.mp H
    obtain ⟨t227, A60, H⟩ := H
    replace H : (if t227 = true then ((impl_from.f a1 1 63).bind fun t228 => (if t228 = true then ((impl_from.f a2 0 (wrap64 (24 - (l3.length : Int)))).bind fun t229 => (if t229 = true then ((impl_from.f a0 a2 (wrap64 ((wrap64 (a2 + (l3.length : Int))) - 1))).bind fun t230 => (impl_coded.j0 k l3 t230)) else (impl_coded.j0 k l3 true))) else (impl_coded.j0 k l3 true))) else (impl_coded.j0 k l3 true)) = some (r1, r2) := H
    have A6 := Aside0.mk A60
    clear A60
    by_cases c7 : t227 = true
    rotate_left
    · replace c7 := Bool.eq_false_iff.mpr c7
      subst c7
      have H1 : (impl_coded.j0 k l3 true) = some (r1, r2) := by rw [if_neg (show ¬ (false = true) by decide)] at H; exact H
      clear H
      have H := H1
      clear H1
      have H' := Aside0.mk H
      clear H
      go_wp2_with (first | ((with_reducible refine gate_callee (f := 150) rfl ?_); refine goesL_ (some 19) rfl rfl Try.func150 (by kernel_rfl) rfl #[.int .i64 a0] rfl zT7 ?_; (with_reducible refine (impl_isCell.calls a0 false _ A6.out).mono ?_); rintro e w' ⟨rfl, ⟨nd, rfl⟩⟩; refine ⟨_, rfl, ?_⟩))
      go_meet
      case rel => exact ⟨_, (true), (by first | rfl | (simp; done) | (simp [*]; done)), H', ⟨by first | omega | exact Nat.le_refl _⟩, ⟨zB7_0⟩⟩
    subst c7
    have H1 : ((impl_from.f a1 1 63).bind fun t228 => (if t228 = true then ((impl_from.f a2 0 (wrap64 (24 - (l3.length : Int)))).bind fun t229 => (if t229 = true then ((impl_from.f a0 a2 (wrap64 ((wrap64 (a2 + (l3.length : Int))) - 1))).bind fun t230 => (impl_coded.j0 k l3 t230)) else (impl_coded.j0 k l3 true))) else (impl_coded.j0 k l3 true))) = some (r1, r2) := by rw [if_pos rfl] at H; exact H
    clear H
    have H := H1
    clear H1
    replace H := Option.bind_eq_some_iff.mp H
    obtain ⟨t228, A80, H⟩ := H
    replace H : (if t228 = true then ((impl_from.f a2 0 (wrap64 (24 - (l3.length : Int)))).bind fun t229 => (if t229 = true then ((impl_from.f a0 a2 (wrap64 ((wrap64 (a2 + (l3.length : Int))) - 1))).bind fun t230 => (impl_coded.j0 k l3 t230)) else (impl_coded.j0 k l3 true))) else (impl_coded.j0 k l3 true)) = some (r1, r2) := H
    have A8 := Aside0.mk A80
    clear A80
    by_cases c9 : t228 = true
    rotate_left
    · replace c9 := Bool.eq_false_iff.mpr c9
      subst c9
      have H1 : (impl_coded.j0 k l3 true) = some (r1, r2) := by rw [if_neg (show ¬ (false = true) by decide)] at H; exact H
      clear H
      have H := H1
      clear H1
      have H' := Aside0.mk H
      clear H
      go_wp2_with (first | ((with_reducible refine gate_callee (f := 150) rfl ?_); refine goesL_ (some 19) rfl rfl Try.func150 (by kernel_rfl) rfl #[.int .i64 a0] rfl zT7 ?_; (with_reducible refine (impl_isCell.calls a0 true _ A6.out).mono ?_); rintro e w' ⟨rfl, ⟨nd, rfl⟩⟩; refine ⟨_, rfl, ?_⟩) | (go_at_call 87; (with_reducible refine (impl_from.calls a1 1 63 false _ A8.out).mono ?_); rintro e w' ⟨rfl, ⟨nd, rfl⟩⟩))
      go_meet
      case rel => exact ⟨_, (true), (by first | rfl | (simp; done) | (simp [*]; done)), H', ⟨by first | omega | exact Nat.le_refl _⟩, ⟨zB7_0⟩⟩
    subst c9
    have H1 : ((impl_from.f a2 0 (wrap64 (24 - (l3.length : Int)))).bind fun t229 => (if t229 = true then ((impl_from.f a0 a2 (wrap64 ((wrap64 (a2 + (l3.length : Int))) - 1))).bind fun t230 => (impl_coded.j0 k l3 t230)) else (impl_coded.j0 k l3 true))) = some (r1, r2) := by rw [if_pos rfl] at H; exact H
    clear H
    have H := H1
    clear H1
    replace H := Option.bind_eq_some_iff.mp H
    obtain ⟨t229, A100, H⟩ := H
    replace H : (if t229 = true then ((impl_from.f a0 a2 (wrap64 ((wrap64 (a2 + (l3.length : Int))) - 1))).bind fun t230 => (impl_coded.j0 k l3 t230)) else (impl_coded.j0 k l3 true)) = some (r1, r2) := H
    have A10 := Aside0.mk A100
    clear A100
    by_cases c11 : t229 = true
    rotate_left
    · replace c11 := Bool.eq_false_iff.mpr c11
      subst c11
      have H1 : (impl_coded.j0 k l3 true) = some (r1, r2) := by rw [if_neg (show ¬ (false = true) by decide)] at H; exact H
      clear H
      have H := H1
      clear H1
      have H' := Aside0.mk H
      clear H
      go_wp2_with (first | ((with_reducible refine gate_callee (f := 150) rfl ?_); refine goesL_ (some 19) rfl rfl Try.func150 (by kernel_rfl) rfl #[.int .i64 a0] rfl zT7 ?_; (with_reducible refine (impl_isCell.calls a0 true _ A6.out).mono ?_); rintro e w' ⟨rfl, ⟨nd, rfl⟩⟩; refine ⟨_, rfl, ?_⟩) | (go_at_call 87; (with_reducible refine (impl_from.calls a1 1 63 true _ A8.out).mono ?_); rintro e w' ⟨rfl, ⟨nd, rfl⟩⟩) | (go_at_call 87; (with_reducible refine (impl_from.calls a2 0 (wrap64 (24 - (l3.length : Int))) false _ A10.out).mono ?_); rintro e w' ⟨rfl, ⟨nd, rfl⟩⟩))
      go_meet
      case rel => exact ⟨_, (true), (by first | rfl | (simp; done) | (simp [*]; done)), H', ⟨by first | omega | exact Nat.le_refl _⟩, ⟨zB7_0⟩⟩
    subst c11
    have H1 : ((impl_from.f a0 a2 (wrap64 ((wrap64 (a2 + (l3.length : Int))) - 1))).bind fun t230 => (impl_coded.j0 k l3 t230)) = some (r1, r2) := by rw [if_pos rfl] at H; exact H
    clear H
    have H := H1
    clear H1
    replace H := Option.bind_eq_some_iff.mp H
    obtain ⟨t230, A120, H⟩ := H
    replace H : (impl_coded.j0 k l3 t230) = some (r1, r2) := H
    have A12 := Aside0.mk A120
    clear A120
    have H' := Aside0.mk H
    clear H
    go_wp2_with (first | ((with_reducible refine gate_callee (f := 150) rfl ?_); refine goesL_ (some 19) rfl rfl Try.func150 (by kernel_rfl) rfl #[.int .i64 a0] rfl zT7 ?_; (with_reducible refine (impl_isCell.calls a0 true _ A6.out).mono ?_); rintro e w' ⟨rfl, ⟨nd, rfl⟩⟩; refine ⟨_, rfl, ?_⟩) | (go_at_call 87; (with_reducible refine (impl_from.calls a1 1 63 true _ A8.out).mono ?_); rintro e w' ⟨rfl, ⟨nd, rfl⟩⟩) | (go_at_call 87; (with_reducible refine (impl_from.calls a2 0 (wrap64 (24 - (l3.length : Int))) true _ A10.out).mono ?_); rintro e w' ⟨rfl, ⟨nd, rfl⟩⟩) | (go_at_call 87; (with_reducible refine (impl_from.calls a0 a2 (wrap64 ((wrap64 (a2 + (l3.length : Int))) - 1)) t230 _ A12.out).mono ?_); rintro e w' ⟨rfl, ⟨nd, rfl⟩⟩))
    go_meet
    case rel => exact ⟨_, (t230), (by first | rfl | (simp; done) | (simp [*]; done)), H', ⟨by first | omega | exact Nat.le_refl _⟩, ⟨zB7_0⟩⟩
  case rest =>
    clear HC5
    try clear c1
    try clear p2
    try clear c3
    try clear p6
    try clear c7
    try clear c8
    try clear c9
    try clear c11
    obtain ⟨kq, x41_4, rfl, HA, HJ4, HB⟩ := hcut
    cases kq with
    | zero => exact absurd HA.out (by simp [impl_coded.j0])
    | succ kj4 =>
      have H := HA.out
      clear HA
      simp only [impl_coded.j0] at H
      by_cases c13 : x41_4 = true
      · subst c13
        have H1 : (some (([] : List Int), false)) = some (r1, r2) := by rw [if_pos rfl] at H; exact H
        clear H
        have H := H1
        clear H1
        simp only [Option.some.injEq, Prod.mk.injEq] at H
        obtain ⟨rfl, rfl⟩ := H
        go_wp2
        go_ret2
        exact ⟨_, zE7, by first | exact Kd.R_nil _ _ _ _ _ | exact Kd.N_nil _ _ _ _ _ | exact Kd.V_nil _ _ _ _ _ | exact Kd.Q_nil _ _ _ _ _ | exact Kd.S_nil _ _ _ _ _, zB7_0⟩
      replace c13 := Bool.eq_false_iff.mpr c13
      subst c13
      have H1 : (impl_coded.l0 kj4 (([] : List Int)) l3 (l3.length : Int) 0) = some (r1, r2) := by rw [if_neg (show ¬ (false = true) by decide)] at H; exact H
      clear H
      have H := H1
      clear H1
      obtain ⟨y231, hy231⟩ : ∃ y_ : List Int, y_ = (([] : List Int)) := ⟨_, rfl⟩
      replace H : (impl_coded.l0 kj4 y231 l3 (l3.length : Int) 0) = some (r1, r2) := by first | (rw [hy231]; with_reducible exact H) | (have H2_ := (Option.bind_some _ _).symm.trans H; rw [hy231]; with_reducible exact H2_) | (have H2_ := (Option.bind_some _ _).symm.trans H; with_reducible exact H2_) | with_reducible exact H | (rw [hy231]; exact H) | exact H
      have Ny231 := Aside0.mk hy231
      clear hy231
      have H' := Aside0.mk H
      clear H
      go_wp2_with (first | ((with_reducible refine gate_dst (N := 42) rfl ?_); refine Kd.R_lit (Kd.int .i64) _ 3 ?hg (N := 42) ?hd (xs := ([] : List Int)) (inner := []) (ok := fun _ => True) (okp := fun _ => True) ?hr ?hp (fun _ hk => hk) trivial (Below.refl _ _) (Nat.le_refl _) (by simp) ?_; (case hd => rfl); (case hg => rfl); (case hr => first | (go_simp; done) | (go_simp; rfl)); (case hp => exact (Reps.none _ _)); intro v232 w14 ho15 hb hg_ hnew_; clear hg_ hnew_; (first | rw [← Ny231.out] at ho15 | (simp only [Int.reduceToNat] at ho15; rw [← Ny231.out] at ho15)); have n0_ := Aside0.mk (Kd.R_lower ho15 (below_size (zB7_0))); have n1_ := Aside0.mk (below_step (zB7_0) hb); clear HB; have HO233 := n0_; have HB := n1_; clear n0_ n1_; clear hb ho15))
      go_loopg [11, 45] kj4 (fun kq v11 v45 w' => ∃ (x11_2 : List Int) (x45_2 : Int), v45 = .int .i64 x45_2 ∧ Aside0 (impl_coded.l0 kq x11_2 l3 (l3.length : Int) x45_2 = some (r1, r2)) ∧ Aside0 (kq ≤ kj4) ∧ Aside0 (Kd.R (Kd.int .i64) 3 w' w.heap.size (fun _ => True) v11 x11_2) ∧ Aside0 (Below w.heap.size w w'))
      case atStart => exact ⟨(y231), (0), (by first | rfl | (simp; done) | (simp [*]; done)), H', ⟨Nat.le_refl _⟩, ⟨zR7 HO233.out⟩, ⟨zB7_0⟩⟩
      case round =>
        clear H'
        try clear c1
        try clear p2
        try clear c3
        try clear p6
        try clear c7
        try clear c8
        try clear c9
        try clear c11
        try clear c13
        try clear c15
        try clear p2
        try clear p6
        obtain ⟨x11_2, x45_2, rfl, HA, HK2, HO_11, HB⟩ := hrel
        cases gk with
        | zero => exact absurd HA.out (by simp [impl_coded.l0])
        | succ k2 =>
          have H := HA.out
          clear HA
          simp only [impl_coded.l0] at H
          by_cases c16 : x45_2 < (l3.length : Int)
          rotate_left
          · rw [if_neg c16] at H
            have c16b0 : decide (x45_2 < (l3.length : Int)) = false := decide_eq_false c16
            clear c16
            simp only [Option.some.injEq, Prod.mk.injEq] at H
            obtain ⟨rfl, rfl⟩ := H
            go_wp2
            go_ret2
            exact ⟨_, zE7, zR7 HO_11.out, zB7_0⟩
          rw [if_pos c16] at H
          have c16b0 : decide (x45_2 < (l3.length : Int)) = true := decide_eq_true c16
          clear c16
          by_cases c17 : 0 ≤ x45_2
          rotate_left
          · rw [if_neg c17] at H
            exact absurd H (by simp)
          rw [if_pos c17] at H
          have c17b0 : decide (0 ≤ x45_2) = true := decide_eq_true c17
          clear c17
          by_cases c18 : x45_2 < (l3.length : Int)
          rotate_left
          · rw [if_neg c18] at H
            exact absurd H (by simp)
          rw [if_pos c18] at H
          have c18b0 : decide (x45_2 < (l3.length : Int)) = true := decide_eq_true c18
          clear c18
          replace H := Option.bind_eq_some_iff.mp H
          obtain ⟨⟨t236, t237⟩, A190, H⟩ := H
          replace H : (if x11_2.length < 17592186044416 then (impl_coded.l0 k2 (x11_2 ++ [t236]) l3 (l3.length : Int) (wrap64 (x45_2 + 1))) else (none)) = some (r1, r2) := H
          have A19 := Aside0.mk A190
          clear A190
          by_cases c20 : x11_2.length < 17592186044416
          rotate_left
          · rw [if_neg c20] at H
            exact absurd H (by simp)
          rw [if_pos c20] at H
          have LMc20 := Aside0.mk c20
          clear c20
          obtain ⟨y238, hy238⟩ : ∃ y_ : List Int, y_ = (x11_2 ++ [t236]) := ⟨_, rfl⟩
          replace H : (impl_coded.l0 k2 y238 l3 (l3.length : Int) (wrap64 (x45_2 + 1))) = some (r1, r2) := by first | (rw [hy238]; with_reducible exact H) | (have H2_ := (Option.bind_some _ _).symm.trans H; rw [hy238]; with_reducible exact H2_) | (have H2_ := (Option.bind_some _ _).symm.trans H; with_reducible exact H2_) | with_reducible exact H | (rw [hy238]; exact H) | exact H
          have Ny238 := Aside0.mk hy238
          clear hy238
          have H' := Aside0.mk H
          clear H
          have p234 : 0 ≤ (x45_2 : Int) := zA7
          have q234 : x45_2 < (l3.length : Int) := zA7
          obtain ⟨ad234, e234, hx234_0, hx234_1, hx234_2, hx234_3, hx234_4⟩ := at_T54 HR3.out x45_2 p234 q234
          cases e234
          replace hx234_0 := (HB.out.cell (World.block_lt_of_cell? w _ hx234_0)).trans hx234_0
          replace hx234_1 := (HB.out.cell (World.block_lt_of_cell? w _ hx234_1)).trans hx234_1
          replace hx234_2 := (HB.out.cell (World.block_lt_of_cell? w _ hx234_2)).trans hx234_2
          replace hx234_3 := (HB.out.cell (World.block_lt_of_cell? w _ hx234_3)).trans hx234_3
          replace hx234_4 := (HB.out.cell (World.block_lt_of_cell? w _ hx234_4)).trans hx234_4
          replace p234 := eq_true p234
          replace q234 := eq_true q234
          go_wp2_with (first | ((with_reducible refine gate_dst (N := 13) rfl ?_); refine box_event ?hg (N := 13) ?hd (cs := #[.int .i64 0, .int .i64 0, .int .i64 0, .int .i64 0, .int .i64 0]) (t := 54) ?hr ?_; (case hd => rfl); (case hg => rfl); (case hr => first | (go_simp; done) | (go_simp; rfl)); intro gb235 hg w21 hbox hb; have n0_ := Aside0.mk (Kd.R_below (zR7 HO_11.out) hb); have n1_ := Aside0.mk (below_step (zB7_0) hb); have n2_ := Aside0.mk (hbox); have n3_ := Aside0.mk ((by rw [hg]; exact (below_size (zB7_0)) : w.heap.size ≤ gb235)); have n4_ := Aside0.mk ((by rw [hg]; exact (below_size (zB7_0)) : w.heap.size ≤ gb235)); clear HO_11; clear HB; have HO_11 := n0_; have HB := n1_; have BK235 := n2_; have GW235 := n3_; have GE235 := n4_; clear n0_ n1_ n2_ n3_ n4_; clear hb hbox hg; have hcz22_0 : w21.cell? ⟨gb235, 0, none⟩ = some (.int .i64 0) := (blk_cell BK235.out 0).trans rfl; have hcz22_1 : w21.cell? ⟨gb235, 1, none⟩ = some (.int .i64 0) := (blk_cell BK235.out 1).trans rfl; have hcz22_2 : w21.cell? ⟨gb235, 2, none⟩ = some (.int .i64 0) := (blk_cell BK235.out 2).trans rfl; have hcz22_3 : w21.cell? ⟨gb235, 3, none⟩ = some (.int .i64 0) := (blk_cell BK235.out 3).trans rfl; have hcz22_4 : w21.cell? ⟨gb235, 4, none⟩ = some (.int .i64 0) := (blk_cell BK235.out 4).trans rfl; have hfz22_0 := blk_frozen BK235.out 0; have hfz22_1 := blk_frozen BK235.out 1; have hfz22_2 := blk_frozen BK235.out 2; have hfz22_3 := blk_frozen BK235.out 3; have hfz22_4 := blk_frozen BK235.out 4) | ((with_reducible refine gate_callee (f := 131) rfl ?_); refine goesL_ (some 51) rfl rfl Try.func131 (by kernel_rfl) rfl #[.agg #[.int .i64 ((rd_T54 l3 x45_2).f0), .int .i64 ((rd_T54 l3 x45_2).f1), .int .i64 ((rd_T54 l3 x45_2).f2), .int .i64 ((rd_T54 l3 x45_2).f3), .int .i64 ((rd_T54 l3 x45_2).f4)]] rfl zT7 ?_; (with_reducible refine (impl_Code.calls ((rd_T54 l3 x45_2).f0) ((rd_T54 l3 x45_2).f1) ((rd_T54 l3 x45_2).f2) ((rd_T54 l3 x45_2).f3) ((rd_T54 l3 x45_2).f4) t236 t237 _ A19.out).mono ?_); rintro e w23 ⟨rfl, hb⟩; refine ⟨_, rfl, ?_⟩; have n0_ := Aside0.mk (Kd.R_below (by (with_reducible repeat (first | apply Kd.R_alloc | apply Kd.R_drewN | apply Kd.R_drew)); exact (Kd.R_mono (Kd.R_far (p := ⟨gb235, 4, none⟩) (Kd.R_far (p := ⟨gb235, 3, none⟩) (Kd.R_far (p := ⟨gb235, 2, none⟩) (Kd.R_far (p := ⟨gb235, 1, none⟩) (Kd.R_far (p := ⟨gb235, 0, none⟩) (Kd.R_types HO_11.out BK235.out (by decide)) (fun _ hk => hk.2) (.int .i64 ((rd_T54 l3 x45_2).f0))) (fun _ hk => hk.2) (.int .i64 ((rd_T54 l3 x45_2).f1))) (fun _ hk => hk.2) (.int .i64 ((rd_T54 l3 x45_2).f2))) (fun _ hk => hk.2) (.int .i64 ((rd_T54 l3 x45_2).f3))) (fun _ hk => hk.2) (.int .i64 ((rd_T54 l3 x45_2).f4))) (fun _ h_ => h_.1))) hb); have n1_ := Aside0.mk (blk_below (g := gb235) (o := .cells #[.int .i64 ((rd_T54 l3 x45_2).f0), .int .i64 ((rd_T54 l3 x45_2).f1), .int .i64 ((rd_T54 l3 x45_2).f2), .int .i64 ((rd_T54 l3 x45_2).f3), .int .i64 ((rd_T54 l3 x45_2).f4)] 54 (0, 0)) (by (with_reducible repeat (first | refine blk_drewN ?_ _ | refine blk_drew ?_ | refine blk_alloc ?_ _)); refine blk_put (cs := #[.int .i64 ((rd_T54 l3 x45_2).f0), .int .i64 ((rd_T54 l3 x45_2).f1), .int .i64 ((rd_T54 l3 x45_2).f2), .int .i64 ((rd_T54 l3 x45_2).f3), .int .i64 0]) ?_ 4 _ rfl; (with_reducible repeat (first | refine blk_drewN ?_ _ | refine blk_drew ?_ | refine blk_alloc ?_ _)); refine blk_put (cs := #[.int .i64 ((rd_T54 l3 x45_2).f0), .int .i64 ((rd_T54 l3 x45_2).f1), .int .i64 ((rd_T54 l3 x45_2).f2), .int .i64 0, .int .i64 0]) ?_ 3 _ rfl; (with_reducible repeat (first | refine blk_drewN ?_ _ | refine blk_drew ?_ | refine blk_alloc ?_ _)); refine blk_put (cs := #[.int .i64 ((rd_T54 l3 x45_2).f0), .int .i64 ((rd_T54 l3 x45_2).f1), .int .i64 0, .int .i64 0, .int .i64 0]) ?_ 2 _ rfl; (with_reducible repeat (first | refine blk_drewN ?_ _ | refine blk_drew ?_ | refine blk_alloc ?_ _)); refine blk_put (cs := #[.int .i64 ((rd_T54 l3 x45_2).f0), .int .i64 0, .int .i64 0, .int .i64 0, .int .i64 0]) ?_ 1 _ rfl; (with_reducible repeat (first | refine blk_drewN ?_ _ | refine blk_drew ?_ | refine blk_alloc ?_ _)); refine blk_put (cs := #[.int .i64 0, .int .i64 0, .int .i64 0, .int .i64 0, .int .i64 0]) ?_ 0 _ rfl; (with_reducible repeat (first | refine blk_drewN ?_ _ | refine blk_drew ?_ | refine blk_alloc ?_ _)); exact BK235.out) hb); have n2_ := Aside0.mk (below_step (zB7_1) hb); clear HO_11; clear BK235; clear HB; have HO_11 := n0_; have BK235 := n1_; have HB := n2_; clear n0_ n1_ n2_; (try clear hb); (try clear hb2); (try clear hk); (try clear hi)) | ((with_reducible refine gate_builtin (b := .append) (xs := #[.tmp 54, .tmp 56]) rfl ?_); at_builtin; refine Kd.R_append (Kd.int .i64) (w0 := w) w.heap.size rfl (.tmp 54) (.tmp 56) 25 3 (.int .i64 0) 8 rfl Try.underlying25 info3 rfl (by decide) (by omega) u11 x11_2 t236 [.int .i64 t236] (fun _ => True) (fun _ => False) rfl rfl ?aP (fun _ hk => hk.elim) ?aF ?aO ?aB ?aS ?aL ?_; (case aP => exact rfl); (case aB => exact (zB7_1)); (case aF => exact (fun _ _ => trivial)); (case aO => exact (zR7 HO_11.out)); (case aS => exact (below_size (zB7_1))); (case aL => have := LMc20.out; omega); intro v239 w24 ho hb hg hat; rw [← Ny238.out] at ho; have n0_ := Aside0.mk (blk_grown (g := gb235) (o := .cells #[.int .i64 ((rd_T54 l3 x45_2).f0), .int .i64 ((rd_T54 l3 x45_2).f1), .int .i64 ((rd_T54 l3 x45_2).f2), .int .i64 ((rd_T54 l3 x45_2).f3), .int .i64 ((rd_T54 l3 x45_2).f4)] 54 (0, 0)) (zK7 BK235.out) hg (Kd.R_ne HO_11.out BK235.out (by decide))); have n1_ := Aside0.mk (hb); have n2_ := Aside0.mk (ho); clear BK235; clear HB; clear HO_11; have BK235 := n0_; have HB := n1_; have HO240 := n2_; clear n0_ n1_ n2_; clear ho hb hg hat))
          go_roundg k2
          case measure => have := HJ4.out; have := HK2.out; omega
          case rel => exact ⟨(y238), (wrap64 (x45_2 + 1)), (by first | rfl | (simp; done) | (simp [*]; done)), H', ⟨by have := HJ4.out; have := HK2.out; omega⟩, ⟨zR7 HO240.out⟩, ⟨zB7_1⟩⟩

/-! ### impl_LoseCode: function 22 -/
def impl_LoseCode.f (k : Nat) (a0 : Int) (a1 : Int) (a2 : Int) : Option (List Int × Bool) := (impl_coded.f k a0 a1 a2 (([(⟨1, 0, 0, 0, a1⟩ : S54), (⟨1, 1, 0, 0, 1⟩ : S54), (⟨4, 2, 3, 0, a0⟩ : S54), (⟨2, 2, 2, 1, 0⟩ : S54), (⟨5, 0, 3, 2, a0⟩ : S54), (⟨10, 0, 0, 1, 0⟩ : S54), (⟨7, 0, 0, 0, wrap64 (a2 + 8)⟩ : S54), (⟨8, 0, 0, 0, wrap64 (a2 + 2)⟩ : S54), (⟨9, 0, 0, 0, 0⟩ : S54)] : List (S54)))).bind fun bt244 => (some (bt244.1, bt244.2))
theorem impl_LoseCode.mono : ∀ a0 a1 a2 k, LeO (impl_LoseCode.f k a0 a1 a2) (impl_LoseCode.f (k + 1) a0 a1 a2) := by
  intro a0 a1 a2 k
  unfold impl_LoseCode.f
  repeat' first
      | (with_reducible exact impl_coded.mono _ _ _ _ _)
      | (with_reducible exact LeO.refl _)
      | (with_reducible exact LeO.none _)
      | (with_reducible refine LeO.ite ?_ ?_)
      | (with_reducible refine LeO.bind ?_ (fun _ => ?_))
      | exact impl_coded.mono _ _ _ _ _
      | exact LeO.none _
      | refine LeO.ite ?_ ?_
      | refine LeO.bind ?_ (fun _ => ?_)
set_option maxHeartbeats 8000000 in
set_option maxRecDepth 100000 in
theorem impl_LoseCode.calls (k : Nat) (a0 : Int) (a1 : Int) (a2 : Int) (r1 : List Int) (r2 : Bool) (w : World) (h : impl_LoseCode.f k a0 a1 a2 = some (r1, r2)) :
    Calls Try.prog 22 #[.int .i64 a0, .int .i64 a1, .int .i64 a2] w fun e w' => ∃ v0_ : Value, e = .returned (.tuple #[v0_, .bool r2]) ∧ Kd.R (Kd.int .i64) 3 w' w.heap.size (fun _ => True) v0_ r1 ∧ Below w.heap.size w w' := by
  have hu54 := Try.underlying54
  have HB := Aside0.mk (Below.refl w.heap.size w)
  have H : ((impl_coded.f k a0 a1 a2 (([(⟨1, 0, 0, 0, a1⟩ : S54), (⟨1, 1, 0, 0, 1⟩ : S54), (⟨4, 2, 3, 0, a0⟩ : S54), (⟨2, 2, 2, 1, 0⟩ : S54), (⟨5, 0, 3, 2, a0⟩ : S54), (⟨10, 0, 0, 1, 0⟩ : S54), (⟨7, 0, 0, 0, wrap64 (a2 + 8)⟩ : S54), (⟨8, 0, 0, 0, wrap64 (a2 + 2)⟩ : S54), (⟨9, 0, 0, 0, 0⟩ : S54)] : List (S54)))).bind fun bt244 => (some (bt244.1, bt244.2))) = some (r1, r2) := h
  clear h
  obtain ⟨y241, hy241⟩ : ∃ y_ : List (S54), y_ = (([(⟨1, 0, 0, 0, a1⟩ : S54), (⟨1, 1, 0, 0, 1⟩ : S54), (⟨4, 2, 3, 0, a0⟩ : S54), (⟨2, 2, 2, 1, 0⟩ : S54), (⟨5, 0, 3, 2, a0⟩ : S54), (⟨10, 0, 0, 1, 0⟩ : S54), (⟨7, 0, 0, 0, wrap64 (a2 + 8)⟩ : S54), (⟨8, 0, 0, 0, wrap64 (a2 + 2)⟩ : S54), (⟨9, 0, 0, 0, 0⟩ : S54)] : List (S54))) := ⟨_, rfl⟩
  replace H : ((impl_coded.f k a0 a1 a2 y241).bind fun bt244 => (some (bt244.1, bt244.2))) = some (r1, r2) := by first | (rw [hy241]; with_reducible exact H) | (have H2_ := (Option.bind_some _ _).symm.trans H; rw [hy241]; with_reducible exact H2_) | (have H2_ := (Option.bind_some _ _).symm.trans H; with_reducible exact H2_) | with_reducible exact H | (rw [hy241]; exact H) | exact H
  have Ny241 := Aside0.mk hy241
  clear hy241
  replace H := Option.bind_eq_some_iff.mp H
  obtain ⟨⟨t244, t245⟩, A40, H⟩ := H
  replace H : (some (t244, t245)) = some (r1, r2) := H
  have A4 := Aside0.mk A40
  clear A40
  simp only [Option.some.injEq, Prod.mk.injEq] at H
  obtain ⟨rfl, rfl⟩ := H
  go_enter Try.func22, Try.ntmps22
  go_wp2_with (first | ((with_reducible refine gate_dst (N := 27) rfl ?_); refine Kd.R_lit k54 _ 54 ?hg (N := 27) ?hd (xs := ([(⟨1, 0, 0, 0, a1⟩ : S54), (⟨1, 1, 0, 0, 1⟩ : S54), (⟨4, 2, 3, 0, a0⟩ : S54), (⟨2, 2, 2, 1, 0⟩ : S54), (⟨5, 0, 3, 2, a0⟩ : S54), (⟨10, 0, 0, 1, 0⟩ : S54), (⟨7, 0, 0, 0, wrap64 (a2 + 8)⟩ : S54), (⟨8, 0, 0, 0, wrap64 (a2 + 2)⟩ : S54), (⟨9, 0, 0, 0, 0⟩ : S54)] : List (S54))) (inner := [.int .i64 1, .int .i64 0, .int .i64 0, .int .i64 0, .int .i64 a1, .int .i64 1, .int .i64 1, .int .i64 0, .int .i64 0, .int .i64 1, .int .i64 4, .int .i64 2, .int .i64 3, .int .i64 0, .int .i64 a0, .int .i64 2, .int .i64 2, .int .i64 2, .int .i64 1, .int .i64 0, .int .i64 5, .int .i64 0, .int .i64 3, .int .i64 2, .int .i64 a0, .int .i64 10, .int .i64 0, .int .i64 0, .int .i64 1, .int .i64 0, .int .i64 7, .int .i64 0, .int .i64 0, .int .i64 0, .int .i64 (wrap64 (a2 + 8)), .int .i64 8, .int .i64 0, .int .i64 0, .int .i64 0, .int .i64 (wrap64 (a2 + 2)), .int .i64 9, .int .i64 0, .int .i64 0, .int .i64 0, .int .i64 0]) (ok := fun _ => True) (okp := fun _ => True) ?hr ?hp (fun _ hk => hk) trivial (Below.refl _ _) (Nat.le_refl _) (by simp) ?_; (case hd => rfl); (case hg => rfl); (case hr => first | (go_simp; done) | (go_simp; rfl)); (case hp => exact (Reps.c5 (show Kd.M k54 _ _ _ (⟨1, 0, 0, 0, a1⟩ : S54) [.int .i64 1, .int .i64 0, .int .i64 0, .int .i64 0, .int .i64 a1] from (k54_mkM _ _ _ (⟨1, 0, 0, 0, a1⟩ : S54) )) (Reps.c5 (show Kd.M k54 _ _ _ (⟨1, 1, 0, 0, 1⟩ : S54) [.int .i64 1, .int .i64 1, .int .i64 0, .int .i64 0, .int .i64 1] from (k54_mkM _ _ _ (⟨1, 1, 0, 0, 1⟩ : S54) )) (Reps.c5 (show Kd.M k54 _ _ _ (⟨4, 2, 3, 0, a0⟩ : S54) [.int .i64 4, .int .i64 2, .int .i64 3, .int .i64 0, .int .i64 a0] from (k54_mkM _ _ _ (⟨4, 2, 3, 0, a0⟩ : S54) )) (Reps.c5 (show Kd.M k54 _ _ _ (⟨2, 2, 2, 1, 0⟩ : S54) [.int .i64 2, .int .i64 2, .int .i64 2, .int .i64 1, .int .i64 0] from (k54_mkM _ _ _ (⟨2, 2, 2, 1, 0⟩ : S54) )) (Reps.c5 (show Kd.M k54 _ _ _ (⟨5, 0, 3, 2, a0⟩ : S54) [.int .i64 5, .int .i64 0, .int .i64 3, .int .i64 2, .int .i64 a0] from (k54_mkM _ _ _ (⟨5, 0, 3, 2, a0⟩ : S54) )) (Reps.c5 (show Kd.M k54 _ _ _ (⟨10, 0, 0, 1, 0⟩ : S54) [.int .i64 10, .int .i64 0, .int .i64 0, .int .i64 1, .int .i64 0] from (k54_mkM _ _ _ (⟨10, 0, 0, 1, 0⟩ : S54) )) (Reps.c5 (show Kd.M k54 _ _ _ (⟨7, 0, 0, 0, wrap64 (a2 + 8)⟩ : S54) [.int .i64 7, .int .i64 0, .int .i64 0, .int .i64 0, .int .i64 (wrap64 (a2 + 8))] from (k54_mkM _ _ _ (⟨7, 0, 0, 0, wrap64 (a2 + 8)⟩ : S54) )) (Reps.c5 (show Kd.M k54 _ _ _ (⟨8, 0, 0, 0, wrap64 (a2 + 2)⟩ : S54) [.int .i64 8, .int .i64 0, .int .i64 0, .int .i64 0, .int .i64 (wrap64 (a2 + 2))] from (k54_mkM _ _ _ (⟨8, 0, 0, 0, wrap64 (a2 + 2)⟩ : S54) )) (Reps.c5 (show Kd.M k54 _ _ _ (⟨9, 0, 0, 0, 0⟩ : S54) [.int .i64 9, .int .i64 0, .int .i64 0, .int .i64 0, .int .i64 0] from (k54_mkM _ _ _ (⟨9, 0, 0, 0, 0⟩ : S54) )) (Reps.none _ _))))))))))); intro v242 w5 ho6 hb hg_ hnew_; clear hg_ hnew_; (first | rw [← Ny241.out] at ho6 | (simp only [Int.reduceToNat] at ho6; rw [← Ny241.out] at ho6)); have n0_ := Aside0.mk (Kd.R_lower ho6 (below_size (zB7_0))); have n1_ := Aside0.mk (below_step (zB7_0) hb); clear HB; have HO243 := n0_; have HB := n1_; clear n0_ n1_; clear hb ho6; obtain ⟨Ao7, co7, eo7⟩ := Kd.R_slice HO243.out; subst eo7) | ((with_reducible refine gate_callee (f := 82) rfl ?_); refine goesL_ (some 28) rfl rfl Try.func82 (by kernel_rfl) rfl #[.int .i64 a0, .int .i64 a1, .int .i64 a2, .slice Ao7 y241.length co7] rfl zT7 ?_; (with_reducible refine (impl_coded.calls k a0 a1 a2 _ _ y241 t244 t245 _ ?side1 ?side2 A4.out).mono ?_); (case side1 => repeat (first | exact (Kd.R_reads' HO243.out).2.2 | (with_reducible refine Kd.C_alloc ?_ _) | (with_reducible refine Kd.C_drewN ?_ _) | (with_reducible refine Kd.C_drew ?_))); (case side2 => exact (Kd.R_reads' HO243.out).2.1); rintro e w8 ⟨v246, rfl, ho0, hb⟩; refine ⟨_, rfl, ?_⟩; have n0_ := Aside0.mk (Kd.R_below (zR7 HO243.out) hb); have n1_ := Aside0.mk (Kd.R_lower ho0 (below_size (zB7_0))); have n2_ := Aside0.mk (below_step (zB7_0) hb); clear HO243; clear HB; have HO243 := n0_; have HO247 := n1_; have HB := n2_; clear n0_ n1_ n2_; (try clear hb); (try clear hb2); (try clear hk); (try clear hi); (try clear ho0)))
  go_ret2
  exact ⟨_, zE7, zR7 HO247.out, zB7_0⟩

/-! ### spec_l1In: function 99 -/
def spec_l1In.f (a0 : Int) (a1 : Int) (a2 : Int) : Option (Bool) := if a0 ≥ a1 then (some (decide (a0 ≤ a2))) else (some false)
set_option maxHeartbeats 8000000 in
set_option maxRecDepth 100000 in
theorem spec_l1In.calls (a0 : Int) (a1 : Int) (a2 : Int) (r : Bool) (w : World) (h : spec_l1In.f a0 a1 a2 = some r) :
    Calls Try.prog 99 #[.int .i64 a0, .int .i64 a1, .int .i64 a2] w fun e w' => e = .returned (.bool r) ∧ Drawn0 w w' := by
  have H : (if a0 ≥ a1 then (some (decide (a0 ≤ a2))) else (some false)) = some r := h
  clear h
  by_cases c4 : a0 ≥ a1
  · rw [if_pos c4] at H
    have c4b0 : decide (a1 ≤ a0) = true := decide_eq_true c4
    clear c4
    obtain rfl := Option.some.inj H
    go_enter Try.func99, Try.ntmps99
    go_wp2
    go_ret
    exact ⟨by first | rfl | (simp; done) | (simp [*]; done), by repeat (first | exact Drawn0.refl _ | apply Drawn0.step)⟩
  rw [if_neg c4] at H
  have c4b0 : decide (a1 ≤ a0) = false := decide_eq_false c4
  clear c4
  obtain rfl := Option.some.inj H
  go_enter Try.func99, Try.ntmps99
  go_wp2
  go_ret
  exact ⟨by first | rfl | (simp; done) | (simp [*]; done), by repeat (first | exact Drawn0.refl _ | apply Drawn0.step)⟩

/-! ### spec_l25Ok: function 83 -/
def spec_l25Ok.f (a0 : Int) (a1 : Int) (a2 : Int) (a3 : Int) : Option (Bool) := (spec_l1In.f a0 0 23).bind fun t248 => (if t248 = true then ((spec_l1In.f a1 1 63).bind fun t249 => (if t249 = true then ((spec_l1In.f a2 0 (wrap64 (24 - a3))).bind fun t250 => (if t250 = true then ((spec_l1In.f a0 a2 (wrap64 ((wrap64 (a2 + a3)) - 1))).bind fun t251 => (some (!t251))) else (some false))) else (some false))) else (some false))
set_option maxHeartbeats 8000000 in
set_option maxRecDepth 100000 in
theorem spec_l25Ok.calls (a0 : Int) (a1 : Int) (a2 : Int) (a3 : Int) (r : Bool) (w : World) (h : spec_l25Ok.f a0 a1 a2 a3 = some r) :
    Calls Try.prog 83 #[.int .i64 a0, .int .i64 a1, .int .i64 a2, .int .i64 a3] w fun e w' => e = .returned (.bool r) ∧ Drawn0 w w' := by
  have H : ((spec_l1In.f a0 0 23).bind fun t248 => (if t248 = true then ((spec_l1In.f a1 1 63).bind fun t249 => (if t249 = true then ((spec_l1In.f a2 0 (wrap64 (24 - a3))).bind fun t250 => (if t250 = true then ((spec_l1In.f a0 a2 (wrap64 ((wrap64 (a2 + a3)) - 1))).bind fun t251 => (some (!t251))) else (some false))) else (some false))) else (some false))) = some r := h
  clear h
  replace H := Option.bind_eq_some_iff.mp H
  obtain ⟨t248, A50, H⟩ := H
  replace H : (if t248 = true then ((spec_l1In.f a1 1 63).bind fun t249 => (if t249 = true then ((spec_l1In.f a2 0 (wrap64 (24 - a3))).bind fun t250 => (if t250 = true then ((spec_l1In.f a0 a2 (wrap64 ((wrap64 (a2 + a3)) - 1))).bind fun t251 => (some (!t251))) else (some false))) else (some false))) else (some false)) = some r := H
  have A5 := Aside0.mk A50
  clear A50
  by_cases c6 : t248 = true
  rotate_left
  · replace c6 := Bool.eq_false_iff.mpr c6
    subst c6
    have H1 : (some false) = some r := by rw [if_neg (show ¬ (false = true) by decide)] at H; exact H
    clear H
    have H := H1
    clear H1
    obtain rfl := Option.some.inj H
    go_enter Try.func83, Try.ntmps83
    go_wp2_with (first | ((with_reducible refine gate_callee (f := 99) rfl ?_); refine goesL_ (some 10) rfl rfl Try.func99 (by kernel_rfl) rfl #[.int .i64 a0, .int .i64 0, .int .i64 23] rfl zT7 ?_; (with_reducible refine (spec_l1In.calls a0 0 23 false _ A5.out).mono ?_); rintro e w' ⟨rfl, ⟨nd, rfl⟩⟩; refine ⟨_, rfl, ?_⟩))
    go_ret
    exact ⟨by first | rfl | (simp; done) | (simp [*]; done), by repeat (first | exact Drawn0.refl _ | apply Drawn0.step)⟩
  subst c6
  have H1 : ((spec_l1In.f a1 1 63).bind fun t249 => (if t249 = true then ((spec_l1In.f a2 0 (wrap64 (24 - a3))).bind fun t250 => (if t250 = true then ((spec_l1In.f a0 a2 (wrap64 ((wrap64 (a2 + a3)) - 1))).bind fun t251 => (some (!t251))) else (some false))) else (some false))) = some r := by rw [if_pos rfl] at H; exact H
  clear H
  have H := H1
  clear H1
  replace H := Option.bind_eq_some_iff.mp H
  obtain ⟨t249, A70, H⟩ := H
  replace H : (if t249 = true then ((spec_l1In.f a2 0 (wrap64 (24 - a3))).bind fun t250 => (if t250 = true then ((spec_l1In.f a0 a2 (wrap64 ((wrap64 (a2 + a3)) - 1))).bind fun t251 => (some (!t251))) else (some false))) else (some false)) = some r := H
  have A7 := Aside0.mk A70
  clear A70
  by_cases c8 : t249 = true
  rotate_left
  · replace c8 := Bool.eq_false_iff.mpr c8
    subst c8
    have H1 : (some false) = some r := by rw [if_neg (show ¬ (false = true) by decide)] at H; exact H
    clear H
    have H := H1
    clear H1
    obtain rfl := Option.some.inj H
    go_enter Try.func83, Try.ntmps83
    go_wp2_with (first | ((with_reducible refine gate_callee (f := 99) rfl ?_); refine goesL_ (some 10) rfl rfl Try.func99 (by kernel_rfl) rfl #[.int .i64 a0, .int .i64 0, .int .i64 23] rfl zT7 ?_; (with_reducible refine (spec_l1In.calls a0 0 23 true _ A5.out).mono ?_); rintro e w' ⟨rfl, ⟨nd, rfl⟩⟩; refine ⟨_, rfl, ?_⟩) | (go_at_call 99; (with_reducible refine (spec_l1In.calls a1 1 63 false _ A7.out).mono ?_); rintro e w' ⟨rfl, ⟨nd, rfl⟩⟩))
    go_ret
    exact ⟨by first | rfl | (simp; done) | (simp [*]; done), by repeat (first | exact Drawn0.refl _ | apply Drawn0.step)⟩
  subst c8
  have H1 : ((spec_l1In.f a2 0 (wrap64 (24 - a3))).bind fun t250 => (if t250 = true then ((spec_l1In.f a0 a2 (wrap64 ((wrap64 (a2 + a3)) - 1))).bind fun t251 => (some (!t251))) else (some false))) = some r := by rw [if_pos rfl] at H; exact H
  clear H
  have H := H1
  clear H1
  replace H := Option.bind_eq_some_iff.mp H
  obtain ⟨t250, A90, H⟩ := H
  replace H : (if t250 = true then ((spec_l1In.f a0 a2 (wrap64 ((wrap64 (a2 + a3)) - 1))).bind fun t251 => (some (!t251))) else (some false)) = some r := H
  have A9 := Aside0.mk A90
  clear A90
  by_cases c10 : t250 = true
  rotate_left
  · replace c10 := Bool.eq_false_iff.mpr c10
    subst c10
    have H1 : (some false) = some r := by rw [if_neg (show ¬ (false = true) by decide)] at H; exact H
    clear H
    have H := H1
    clear H1
    obtain rfl := Option.some.inj H
    go_enter Try.func83, Try.ntmps83
    go_wp2_with (first | ((with_reducible refine gate_callee (f := 99) rfl ?_); refine goesL_ (some 10) rfl rfl Try.func99 (by kernel_rfl) rfl #[.int .i64 a0, .int .i64 0, .int .i64 23] rfl zT7 ?_; (with_reducible refine (spec_l1In.calls a0 0 23 true _ A5.out).mono ?_); rintro e w' ⟨rfl, ⟨nd, rfl⟩⟩; refine ⟨_, rfl, ?_⟩) | (go_at_call 99; (with_reducible refine (spec_l1In.calls a1 1 63 true _ A7.out).mono ?_); rintro e w' ⟨rfl, ⟨nd, rfl⟩⟩) | (go_at_call 99; (with_reducible refine (spec_l1In.calls a2 0 (wrap64 (24 - a3)) false _ A9.out).mono ?_); rintro e w' ⟨rfl, ⟨nd, rfl⟩⟩))
    go_ret
    exact ⟨by first | rfl | (simp; done) | (simp [*]; done), by repeat (first | exact Drawn0.refl _ | apply Drawn0.step)⟩
  subst c10
  have H1 : ((spec_l1In.f a0 a2 (wrap64 ((wrap64 (a2 + a3)) - 1))).bind fun t251 => (some (!t251))) = some r := by rw [if_pos rfl] at H; exact H
  clear H
  have H := H1
  clear H1
  replace H := Option.bind_eq_some_iff.mp H
  obtain ⟨t251, A110, H⟩ := H
  replace H : (some (!t251)) = some r := H
  have A11 := Aside0.mk A110
  clear A110
  obtain rfl := Option.some.inj H
  go_enter Try.func83, Try.ntmps83
  go_wp2_with (first | ((with_reducible refine gate_callee (f := 99) rfl ?_); refine goesL_ (some 10) rfl rfl Try.func99 (by kernel_rfl) rfl #[.int .i64 a0, .int .i64 0, .int .i64 23] rfl zT7 ?_; (with_reducible refine (spec_l1In.calls a0 0 23 true _ A5.out).mono ?_); rintro e w' ⟨rfl, ⟨nd, rfl⟩⟩; refine ⟨_, rfl, ?_⟩) | (go_at_call 99; (with_reducible refine (spec_l1In.calls a1 1 63 true _ A7.out).mono ?_); rintro e w' ⟨rfl, ⟨nd, rfl⟩⟩) | (go_at_call 99; (with_reducible refine (spec_l1In.calls a2 0 (wrap64 (24 - a3)) true _ A9.out).mono ?_); rintro e w' ⟨rfl, ⟨nd, rfl⟩⟩) | (go_at_call 99; (with_reducible refine (spec_l1In.calls a0 a2 (wrap64 ((wrap64 (a2 + a3)) - 1)) t251 _ A11.out).mono ?_); rintro e w' ⟨rfl, ⟨nd, rfl⟩⟩))
  go_ret
  exact ⟨by first | rfl | (simp; done) | (simp [*]; done), by repeat (first | exact Drawn0.refl _ | apply Drawn0.step)⟩

/-! ### spec_l8Has: function 158 -/
def spec_l8Has.f (a0 : Int) : Option (Int) := (spec_l1In.f a0 1 10).bind fun t252 => (if t252 = true then ((some (([0, 9, 7, 11, 11, 14, 15, 10, 8, 0, 7] : List Int) : List Int)).bind fun y253 => (if 0 ≤ a0 then (if a0 < (y253.length : Int) then (some (rd y253 a0)) else (none)) else (none))) else (some 0))
set_option maxHeartbeats 8000000 in
set_option maxRecDepth 100000 in
theorem spec_l8Has.calls (a0 : Int) (r : Int) (w : World) (h : spec_l8Has.f a0 = some r) :
    Calls Try.prog 158 #[.int .i64 a0] w fun e w' => e = .returned (.int .i64 r) ∧ Below w.heap.size w w' := by
  have HB := Aside0.mk (Below.refl w.heap.size w)
  have H : ((spec_l1In.f a0 1 10).bind fun t252 => (if t252 = true then ((some (([0, 9, 7, 11, 11, 14, 15, 10, 8, 0, 7] : List Int) : List Int)).bind fun y253 => (if 0 ≤ a0 then (if a0 < (y253.length : Int) then (some (rd y253 a0)) else (none)) else (none))) else (some 0))) = some r := h
  clear h
  replace H := Option.bind_eq_some_iff.mp H
  obtain ⟨t252, A20, H⟩ := H
  replace H : (if t252 = true then ((some (([0, 9, 7, 11, 11, 14, 15, 10, 8, 0, 7] : List Int) : List Int)).bind fun y253 => (if 0 ≤ a0 then (if a0 < (y253.length : Int) then (some (rd y253 a0)) else (none)) else (none))) else (some 0)) = some r := H
  have A2 := Aside0.mk A20
  clear A20
  by_cases c3 : t252 = true
  rotate_left
  · replace c3 := Bool.eq_false_iff.mpr c3
    subst c3
    have H1 : (some 0) = some r := by rw [if_neg (show ¬ (false = true) by decide)] at H; exact H
    clear H
    have H := H1
    clear H1
    obtain rfl := Option.some.inj H
    go_enter Try.func158, Try.ntmps158
    go_wp2_with (first | ((with_reducible refine gate_callee (f := 99) rfl ?_); refine goesL_ (some 4) rfl rfl Try.func99 (by kernel_rfl) rfl #[.int .i64 a0, .int .i64 1, .int .i64 10] rfl zT7 ?_; (with_reducible refine (spec_l1In.calls a0 1 10 false _ A2.out).mono ?_); rintro e w' ⟨rfl, ⟨nd, rfl⟩⟩; refine ⟨_, rfl, ?_⟩))
    go_ret
    exact ⟨zE7, zB7_0⟩
  subst c3
  have H1 : ((some (([0, 9, 7, 11, 11, 14, 15, 10, 8, 0, 7] : List Int) : List Int)).bind fun y253 => (if 0 ≤ a0 then (if a0 < (y253.length : Int) then (some (rd y253 a0)) else (none)) else (none))) = some r := by rw [if_pos rfl] at H; exact H
  clear H
  have H := H1
  clear H1
  obtain ⟨y253, hy253⟩ : ∃ y_ : List Int, y_ = (([0, 9, 7, 11, 11, 14, 15, 10, 8, 0, 7] : List Int)) := ⟨_, rfl⟩
  replace H : (if 0 ≤ a0 then (if a0 < (y253.length : Int) then (some (rd y253 a0)) else (none)) else (none)) = some r := by first | (rw [hy253]; with_reducible exact H) | (have H2_ := (Option.bind_some _ _).symm.trans H; rw [hy253]; with_reducible exact H2_) | (have H2_ := (Option.bind_some _ _).symm.trans H; with_reducible exact H2_) | with_reducible exact H | (rw [hy253]; exact H) | exact H
  have Ny253 := Aside0.mk hy253
  clear hy253
  by_cases c4 : 0 ≤ a0
  rotate_left
  · rw [if_neg c4] at H
    exact absurd H (by simp)
  rw [if_pos c4] at H
  have c4b0 : decide (0 ≤ a0) = true := decide_eq_true c4
  clear c4
  by_cases c5 : a0 < (y253.length : Int)
  rotate_left
  · rw [if_neg c5] at H
    exact absurd H (by simp)
  rw [if_pos c5] at H
  have c5b0 : decide (a0 < (y253.length : Int)) = true := decide_eq_true c5
  clear c5
  obtain rfl := Option.some.inj H
  go_enter Try.func158, Try.ntmps158
  go_wp2_with (first | ((with_reducible refine gate_callee (f := 99) rfl ?_); refine goesL_ (some 4) rfl rfl Try.func99 (by kernel_rfl) rfl #[.int .i64 a0, .int .i64 1, .int .i64 10] rfl zT7 ?_; (with_reducible refine (spec_l1In.calls a0 1 10 true _ A2.out).mono ?_); rintro e w' ⟨rfl, ⟨nd, rfl⟩⟩; refine ⟨_, rfl, ?_⟩) | ((with_reducible refine gate_dst (N := 6) rfl ?_); refine Kd.R_lit (Kd.int .i64) _ 3 ?hg (N := 6) ?hd (xs := ([0, 9, 7, 11, 11, 14, 15, 10, 8, 0, 7] : List Int)) (inner := [.int .i64 0, .int .i64 9, .int .i64 7, .int .i64 11, .int .i64 11, .int .i64 14, .int .i64 15, .int .i64 10, .int .i64 8, .int .i64 0, .int .i64 7]) (ok := fun _ => True) (okp := fun _ => True) ?hr ?hp (fun _ hk => hk) trivial (Below.refl _ _) (Nat.le_refl _) (by simp) ?_; (case hd => rfl); (case hg => rfl); (case hr => first | (go_simp; done) | (go_simp; rfl)); (case hp => exact (Reps.one (show Kd.M (Kd.int .i64) _ _ _ 0 [.int .i64 0] from rfl) (Reps.one (show Kd.M (Kd.int .i64) _ _ _ 9 [.int .i64 9] from rfl) (Reps.one (show Kd.M (Kd.int .i64) _ _ _ 7 [.int .i64 7] from rfl) (Reps.one (show Kd.M (Kd.int .i64) _ _ _ 11 [.int .i64 11] from rfl) (Reps.one (show Kd.M (Kd.int .i64) _ _ _ 11 [.int .i64 11] from rfl) (Reps.one (show Kd.M (Kd.int .i64) _ _ _ 14 [.int .i64 14] from rfl) (Reps.one (show Kd.M (Kd.int .i64) _ _ _ 15 [.int .i64 15] from rfl) (Reps.one (show Kd.M (Kd.int .i64) _ _ _ 10 [.int .i64 10] from rfl) (Reps.one (show Kd.M (Kd.int .i64) _ _ _ 8 [.int .i64 8] from rfl) (Reps.one (show Kd.M (Kd.int .i64) _ _ _ 0 [.int .i64 0] from rfl) (Reps.one (show Kd.M (Kd.int .i64) _ _ _ 7 [.int .i64 7] from rfl) (Reps.none _ _))))))))))))); intro v254 w6 ho7 hb hg_ hnew_; clear hg_ hnew_; (first | rw [← Ny253.out] at ho7 | (simp only [Int.reduceToNat] at ho7; rw [← Ny253.out] at ho7)); have n0_ := Aside0.mk (Kd.R_lower ho7 (below_size (zB7_0))); have n1_ := Aside0.mk (below_step (zB7_0) hb); clear HB; have HO255 := n0_; have HB := n1_; clear n0_ n1_; clear hb ho7; obtain ⟨Ao8, co8, eo8⟩ := Kd.R_slice HO255.out; subst eo8; have p256 : 0 ≤ (a0 : Int) := zA7; have q256 : a0 < (y253.length : Int) := zA7; obtain ⟨ad256, e256, hx256_0⟩ := Kd.at_int (Kd.R_reads' HO255.out).2.2 a0 p256 q256; cases e256; replace p256 := eq_true p256; replace q256 := eq_true q256))
  go_ret
  exact ⟨zE7, zB7_0⟩

/-! ### spec_l8Field: function 159 -/
def spec_l8Field.f (a0 : Int) (a1 : Int) (a2 : Bool) : Option (Bool) := (spec_l1In.f a0 0 a1).bind fun t257 => (if t257 = true then (if a2 = true then (some true) else (some (a0 == 0))) else (some false))
set_option maxHeartbeats 8000000 in
set_option maxRecDepth 100000 in
theorem spec_l8Field.calls (a0 : Int) (a1 : Int) (a2 : Bool) (r : Bool) (w : World) (h : spec_l8Field.f a0 a1 a2 = some r) :
    Calls Try.prog 159 #[.int .i64 a0, .int .i64 a1, .bool a2] w fun e w' => e = .returned (.bool r) ∧ Drawn0 w w' := by
  have H : ((spec_l1In.f a0 0 a1).bind fun t257 => (if t257 = true then (if a2 = true then (some true) else (some (a0 == 0))) else (some false))) = some r := h
  clear h
  replace H := Option.bind_eq_some_iff.mp H
  obtain ⟨t257, A40, H⟩ := H
  replace H : (if t257 = true then (if a2 = true then (some true) else (some (a0 == 0))) else (some false)) = some r := H
  have A4 := Aside0.mk A40
  clear A40
  by_cases c5 : t257 = true
  rotate_left
  · replace c5 := Bool.eq_false_iff.mpr c5
    subst c5
    have H1 : (some false) = some r := by rw [if_neg (show ¬ (false = true) by decide)] at H; exact H
    clear H
    have H := H1
    clear H1
    obtain rfl := Option.some.inj H
    go_enter Try.func159, Try.ntmps159
    go_wp2_with (first | ((with_reducible refine gate_callee (f := 99) rfl ?_); refine goesL_ (some 9) rfl rfl Try.func99 (by kernel_rfl) rfl #[.int .i64 a0, .int .i64 0, .int .i64 a1] rfl zT7 ?_; (with_reducible refine (spec_l1In.calls a0 0 a1 false _ A4.out).mono ?_); rintro e w' ⟨rfl, ⟨nd, rfl⟩⟩; refine ⟨_, rfl, ?_⟩))
    go_ret
    exact ⟨by first | rfl | (simp; done) | (simp [*]; done), by repeat (first | exact Drawn0.refl _ | apply Drawn0.step)⟩
  subst c5
  have H1 : (if a2 = true then (some true) else (some (a0 == 0))) = some r := by rw [if_pos rfl] at H; exact H
  clear H
  have H := H1
  clear H1
  by_cases c6 : a2 = true
  · subst c6
    have H1 : (some true) = some r := by rw [if_pos rfl] at H; exact H
    clear H
    have H := H1
    clear H1
    obtain rfl := Option.some.inj H
    go_enter Try.func159, Try.ntmps159
    go_wp2_with (first | ((with_reducible refine gate_callee (f := 99) rfl ?_); refine goesL_ (some 9) rfl rfl Try.func99 (by kernel_rfl) rfl #[.int .i64 a0, .int .i64 0, .int .i64 a1] rfl zT7 ?_; (with_reducible refine (spec_l1In.calls a0 0 a1 true _ A4.out).mono ?_); rintro e w' ⟨rfl, ⟨nd, rfl⟩⟩; refine ⟨_, rfl, ?_⟩))
    go_ret
    exact ⟨by first | rfl | (simp; done) | (simp [*]; done), by repeat (first | exact Drawn0.refl _ | apply Drawn0.step)⟩
  replace c6 := Bool.eq_false_iff.mpr c6
  subst c6
  have H1 : (some (a0 == 0)) = some r := by rw [if_neg (show ¬ (false = true) by decide)] at H; exact H
  clear H
  have H := H1
  clear H1
  obtain rfl := Option.some.inj H
  go_enter Try.func159, Try.ntmps159
  go_wp2_with (first | ((with_reducible refine gate_callee (f := 99) rfl ?_); refine goesL_ (some 9) rfl rfl Try.func99 (by kernel_rfl) rfl #[.int .i64 a0, .int .i64 0, .int .i64 a1] rfl zT7 ?_; (with_reducible refine (spec_l1In.calls a0 0 a1 true _ A4.out).mono ?_); rintro e w' ⟨rfl, ⟨nd, rfl⟩⟩; refine ⟨_, rfl, ?_⟩))
  go_ret
  exact ⟨by first | rfl | (simp; done) | (simp [*]; done), by repeat (first | exact Drawn0.refl _ | apply Drawn0.step)⟩

/-! ### spec_InsOk: function 97 -/
def spec_InsOk.f (a0_0 : Int) (a0_1 : Int) (a0_2 : Int) (a0_3 : Int) (a0_4 : Int) : Option (Bool) := (spec_l8Has.f a0_0).bind fun t259 => ((spec_l1In.f a0_0 1 10).bind fun t260 => (if t260 = true then ((spec_l8Field.f a0_1 3 ((Go.bits .and .i64 t259 1) != 0)).bind fun t261 => (if t261 = true then ((spec_l8Field.f a0_2 3 ((Go.bits .and .i64 t259 2) != 0)).bind fun t262 => (if t262 = true then ((spec_l8Field.f a0_3 3 ((Go.bits .and .i64 t259 4) != 0)).bind fun t263 => (if t263 = true then ((spec_l8Field.f a0_4 63 ((Go.bits .and .i64 t259 8) != 0)).bind fun t264 => (some t264)) else (some false))) else (some false))) else (some false))) else (some false)))
set_option maxHeartbeats 8000000 in
set_option maxRecDepth 100000 in
theorem spec_InsOk.calls (a0_0 : Int) (a0_1 : Int) (a0_2 : Int) (a0_3 : Int) (a0_4 : Int) (r : Bool) (w : World) (h : spec_InsOk.f a0_0 a0_1 a0_2 a0_3 a0_4 = some r) :
    Calls Try.prog 97 #[.agg #[.int .i64 a0_0, .int .i64 a0_1, .int .i64 a0_2, .int .i64 a0_3, .int .i64 a0_4]] w fun e w' => e = .returned (.bool r) ∧ Below w.heap.size w w' := by
  have hu54 := Try.underlying54
  have HB := Aside0.mk (Below.refl w.heap.size w)
  have H : ((spec_l8Has.f a0_0).bind fun t259 => ((spec_l1In.f a0_0 1 10).bind fun t260 => (if t260 = true then ((spec_l8Field.f a0_1 3 ((Go.bits .and .i64 t259 1) != 0)).bind fun t261 => (if t261 = true then ((spec_l8Field.f a0_2 3 ((Go.bits .and .i64 t259 2) != 0)).bind fun t262 => (if t262 = true then ((spec_l8Field.f a0_3 3 ((Go.bits .and .i64 t259 4) != 0)).bind fun t263 => (if t263 = true then ((spec_l8Field.f a0_4 63 ((Go.bits .and .i64 t259 8) != 0)).bind fun t264 => (some t264)) else (some false))) else (some false))) else (some false))) else (some false)))) = some r := h
  clear h
  replace H := Option.bind_eq_some_iff.mp H
  obtain ⟨t259, A20, H⟩ := H
  replace H : ((spec_l1In.f a0_0 1 10).bind fun t260 => (if t260 = true then ((spec_l8Field.f a0_1 3 ((Go.bits .and .i64 t259 1) != 0)).bind fun t261 => (if t261 = true then ((spec_l8Field.f a0_2 3 ((Go.bits .and .i64 t259 2) != 0)).bind fun t262 => (if t262 = true then ((spec_l8Field.f a0_3 3 ((Go.bits .and .i64 t259 4) != 0)).bind fun t263 => (if t263 = true then ((spec_l8Field.f a0_4 63 ((Go.bits .and .i64 t259 8) != 0)).bind fun t264 => (some t264)) else (some false))) else (some false))) else (some false))) else (some false))) = some r := H
  have A2 := Aside0.mk A20
  clear A20
  replace H := Option.bind_eq_some_iff.mp H
  obtain ⟨t260, A30, H⟩ := H
  replace H : (if t260 = true then ((spec_l8Field.f a0_1 3 ((Go.bits .and .i64 t259 1) != 0)).bind fun t261 => (if t261 = true then ((spec_l8Field.f a0_2 3 ((Go.bits .and .i64 t259 2) != 0)).bind fun t262 => (if t262 = true then ((spec_l8Field.f a0_3 3 ((Go.bits .and .i64 t259 4) != 0)).bind fun t263 => (if t263 = true then ((spec_l8Field.f a0_4 63 ((Go.bits .and .i64 t259 8) != 0)).bind fun t264 => (some t264)) else (some false))) else (some false))) else (some false))) else (some false)) = some r := H
  have A3 := Aside0.mk A30
  clear A30
  by_cases c4 : t260 = true
  rotate_left
  · replace c4 := Bool.eq_false_iff.mpr c4
    subst c4
    have H1 : (some false) = some r := by rw [if_neg (show ¬ (false = true) by decide)] at H; exact H
    clear H
    have H := H1
    clear H1
    obtain rfl := Option.some.inj H
    go_enter Try.func97, Try.ntmps97
    go_wp2_with (first | ((with_reducible refine gate_dst (N := 1) rfl ?_); refine box_event ?hg (N := 1) ?hd (cs := #[.int .i64 a0_0, .int .i64 a0_1, .int .i64 a0_2, .int .i64 a0_3, .int .i64 a0_4]) (t := 54) ?hr ?_; (case hd => rfl); (case hg => rfl); (case hr => first | (go_simp; done) | (go_simp; rfl)); intro gb258 hg w28 hbox hb; have n0_ := Aside0.mk (below_step (zB7_0) hb); have n1_ := Aside0.mk (hbox); have n2_ := Aside0.mk ((by rw [hg]; exact (below_size (zB7_0)) : w.heap.size ≤ gb258)); have n3_ := Aside0.mk ((by rw [hg]; exact (below_size (zB7_0)) : w.heap.size ≤ gb258)); clear HB; have HB := n0_; have BK258 := n1_; have GW258 := n2_; have GE258 := n3_; clear n0_ n1_ n2_ n3_; clear hb hbox hg; have hcz29_0 : w28.cell? ⟨gb258, 0, none⟩ = some (.int .i64 a0_0) := (blk_cell BK258.out 0).trans rfl; have hcz29_1 : w28.cell? ⟨gb258, 1, none⟩ = some (.int .i64 a0_1) := (blk_cell BK258.out 1).trans rfl; have hcz29_2 : w28.cell? ⟨gb258, 2, none⟩ = some (.int .i64 a0_2) := (blk_cell BK258.out 2).trans rfl; have hcz29_3 : w28.cell? ⟨gb258, 3, none⟩ = some (.int .i64 a0_3) := (blk_cell BK258.out 3).trans rfl; have hcz29_4 : w28.cell? ⟨gb258, 4, none⟩ = some (.int .i64 a0_4) := (blk_cell BK258.out 4).trans rfl; have hfz29_0 := blk_frozen BK258.out 0; have hfz29_1 := blk_frozen BK258.out 1; have hfz29_2 := blk_frozen BK258.out 2; have hfz29_3 := blk_frozen BK258.out 3; have hfz29_4 := blk_frozen BK258.out 4) | ((with_reducible refine gate_callee (f := 158) rfl ?_); refine goesL_ (some 6) rfl rfl Try.func158 (by kernel_rfl) rfl #[.int .i64 a0_0] rfl zT7 ?_; (with_reducible refine (spec_l8Has.calls a0_0 t259 _ A2.out).mono ?_); rintro e w30 ⟨rfl, hb⟩; refine ⟨_, rfl, ?_⟩; have n0_ := Aside0.mk (blk_below (g := gb258) (o := .cells #[.int .i64 a0_0, .int .i64 a0_1, .int .i64 a0_2, .int .i64 a0_3, .int .i64 a0_4] 54 (0, 0)) (zK7 BK258.out) hb); have n1_ := Aside0.mk (below_step (zB7_2) hb); clear BK258; clear HB; have BK258 := n0_; have HB := n1_; clear n0_ n1_; (try clear hb); (try clear hb2); (try clear hk); (try clear hi); have hcz31_0 : w30.cell? ⟨gb258, 0, none⟩ = some (.int .i64 a0_0) := (blk_cell BK258.out 0).trans rfl; have hcz31_1 : w30.cell? ⟨gb258, 1, none⟩ = some (.int .i64 a0_1) := (blk_cell BK258.out 1).trans rfl; have hcz31_2 : w30.cell? ⟨gb258, 2, none⟩ = some (.int .i64 a0_2) := (blk_cell BK258.out 2).trans rfl; have hcz31_3 : w30.cell? ⟨gb258, 3, none⟩ = some (.int .i64 a0_3) := (blk_cell BK258.out 3).trans rfl; have hcz31_4 : w30.cell? ⟨gb258, 4, none⟩ = some (.int .i64 a0_4) := (blk_cell BK258.out 4).trans rfl; have hfz31_0 := blk_frozen BK258.out 0; have hfz31_1 := blk_frozen BK258.out 1; have hfz31_2 := blk_frozen BK258.out 2; have hfz31_3 := blk_frozen BK258.out 3; have hfz31_4 := blk_frozen BK258.out 4) | ((with_reducible refine gate_callee (f := 99) rfl ?_); refine goesL_ (some 9) rfl rfl Try.func99 (by kernel_rfl) rfl #[.int .i64 a0_0, .int .i64 1, .int .i64 10] rfl zT7 ?_; (with_reducible refine (spec_l1In.calls a0_0 1 10 false _ A3.out).mono ?_); rintro e w' ⟨rfl, ⟨nd, rfl⟩⟩; refine ⟨_, rfl, ?_⟩))
    go_ret
    exact ⟨zE7, zB7_2⟩
  subst c4
  have H1 : ((spec_l8Field.f a0_1 3 ((Go.bits .and .i64 t259 1) != 0)).bind fun t261 => (if t261 = true then ((spec_l8Field.f a0_2 3 ((Go.bits .and .i64 t259 2) != 0)).bind fun t262 => (if t262 = true then ((spec_l8Field.f a0_3 3 ((Go.bits .and .i64 t259 4) != 0)).bind fun t263 => (if t263 = true then ((spec_l8Field.f a0_4 63 ((Go.bits .and .i64 t259 8) != 0)).bind fun t264 => (some t264)) else (some false))) else (some false))) else (some false))) = some r := by rw [if_pos rfl] at H; exact H
  clear H
  have H := H1
  clear H1
  replace H := Option.bind_eq_some_iff.mp H
  obtain ⟨t261, A50, H⟩ := H
  replace H : (if t261 = true then ((spec_l8Field.f a0_2 3 ((Go.bits .and .i64 t259 2) != 0)).bind fun t262 => (if t262 = true then ((spec_l8Field.f a0_3 3 ((Go.bits .and .i64 t259 4) != 0)).bind fun t263 => (if t263 = true then ((spec_l8Field.f a0_4 63 ((Go.bits .and .i64 t259 8) != 0)).bind fun t264 => (some t264)) else (some false))) else (some false))) else (some false)) = some r := H
  have A5 := Aside0.mk A50
  clear A50
  by_cases c6 : t261 = true
  rotate_left
  · replace c6 := Bool.eq_false_iff.mpr c6
    subst c6
    have H1 : (some false) = some r := by rw [if_neg (show ¬ (false = true) by decide)] at H; exact H
    clear H
    have H := H1
    clear H1
    obtain rfl := Option.some.inj H
    go_enter Try.func97, Try.ntmps97
    go_wp2_with (first | ((with_reducible refine gate_dst (N := 1) rfl ?_); refine box_event ?hg (N := 1) ?hd (cs := #[.int .i64 a0_0, .int .i64 a0_1, .int .i64 a0_2, .int .i64 a0_3, .int .i64 a0_4]) (t := 54) ?hr ?_; (case hd => rfl); (case hg => rfl); (case hr => first | (go_simp; done) | (go_simp; rfl)); intro gb258 hg w24 hbox hb; have n0_ := Aside0.mk (below_step (zB7_0) hb); have n1_ := Aside0.mk (hbox); have n2_ := Aside0.mk ((by rw [hg]; exact (below_size (zB7_0)) : w.heap.size ≤ gb258)); have n3_ := Aside0.mk ((by rw [hg]; exact (below_size (zB7_0)) : w.heap.size ≤ gb258)); clear HB; have HB := n0_; have BK258 := n1_; have GW258 := n2_; have GE258 := n3_; clear n0_ n1_ n2_ n3_; clear hb hbox hg; have hcz25_0 : w24.cell? ⟨gb258, 0, none⟩ = some (.int .i64 a0_0) := (blk_cell BK258.out 0).trans rfl; have hcz25_1 : w24.cell? ⟨gb258, 1, none⟩ = some (.int .i64 a0_1) := (blk_cell BK258.out 1).trans rfl; have hcz25_2 : w24.cell? ⟨gb258, 2, none⟩ = some (.int .i64 a0_2) := (blk_cell BK258.out 2).trans rfl; have hcz25_3 : w24.cell? ⟨gb258, 3, none⟩ = some (.int .i64 a0_3) := (blk_cell BK258.out 3).trans rfl; have hcz25_4 : w24.cell? ⟨gb258, 4, none⟩ = some (.int .i64 a0_4) := (blk_cell BK258.out 4).trans rfl; have hfz25_0 := blk_frozen BK258.out 0; have hfz25_1 := blk_frozen BK258.out 1; have hfz25_2 := blk_frozen BK258.out 2; have hfz25_3 := blk_frozen BK258.out 3; have hfz25_4 := blk_frozen BK258.out 4) | ((with_reducible refine gate_callee (f := 158) rfl ?_); refine goesL_ (some 6) rfl rfl Try.func158 (by kernel_rfl) rfl #[.int .i64 a0_0] rfl zT7 ?_; (with_reducible refine (spec_l8Has.calls a0_0 t259 _ A2.out).mono ?_); rintro e w26 ⟨rfl, hb⟩; refine ⟨_, rfl, ?_⟩; have n0_ := Aside0.mk (blk_below (g := gb258) (o := .cells #[.int .i64 a0_0, .int .i64 a0_1, .int .i64 a0_2, .int .i64 a0_3, .int .i64 a0_4] 54 (0, 0)) (zK7 BK258.out) hb); have n1_ := Aside0.mk (below_step (zB7_2) hb); clear BK258; clear HB; have BK258 := n0_; have HB := n1_; clear n0_ n1_; (try clear hb); (try clear hb2); (try clear hk); (try clear hi); have hcz27_0 : w26.cell? ⟨gb258, 0, none⟩ = some (.int .i64 a0_0) := (blk_cell BK258.out 0).trans rfl; have hcz27_1 : w26.cell? ⟨gb258, 1, none⟩ = some (.int .i64 a0_1) := (blk_cell BK258.out 1).trans rfl; have hcz27_2 : w26.cell? ⟨gb258, 2, none⟩ = some (.int .i64 a0_2) := (blk_cell BK258.out 2).trans rfl; have hcz27_3 : w26.cell? ⟨gb258, 3, none⟩ = some (.int .i64 a0_3) := (blk_cell BK258.out 3).trans rfl; have hcz27_4 : w26.cell? ⟨gb258, 4, none⟩ = some (.int .i64 a0_4) := (blk_cell BK258.out 4).trans rfl; have hfz27_0 := blk_frozen BK258.out 0; have hfz27_1 := blk_frozen BK258.out 1; have hfz27_2 := blk_frozen BK258.out 2; have hfz27_3 := blk_frozen BK258.out 3; have hfz27_4 := blk_frozen BK258.out 4) | ((with_reducible refine gate_callee (f := 99) rfl ?_); refine goesL_ (some 9) rfl rfl Try.func99 (by kernel_rfl) rfl #[.int .i64 a0_0, .int .i64 1, .int .i64 10] rfl zT7 ?_; (with_reducible refine (spec_l1In.calls a0_0 1 10 true _ A3.out).mono ?_); rintro e w' ⟨rfl, ⟨nd, rfl⟩⟩; refine ⟨_, rfl, ?_⟩) | (go_at_call 159; (with_reducible refine (spec_l8Field.calls a0_1 3 ((Go.bits .and .i64 t259 1) != 0) false _ A5.out).mono ?_); rintro e w' ⟨rfl, ⟨nd, rfl⟩⟩))
    go_ret
    exact ⟨zE7, zB7_2⟩
  subst c6
  have H1 : ((spec_l8Field.f a0_2 3 ((Go.bits .and .i64 t259 2) != 0)).bind fun t262 => (if t262 = true then ((spec_l8Field.f a0_3 3 ((Go.bits .and .i64 t259 4) != 0)).bind fun t263 => (if t263 = true then ((spec_l8Field.f a0_4 63 ((Go.bits .and .i64 t259 8) != 0)).bind fun t264 => (some t264)) else (some false))) else (some false))) = some r := by rw [if_pos rfl] at H; exact H
  clear H
  have H := H1
  clear H1
  replace H := Option.bind_eq_some_iff.mp H
  obtain ⟨t262, A70, H⟩ := H
  replace H : (if t262 = true then ((spec_l8Field.f a0_3 3 ((Go.bits .and .i64 t259 4) != 0)).bind fun t263 => (if t263 = true then ((spec_l8Field.f a0_4 63 ((Go.bits .and .i64 t259 8) != 0)).bind fun t264 => (some t264)) else (some false))) else (some false)) = some r := H
  have A7 := Aside0.mk A70
  clear A70
  by_cases c8 : t262 = true
  rotate_left
  · replace c8 := Bool.eq_false_iff.mpr c8
    subst c8
    have H1 : (some false) = some r := by rw [if_neg (show ¬ (false = true) by decide)] at H; exact H
    clear H
    have H := H1
    clear H1
    obtain rfl := Option.some.inj H
    go_enter Try.func97, Try.ntmps97
    go_wp2_with (first | ((with_reducible refine gate_dst (N := 1) rfl ?_); refine box_event ?hg (N := 1) ?hd (cs := #[.int .i64 a0_0, .int .i64 a0_1, .int .i64 a0_2, .int .i64 a0_3, .int .i64 a0_4]) (t := 54) ?hr ?_; (case hd => rfl); (case hg => rfl); (case hr => first | (go_simp; done) | (go_simp; rfl)); intro gb258 hg w20 hbox hb; have n0_ := Aside0.mk (below_step (zB7_0) hb); have n1_ := Aside0.mk (hbox); have n2_ := Aside0.mk ((by rw [hg]; exact (below_size (zB7_0)) : w.heap.size ≤ gb258)); have n3_ := Aside0.mk ((by rw [hg]; exact (below_size (zB7_0)) : w.heap.size ≤ gb258)); clear HB; have HB := n0_; have BK258 := n1_; have GW258 := n2_; have GE258 := n3_; clear n0_ n1_ n2_ n3_; clear hb hbox hg; have hcz21_0 : w20.cell? ⟨gb258, 0, none⟩ = some (.int .i64 a0_0) := (blk_cell BK258.out 0).trans rfl; have hcz21_1 : w20.cell? ⟨gb258, 1, none⟩ = some (.int .i64 a0_1) := (blk_cell BK258.out 1).trans rfl; have hcz21_2 : w20.cell? ⟨gb258, 2, none⟩ = some (.int .i64 a0_2) := (blk_cell BK258.out 2).trans rfl; have hcz21_3 : w20.cell? ⟨gb258, 3, none⟩ = some (.int .i64 a0_3) := (blk_cell BK258.out 3).trans rfl; have hcz21_4 : w20.cell? ⟨gb258, 4, none⟩ = some (.int .i64 a0_4) := (blk_cell BK258.out 4).trans rfl; have hfz21_0 := blk_frozen BK258.out 0; have hfz21_1 := blk_frozen BK258.out 1; have hfz21_2 := blk_frozen BK258.out 2; have hfz21_3 := blk_frozen BK258.out 3; have hfz21_4 := blk_frozen BK258.out 4) | ((with_reducible refine gate_callee (f := 158) rfl ?_); refine goesL_ (some 6) rfl rfl Try.func158 (by kernel_rfl) rfl #[.int .i64 a0_0] rfl zT7 ?_; (with_reducible refine (spec_l8Has.calls a0_0 t259 _ A2.out).mono ?_); rintro e w22 ⟨rfl, hb⟩; refine ⟨_, rfl, ?_⟩; have n0_ := Aside0.mk (blk_below (g := gb258) (o := .cells #[.int .i64 a0_0, .int .i64 a0_1, .int .i64 a0_2, .int .i64 a0_3, .int .i64 a0_4] 54 (0, 0)) (zK7 BK258.out) hb); have n1_ := Aside0.mk (below_step (zB7_2) hb); clear BK258; clear HB; have BK258 := n0_; have HB := n1_; clear n0_ n1_; (try clear hb); (try clear hb2); (try clear hk); (try clear hi); have hcz23_0 : w22.cell? ⟨gb258, 0, none⟩ = some (.int .i64 a0_0) := (blk_cell BK258.out 0).trans rfl; have hcz23_1 : w22.cell? ⟨gb258, 1, none⟩ = some (.int .i64 a0_1) := (blk_cell BK258.out 1).trans rfl; have hcz23_2 : w22.cell? ⟨gb258, 2, none⟩ = some (.int .i64 a0_2) := (blk_cell BK258.out 2).trans rfl; have hcz23_3 : w22.cell? ⟨gb258, 3, none⟩ = some (.int .i64 a0_3) := (blk_cell BK258.out 3).trans rfl; have hcz23_4 : w22.cell? ⟨gb258, 4, none⟩ = some (.int .i64 a0_4) := (blk_cell BK258.out 4).trans rfl; have hfz23_0 := blk_frozen BK258.out 0; have hfz23_1 := blk_frozen BK258.out 1; have hfz23_2 := blk_frozen BK258.out 2; have hfz23_3 := blk_frozen BK258.out 3; have hfz23_4 := blk_frozen BK258.out 4) | ((with_reducible refine gate_callee (f := 99) rfl ?_); refine goesL_ (some 9) rfl rfl Try.func99 (by kernel_rfl) rfl #[.int .i64 a0_0, .int .i64 1, .int .i64 10] rfl zT7 ?_; (with_reducible refine (spec_l1In.calls a0_0 1 10 true _ A3.out).mono ?_); rintro e w' ⟨rfl, ⟨nd, rfl⟩⟩; refine ⟨_, rfl, ?_⟩) | (go_at_call 159; (with_reducible refine (spec_l8Field.calls a0_1 3 ((Go.bits .and .i64 t259 1) != 0) true _ A5.out).mono ?_); rintro e w' ⟨rfl, ⟨nd, rfl⟩⟩) | (go_at_call 159; (with_reducible refine (spec_l8Field.calls a0_2 3 ((Go.bits .and .i64 t259 2) != 0) false _ A7.out).mono ?_); rintro e w' ⟨rfl, ⟨nd, rfl⟩⟩))
    go_ret
    exact ⟨zE7, zB7_2⟩
  subst c8
  have H1 : ((spec_l8Field.f a0_3 3 ((Go.bits .and .i64 t259 4) != 0)).bind fun t263 => (if t263 = true then ((spec_l8Field.f a0_4 63 ((Go.bits .and .i64 t259 8) != 0)).bind fun t264 => (some t264)) else (some false))) = some r := by rw [if_pos rfl] at H; exact H
  clear H
  have H := H1
  clear H1
  replace H := Option.bind_eq_some_iff.mp H
  obtain ⟨t263, A90, H⟩ := H
  replace H : (if t263 = true then ((spec_l8Field.f a0_4 63 ((Go.bits .and .i64 t259 8) != 0)).bind fun t264 => (some t264)) else (some false)) = some r := H
  have A9 := Aside0.mk A90
  clear A90
  by_cases c10 : t263 = true
  rotate_left
  · replace c10 := Bool.eq_false_iff.mpr c10
    subst c10
    have H1 : (some false) = some r := by rw [if_neg (show ¬ (false = true) by decide)] at H; exact H
    clear H
    have H := H1
    clear H1
    obtain rfl := Option.some.inj H
    go_enter Try.func97, Try.ntmps97
    go_wp2_with (first | ((with_reducible refine gate_dst (N := 1) rfl ?_); refine box_event ?hg (N := 1) ?hd (cs := #[.int .i64 a0_0, .int .i64 a0_1, .int .i64 a0_2, .int .i64 a0_3, .int .i64 a0_4]) (t := 54) ?hr ?_; (case hd => rfl); (case hg => rfl); (case hr => first | (go_simp; done) | (go_simp; rfl)); intro gb258 hg w16 hbox hb; have n0_ := Aside0.mk (below_step (zB7_0) hb); have n1_ := Aside0.mk (hbox); have n2_ := Aside0.mk ((by rw [hg]; exact (below_size (zB7_0)) : w.heap.size ≤ gb258)); have n3_ := Aside0.mk ((by rw [hg]; exact (below_size (zB7_0)) : w.heap.size ≤ gb258)); clear HB; have HB := n0_; have BK258 := n1_; have GW258 := n2_; have GE258 := n3_; clear n0_ n1_ n2_ n3_; clear hb hbox hg; have hcz17_0 : w16.cell? ⟨gb258, 0, none⟩ = some (.int .i64 a0_0) := (blk_cell BK258.out 0).trans rfl; have hcz17_1 : w16.cell? ⟨gb258, 1, none⟩ = some (.int .i64 a0_1) := (blk_cell BK258.out 1).trans rfl; have hcz17_2 : w16.cell? ⟨gb258, 2, none⟩ = some (.int .i64 a0_2) := (blk_cell BK258.out 2).trans rfl; have hcz17_3 : w16.cell? ⟨gb258, 3, none⟩ = some (.int .i64 a0_3) := (blk_cell BK258.out 3).trans rfl; have hcz17_4 : w16.cell? ⟨gb258, 4, none⟩ = some (.int .i64 a0_4) := (blk_cell BK258.out 4).trans rfl; have hfz17_0 := blk_frozen BK258.out 0; have hfz17_1 := blk_frozen BK258.out 1; have hfz17_2 := blk_frozen BK258.out 2; have hfz17_3 := blk_frozen BK258.out 3; have hfz17_4 := blk_frozen BK258.out 4) | ((with_reducible refine gate_callee (f := 158) rfl ?_); refine goesL_ (some 6) rfl rfl Try.func158 (by kernel_rfl) rfl #[.int .i64 a0_0] rfl zT7 ?_; (with_reducible refine (spec_l8Has.calls a0_0 t259 _ A2.out).mono ?_); rintro e w18 ⟨rfl, hb⟩; refine ⟨_, rfl, ?_⟩; have n0_ := Aside0.mk (blk_below (g := gb258) (o := .cells #[.int .i64 a0_0, .int .i64 a0_1, .int .i64 a0_2, .int .i64 a0_3, .int .i64 a0_4] 54 (0, 0)) (zK7 BK258.out) hb); have n1_ := Aside0.mk (below_step (zB7_2) hb); clear BK258; clear HB; have BK258 := n0_; have HB := n1_; clear n0_ n1_; (try clear hb); (try clear hb2); (try clear hk); (try clear hi); have hcz19_0 : w18.cell? ⟨gb258, 0, none⟩ = some (.int .i64 a0_0) := (blk_cell BK258.out 0).trans rfl; have hcz19_1 : w18.cell? ⟨gb258, 1, none⟩ = some (.int .i64 a0_1) := (blk_cell BK258.out 1).trans rfl; have hcz19_2 : w18.cell? ⟨gb258, 2, none⟩ = some (.int .i64 a0_2) := (blk_cell BK258.out 2).trans rfl; have hcz19_3 : w18.cell? ⟨gb258, 3, none⟩ = some (.int .i64 a0_3) := (blk_cell BK258.out 3).trans rfl; have hcz19_4 : w18.cell? ⟨gb258, 4, none⟩ = some (.int .i64 a0_4) := (blk_cell BK258.out 4).trans rfl; have hfz19_0 := blk_frozen BK258.out 0; have hfz19_1 := blk_frozen BK258.out 1; have hfz19_2 := blk_frozen BK258.out 2; have hfz19_3 := blk_frozen BK258.out 3; have hfz19_4 := blk_frozen BK258.out 4) | ((with_reducible refine gate_callee (f := 99) rfl ?_); refine goesL_ (some 9) rfl rfl Try.func99 (by kernel_rfl) rfl #[.int .i64 a0_0, .int .i64 1, .int .i64 10] rfl zT7 ?_; (with_reducible refine (spec_l1In.calls a0_0 1 10 true _ A3.out).mono ?_); rintro e w' ⟨rfl, ⟨nd, rfl⟩⟩; refine ⟨_, rfl, ?_⟩) | (go_at_call 159; (with_reducible refine (spec_l8Field.calls a0_1 3 ((Go.bits .and .i64 t259 1) != 0) true _ A5.out).mono ?_); rintro e w' ⟨rfl, ⟨nd, rfl⟩⟩) | (go_at_call 159; (with_reducible refine (spec_l8Field.calls a0_2 3 ((Go.bits .and .i64 t259 2) != 0) true _ A7.out).mono ?_); rintro e w' ⟨rfl, ⟨nd, rfl⟩⟩) | (go_at_call 159; (with_reducible refine (spec_l8Field.calls a0_3 3 ((Go.bits .and .i64 t259 4) != 0) false _ A9.out).mono ?_); rintro e w' ⟨rfl, ⟨nd, rfl⟩⟩))
    go_ret
    exact ⟨zE7, zB7_2⟩
  subst c10
  have H1 : ((spec_l8Field.f a0_4 63 ((Go.bits .and .i64 t259 8) != 0)).bind fun t264 => (some t264)) = some r := by rw [if_pos rfl] at H; exact H
  clear H
  have H := H1
  clear H1
  replace H := Option.bind_eq_some_iff.mp H
  obtain ⟨t264, A110, H⟩ := H
  replace H : (some t264) = some r := H
  have A11 := Aside0.mk A110
  clear A110
  obtain rfl := Option.some.inj H
  go_enter Try.func97, Try.ntmps97
  go_wp2_with (first | ((with_reducible refine gate_dst (N := 1) rfl ?_); refine box_event ?hg (N := 1) ?hd (cs := #[.int .i64 a0_0, .int .i64 a0_1, .int .i64 a0_2, .int .i64 a0_3, .int .i64 a0_4]) (t := 54) ?hr ?_; (case hd => rfl); (case hg => rfl); (case hr => first | (go_simp; done) | (go_simp; rfl)); intro gb258 hg w12 hbox hb; have n0_ := Aside0.mk (below_step (zB7_0) hb); have n1_ := Aside0.mk (hbox); have n2_ := Aside0.mk ((by rw [hg]; exact (below_size (zB7_0)) : w.heap.size ≤ gb258)); have n3_ := Aside0.mk ((by rw [hg]; exact (below_size (zB7_0)) : w.heap.size ≤ gb258)); clear HB; have HB := n0_; have BK258 := n1_; have GW258 := n2_; have GE258 := n3_; clear n0_ n1_ n2_ n3_; clear hb hbox hg; have hcz13_0 : w12.cell? ⟨gb258, 0, none⟩ = some (.int .i64 a0_0) := (blk_cell BK258.out 0).trans rfl; have hcz13_1 : w12.cell? ⟨gb258, 1, none⟩ = some (.int .i64 a0_1) := (blk_cell BK258.out 1).trans rfl; have hcz13_2 : w12.cell? ⟨gb258, 2, none⟩ = some (.int .i64 a0_2) := (blk_cell BK258.out 2).trans rfl; have hcz13_3 : w12.cell? ⟨gb258, 3, none⟩ = some (.int .i64 a0_3) := (blk_cell BK258.out 3).trans rfl; have hcz13_4 : w12.cell? ⟨gb258, 4, none⟩ = some (.int .i64 a0_4) := (blk_cell BK258.out 4).trans rfl; have hfz13_0 := blk_frozen BK258.out 0; have hfz13_1 := blk_frozen BK258.out 1; have hfz13_2 := blk_frozen BK258.out 2; have hfz13_3 := blk_frozen BK258.out 3; have hfz13_4 := blk_frozen BK258.out 4) | ((with_reducible refine gate_callee (f := 158) rfl ?_); refine goesL_ (some 6) rfl rfl Try.func158 (by kernel_rfl) rfl #[.int .i64 a0_0] rfl zT7 ?_; (with_reducible refine (spec_l8Has.calls a0_0 t259 _ A2.out).mono ?_); rintro e w14 ⟨rfl, hb⟩; refine ⟨_, rfl, ?_⟩; have n0_ := Aside0.mk (blk_below (g := gb258) (o := .cells #[.int .i64 a0_0, .int .i64 a0_1, .int .i64 a0_2, .int .i64 a0_3, .int .i64 a0_4] 54 (0, 0)) (zK7 BK258.out) hb); have n1_ := Aside0.mk (below_step (zB7_2) hb); clear BK258; clear HB; have BK258 := n0_; have HB := n1_; clear n0_ n1_; (try clear hb); (try clear hb2); (try clear hk); (try clear hi); have hcz15_0 : w14.cell? ⟨gb258, 0, none⟩ = some (.int .i64 a0_0) := (blk_cell BK258.out 0).trans rfl; have hcz15_1 : w14.cell? ⟨gb258, 1, none⟩ = some (.int .i64 a0_1) := (blk_cell BK258.out 1).trans rfl; have hcz15_2 : w14.cell? ⟨gb258, 2, none⟩ = some (.int .i64 a0_2) := (blk_cell BK258.out 2).trans rfl; have hcz15_3 : w14.cell? ⟨gb258, 3, none⟩ = some (.int .i64 a0_3) := (blk_cell BK258.out 3).trans rfl; have hcz15_4 : w14.cell? ⟨gb258, 4, none⟩ = some (.int .i64 a0_4) := (blk_cell BK258.out 4).trans rfl; have hfz15_0 := blk_frozen BK258.out 0; have hfz15_1 := blk_frozen BK258.out 1; have hfz15_2 := blk_frozen BK258.out 2; have hfz15_3 := blk_frozen BK258.out 3; have hfz15_4 := blk_frozen BK258.out 4) | ((with_reducible refine gate_callee (f := 99) rfl ?_); refine goesL_ (some 9) rfl rfl Try.func99 (by kernel_rfl) rfl #[.int .i64 a0_0, .int .i64 1, .int .i64 10] rfl zT7 ?_; (with_reducible refine (spec_l1In.calls a0_0 1 10 true _ A3.out).mono ?_); rintro e w' ⟨rfl, ⟨nd, rfl⟩⟩; refine ⟨_, rfl, ?_⟩) | (go_at_call 159; (with_reducible refine (spec_l8Field.calls a0_1 3 ((Go.bits .and .i64 t259 1) != 0) true _ A5.out).mono ?_); rintro e w' ⟨rfl, ⟨nd, rfl⟩⟩) | (go_at_call 159; (with_reducible refine (spec_l8Field.calls a0_2 3 ((Go.bits .and .i64 t259 2) != 0) true _ A7.out).mono ?_); rintro e w' ⟨rfl, ⟨nd, rfl⟩⟩) | (go_at_call 159; (with_reducible refine (spec_l8Field.calls a0_3 3 ((Go.bits .and .i64 t259 4) != 0) true _ A9.out).mono ?_); rintro e w' ⟨rfl, ⟨nd, rfl⟩⟩) | (go_at_call 159; (with_reducible refine (spec_l8Field.calls a0_4 63 ((Go.bits .and .i64 t259 8) != 0) t264 _ A11.out).mono ?_); rintro e w' ⟨rfl, ⟨nd, rfl⟩⟩))
  go_ret
  exact ⟨zE7, zB7_2⟩

/-! ### spec_Code: function 132 -/
def spec_Code.f (a0_0 : Int) (a0_1 : Int) (a0_2 : Int) (a0_3 : Int) (a0_4 : Int) : Option (Int × Bool) := (spec_InsOk.f a0_0 a0_1 a0_2 a0_3 a0_4).bind fun t266 => (if t266 = true then (some (wrap64 ((wrap64 ((wrap64 ((wrap64 (a0_0 + (wrap64 (16 * a0_1)))) + (wrap64 (64 * a0_2)))) + (wrap64 (256 * a0_3)))) + (wrap64 (1024 * a0_4))), true)) else (some (0, false)))
set_option maxHeartbeats 8000000 in
set_option maxRecDepth 100000 in
theorem spec_Code.calls (a0_0 : Int) (a0_1 : Int) (a0_2 : Int) (a0_3 : Int) (a0_4 : Int) (r1 : Int) (r2 : Bool) (w : World) (h : spec_Code.f a0_0 a0_1 a0_2 a0_3 a0_4 = some (r1, r2)) :
    Calls Try.prog 132 #[.agg #[.int .i64 a0_0, .int .i64 a0_1, .int .i64 a0_2, .int .i64 a0_3, .int .i64 a0_4]] w fun e w' => e = .returned (.tuple #[.int .i64 r1, .bool r2]) ∧ Below w.heap.size w w' := by
  have hu54 := Try.underlying54
  have HB := Aside0.mk (Below.refl w.heap.size w)
  have H : ((spec_InsOk.f a0_0 a0_1 a0_2 a0_3 a0_4).bind fun t266 => (if t266 = true then (some (wrap64 ((wrap64 ((wrap64 ((wrap64 (a0_0 + (wrap64 (16 * a0_1)))) + (wrap64 (64 * a0_2)))) + (wrap64 (256 * a0_3)))) + (wrap64 (1024 * a0_4))), true)) else (some (0, false)))) = some (r1, r2) := h
  clear h
  replace H := Option.bind_eq_some_iff.mp H
  obtain ⟨t266, A20, H⟩ := H
  replace H : (if t266 = true then (some (wrap64 ((wrap64 ((wrap64 ((wrap64 (a0_0 + (wrap64 (16 * a0_1)))) + (wrap64 (64 * a0_2)))) + (wrap64 (256 * a0_3)))) + (wrap64 (1024 * a0_4))), true)) else (some (0, false))) = some (r1, r2) := H
  have A2 := Aside0.mk A20
  clear A20
  by_cases c3 : t266 = true
  rotate_left
  · replace c3 := Bool.eq_false_iff.mpr c3
    subst c3
    have H1 : (some (0, false)) = some (r1, r2) := by rw [if_neg (show ¬ (false = true) by decide)] at H; exact H
    clear H
    have H := H1
    clear H1
    simp only [Option.some.injEq, Prod.mk.injEq] at H
    obtain ⟨rfl, rfl⟩ := H
    go_enter Try.func132, Try.ntmps132
    go_wp2_with (first | ((with_reducible refine gate_dst (N := 1) rfl ?_); refine box_event ?hg (N := 1) ?hd (cs := #[.int .i64 a0_0, .int .i64 a0_1, .int .i64 a0_2, .int .i64 a0_3, .int .i64 a0_4]) (t := 54) ?hr ?_; (case hd => rfl); (case hg => rfl); (case hr => first | (go_simp; done) | (go_simp; rfl)); intro gb265 hg w8 hbox hb; have n0_ := Aside0.mk (below_step (zB7_0) hb); have n1_ := Aside0.mk (hbox); have n2_ := Aside0.mk ((by rw [hg]; exact (below_size (zB7_0)) : w.heap.size ≤ gb265)); have n3_ := Aside0.mk ((by rw [hg]; exact (below_size (zB7_0)) : w.heap.size ≤ gb265)); clear HB; have HB := n0_; have BK265 := n1_; have GW265 := n2_; have GE265 := n3_; clear n0_ n1_ n2_ n3_; clear hb hbox hg; have hcz9_0 : w8.cell? ⟨gb265, 0, none⟩ = some (.int .i64 a0_0) := (blk_cell BK265.out 0).trans rfl; have hcz9_1 : w8.cell? ⟨gb265, 1, none⟩ = some (.int .i64 a0_1) := (blk_cell BK265.out 1).trans rfl; have hcz9_2 : w8.cell? ⟨gb265, 2, none⟩ = some (.int .i64 a0_2) := (blk_cell BK265.out 2).trans rfl; have hcz9_3 : w8.cell? ⟨gb265, 3, none⟩ = some (.int .i64 a0_3) := (blk_cell BK265.out 3).trans rfl; have hcz9_4 : w8.cell? ⟨gb265, 4, none⟩ = some (.int .i64 a0_4) := (blk_cell BK265.out 4).trans rfl; have hfz9_0 := blk_frozen BK265.out 0; have hfz9_1 := blk_frozen BK265.out 1; have hfz9_2 := blk_frozen BK265.out 2; have hfz9_3 := blk_frozen BK265.out 3; have hfz9_4 := blk_frozen BK265.out 4) | ((with_reducible refine gate_callee (f := 97) rfl ?_); refine goesL_ (some 5) rfl rfl Try.func97 (by kernel_rfl) rfl #[.agg #[.int .i64 a0_0, .int .i64 a0_1, .int .i64 a0_2, .int .i64 a0_3, .int .i64 a0_4]] rfl zT7 ?_; (with_reducible refine (spec_InsOk.calls a0_0 a0_1 a0_2 a0_3 a0_4 false _ A2.out).mono ?_); rintro e w10 ⟨rfl, hb⟩; refine ⟨_, rfl, ?_⟩; have n0_ := Aside0.mk (blk_below (g := gb265) (o := .cells #[.int .i64 a0_0, .int .i64 a0_1, .int .i64 a0_2, .int .i64 a0_3, .int .i64 a0_4] 54 (0, 0)) (zK7 BK265.out) hb); have n1_ := Aside0.mk (below_step (zB7_3) hb); clear BK265; clear HB; have BK265 := n0_; have HB := n1_; clear n0_ n1_; (try clear hb); (try clear hb2); (try clear hk); (try clear hi)))
    go_ret2
    exact ⟨zE7, zB7_3⟩
  subst c3
  have H1 : (some (wrap64 ((wrap64 ((wrap64 ((wrap64 (a0_0 + (wrap64 (16 * a0_1)))) + (wrap64 (64 * a0_2)))) + (wrap64 (256 * a0_3)))) + (wrap64 (1024 * a0_4))), true)) = some (r1, r2) := by rw [if_pos rfl] at H; exact H
  clear H
  have H := H1
  clear H1
  simp only [Option.some.injEq, Prod.mk.injEq] at H
  obtain ⟨rfl, rfl⟩ := H
  go_enter Try.func132, Try.ntmps132
  go_wp2_with (first | ((with_reducible refine gate_dst (N := 1) rfl ?_); refine box_event ?hg (N := 1) ?hd (cs := #[.int .i64 a0_0, .int .i64 a0_1, .int .i64 a0_2, .int .i64 a0_3, .int .i64 a0_4]) (t := 54) ?hr ?_; (case hd => rfl); (case hg => rfl); (case hr => first | (go_simp; done) | (go_simp; rfl)); intro gb265 hg w4 hbox hb; have n0_ := Aside0.mk (below_step (zB7_0) hb); have n1_ := Aside0.mk (hbox); have n2_ := Aside0.mk ((by rw [hg]; exact (below_size (zB7_0)) : w.heap.size ≤ gb265)); have n3_ := Aside0.mk ((by rw [hg]; exact (below_size (zB7_0)) : w.heap.size ≤ gb265)); clear HB; have HB := n0_; have BK265 := n1_; have GW265 := n2_; have GE265 := n3_; clear n0_ n1_ n2_ n3_; clear hb hbox hg; have hcz5_0 : w4.cell? ⟨gb265, 0, none⟩ = some (.int .i64 a0_0) := (blk_cell BK265.out 0).trans rfl; have hcz5_1 : w4.cell? ⟨gb265, 1, none⟩ = some (.int .i64 a0_1) := (blk_cell BK265.out 1).trans rfl; have hcz5_2 : w4.cell? ⟨gb265, 2, none⟩ = some (.int .i64 a0_2) := (blk_cell BK265.out 2).trans rfl; have hcz5_3 : w4.cell? ⟨gb265, 3, none⟩ = some (.int .i64 a0_3) := (blk_cell BK265.out 3).trans rfl; have hcz5_4 : w4.cell? ⟨gb265, 4, none⟩ = some (.int .i64 a0_4) := (blk_cell BK265.out 4).trans rfl; have hfz5_0 := blk_frozen BK265.out 0; have hfz5_1 := blk_frozen BK265.out 1; have hfz5_2 := blk_frozen BK265.out 2; have hfz5_3 := blk_frozen BK265.out 3; have hfz5_4 := blk_frozen BK265.out 4) | ((with_reducible refine gate_callee (f := 97) rfl ?_); refine goesL_ (some 5) rfl rfl Try.func97 (by kernel_rfl) rfl #[.agg #[.int .i64 a0_0, .int .i64 a0_1, .int .i64 a0_2, .int .i64 a0_3, .int .i64 a0_4]] rfl zT7 ?_; (with_reducible refine (spec_InsOk.calls a0_0 a0_1 a0_2 a0_3 a0_4 true _ A2.out).mono ?_); rintro e w6 ⟨rfl, hb⟩; refine ⟨_, rfl, ?_⟩; have n0_ := Aside0.mk (blk_below (g := gb265) (o := .cells #[.int .i64 a0_0, .int .i64 a0_1, .int .i64 a0_2, .int .i64 a0_3, .int .i64 a0_4] 54 (0, 0)) (zK7 BK265.out) hb); have n1_ := Aside0.mk (below_step (zB7_3) hb); clear BK265; clear HB; have BK265 := n0_; have HB := n1_; clear n0_ n1_; (try clear hb); (try clear hb2); (try clear hk); (try clear hi); have hcz7_0 : w6.cell? ⟨gb265, 0, none⟩ = some (.int .i64 a0_0) := (blk_cell BK265.out 0).trans rfl; have hcz7_1 : w6.cell? ⟨gb265, 1, none⟩ = some (.int .i64 a0_1) := (blk_cell BK265.out 1).trans rfl; have hcz7_2 : w6.cell? ⟨gb265, 2, none⟩ = some (.int .i64 a0_2) := (blk_cell BK265.out 2).trans rfl; have hcz7_3 : w6.cell? ⟨gb265, 3, none⟩ = some (.int .i64 a0_3) := (blk_cell BK265.out 3).trans rfl; have hcz7_4 : w6.cell? ⟨gb265, 4, none⟩ = some (.int .i64 a0_4) := (blk_cell BK265.out 4).trans rfl; have hfz7_0 := blk_frozen BK265.out 0; have hfz7_1 := blk_frozen BK265.out 1; have hfz7_2 := blk_frozen BK265.out 2; have hfz7_3 := blk_frozen BK265.out 3; have hfz7_4 := blk_frozen BK265.out 4))
  go_ret2
  exact ⟨zE7, zB7_3⟩

/-! ### spec_l25Codes: function 84 -/
def spec_l25Codes.l0 : Nat → List (S54) → List Int → Int → Option (List Int)
  | 0, _, _, _ => none
  | k + 1, x0, x3, x4 => if x4 < (x0.length : Int) then (if 0 ≤ x4 then ((spec_Code.f ((rd_T54 x0 x4).f0) ((rd_T54 x0 x4).f1) ((rd_T54 x0 x4).f2) ((rd_T54 x0 x4).f3) ((rd_T54 x0 x4).f4)).bind fun bt271 => (if x3.length < 17592186044416 then (spec_l25Codes.l0 k x0 (x3 ++ [bt271.1]) (wrap64 (x4 + 1))) else (none))) else (none)) else (some x3)
def spec_l25Codes.f (k : Nat) (l0 : List (S54)) : Option (List Int) := spec_l25Codes.l0 k l0 (([] : List Int)) 0
theorem spec_l25Codes.mono_l : ∀ k, (∀ y0 y1 y2, LeO (spec_l25Codes.l0 k y0 y1 y2) (spec_l25Codes.l0 (k + 1) y0 y1 y2))
  | 0 => fun _ _ _ r h => by simp [spec_l25Codes.l0] at h
  | k + 1 => by
    have ih0 := spec_l25Codes.mono_l k
    · intro y0 y1 y2
      unfold spec_l25Codes.l0
      repeat' first
      | (with_reducible exact ih0 _ _ _)
      | (with_reducible exact LeO.refl _)
      | (with_reducible exact LeO.none _)
      | (with_reducible refine LeO.ite ?_ ?_)
      | (with_reducible refine LeO.bind ?_ (fun _ => ?_))
      | exact ih0 _ _ _
      | exact LeO.none _
      | refine LeO.ite ?_ ?_
      | refine LeO.bind ?_ (fun _ => ?_)
theorem spec_l25Codes.mono : ∀ a0 k, LeO (spec_l25Codes.f k a0) (spec_l25Codes.f (k + 1) a0) := by
  intro a0 k
  have ih0 := spec_l25Codes.mono_l k
  unfold spec_l25Codes.f
  repeat' first
      | (with_reducible exact ih0 _ _ _)
      | (with_reducible exact LeO.refl _)
      | (with_reducible exact LeO.none _)
      | (with_reducible refine LeO.ite ?_ ?_)
      | (with_reducible refine LeO.bind ?_ (fun _ => ?_))
      | exact ih0 _ _ _
      | exact LeO.none _
      | refine LeO.ite ?_ ?_
      | refine LeO.bind ?_ (fun _ => ?_)
set_option maxHeartbeats 8000000 in
set_option maxRecDepth 100000 in
theorem spec_l25Codes.calls (k : Nat) (A0 : Option Addr) (c0 : Nat) (l0 : List (S54)) (r : List Int) (w : World) (hr0 : Kd.C k54 w A0 l0.length l0) (hc0 : l0.length ≤ c0) (h : spec_l25Codes.f k l0 = some r) :
    Calls Try.prog 84 #[.slice A0 l0.length c0] w fun e w' => ∃ v0_ : Value, e = .returned (v0_) ∧ Kd.R (Kd.int .i64) 3 w' w.heap.size (fun _ => True) v0_ r ∧ Below w.heap.size w w' := by
  have hu54 := Try.underlying54
  have HR0 := Aside0.mk hr0
  have HC0 := Aside0.mk hc0
  clear hr0 hc0
  have HB := Aside0.mk (Below.refl w.heap.size w)
  have H : (spec_l25Codes.l0 k l0 (([] : List Int)) 0) = some r := h
  clear h
  obtain ⟨y267, hy267⟩ : ∃ y_ : List Int, y_ = (([] : List Int)) := ⟨_, rfl⟩
  replace H : (spec_l25Codes.l0 k l0 y267 0) = some r := by first | (rw [hy267]; with_reducible exact H) | (have H2_ := (Option.bind_some _ _).symm.trans H; rw [hy267]; with_reducible exact H2_) | (have H2_ := (Option.bind_some _ _).symm.trans H; with_reducible exact H2_) | with_reducible exact H | (rw [hy267]; exact H) | exact H
  have Ny267 := Aside0.mk hy267
  clear hy267
  have H' := Aside0.mk H
  clear H
  go_enter Try.func84, Try.ntmps84
  go_wp2_with (first | ((with_reducible refine gate_dst (N := 7) rfl ?_); refine Kd.R_lit (Kd.int .i64) _ 3 ?hg (N := 7) ?hd (xs := ([] : List Int)) (inner := []) (ok := fun _ => True) (okp := fun _ => True) ?hr ?hp (fun _ hk => hk) trivial (Below.refl _ _) (Nat.le_refl _) (by simp) ?_; (case hd => rfl); (case hg => rfl); (case hr => first | (go_simp; done) | (go_simp; rfl)); (case hp => exact (Reps.none _ _)); intro v268 w2 ho3 hb hg_ hnew_; clear hg_ hnew_; (first | rw [← Ny267.out] at ho3 | (simp only [Int.reduceToNat] at ho3; rw [← Ny267.out] at ho3)); have n0_ := Aside0.mk (Kd.R_lower ho3 (below_size (zB7_0))); have n1_ := Aside0.mk (below_step (zB7_0) hb); clear HB; have HO269 := n0_; have HB := n1_; clear n0_ n1_; clear hb ho3))
  go_loopg [3, 4] k (fun kq v3 v4 w' => ∃ (x3_1 : List Int) (x4_1 : Int), v4 = .int .i64 x4_1 ∧ Aside0 (spec_l25Codes.l0 kq l0 x3_1 x4_1 = some r) ∧ Aside0 (kq ≤ k) ∧ Aside0 (Kd.R (Kd.int .i64) 3 w' w.heap.size (fun _ => True) v3 x3_1) ∧ Aside0 (Below w.heap.size w w'))
  case atStart => exact ⟨(y267), (0), (by first | rfl | (simp; done) | (simp [*]; done)), H', ⟨Nat.le_refl _⟩, ⟨zR7 HO269.out⟩, ⟨zB7_0⟩⟩
  case round =>
    clear H'
    try clear p2
    obtain ⟨x3_1, x4_1, rfl, HA, HK1, HO_3, HB⟩ := hrel
    cases gk with
    | zero => exact absurd HA.out (by simp [spec_l25Codes.l0])
    | succ k1 =>
      have H := HA.out
      clear HA
      simp only [spec_l25Codes.l0] at H
      by_cases c4 : x4_1 < (l0.length : Int)
      rotate_left
      · rw [if_neg c4] at H
        have c4b0 : decide (x4_1 < (l0.length : Int)) = false := decide_eq_false c4
        clear c4
        obtain rfl := Option.some.inj H
        go_wp2
        go_ret
        exact ⟨_, zE7, zR7 HO_3.out, zB7_0⟩
      rw [if_pos c4] at H
      have c4b0 : decide (x4_1 < (l0.length : Int)) = true := decide_eq_true c4
      clear c4
      by_cases c5 : 0 ≤ x4_1
      rotate_left
      · rw [if_neg c5] at H
        exact absurd H (by simp)
      rw [if_pos c5] at H
      have c5b0 : decide (0 ≤ x4_1) = true := decide_eq_true c5
      clear c5
      replace H := Option.bind_eq_some_iff.mp H
      obtain ⟨⟨t271, t272⟩, A60, H⟩ := H
      replace H : (if x3_1.length < 17592186044416 then (spec_l25Codes.l0 k1 l0 (x3_1 ++ [t271]) (wrap64 (x4_1 + 1))) else (none)) = some r := H
      have A6 := Aside0.mk A60
      clear A60
      by_cases c7 : x3_1.length < 17592186044416
      rotate_left
      · rw [if_neg c7] at H
        exact absurd H (by simp)
      rw [if_pos c7] at H
      have LMc7 := Aside0.mk c7
      clear c7
      obtain ⟨y273, hy273⟩ : ∃ y_ : List Int, y_ = (x3_1 ++ [t271]) := ⟨_, rfl⟩
      replace H : (spec_l25Codes.l0 k1 l0 y273 (wrap64 (x4_1 + 1))) = some r := by first | (rw [hy273]; with_reducible exact H) | (have H2_ := (Option.bind_some _ _).symm.trans H; rw [hy273]; with_reducible exact H2_) | (have H2_ := (Option.bind_some _ _).symm.trans H; with_reducible exact H2_) | with_reducible exact H | (rw [hy273]; exact H) | exact H
      have Ny273 := Aside0.mk hy273
      clear hy273
      have H' := Aside0.mk H
      clear H
      have p270 : 0 ≤ (x4_1 : Int) := zA7
      have q270 : x4_1 < (l0.length : Int) := zA7
      obtain ⟨ad270, e270, hx270_0, hx270_1, hx270_2, hx270_3, hx270_4⟩ := at_T54 HR0.out x4_1 p270 q270
      cases e270
      replace hx270_0 := (HB.out.cell (World.block_lt_of_cell? w _ hx270_0)).trans hx270_0
      replace hx270_1 := (HB.out.cell (World.block_lt_of_cell? w _ hx270_1)).trans hx270_1
      replace hx270_2 := (HB.out.cell (World.block_lt_of_cell? w _ hx270_2)).trans hx270_2
      replace hx270_3 := (HB.out.cell (World.block_lt_of_cell? w _ hx270_3)).trans hx270_3
      replace hx270_4 := (HB.out.cell (World.block_lt_of_cell? w _ hx270_4)).trans hx270_4
      replace p270 := eq_true p270
      replace q270 := eq_true q270
      go_wp2_with (first | ((with_reducible refine gate_callee (f := 132) rfl ?_); refine goesL_ (some 19) rfl rfl Try.func132 (by kernel_rfl) rfl #[.agg #[.int .i64 ((rd_T54 l0 x4_1).f0), .int .i64 ((rd_T54 l0 x4_1).f1), .int .i64 ((rd_T54 l0 x4_1).f2), .int .i64 ((rd_T54 l0 x4_1).f3), .int .i64 ((rd_T54 l0 x4_1).f4)]] rfl zT7 ?_; (with_reducible refine (spec_Code.calls ((rd_T54 l0 x4_1).f0) ((rd_T54 l0 x4_1).f1) ((rd_T54 l0 x4_1).f2) ((rd_T54 l0 x4_1).f3) ((rd_T54 l0 x4_1).f4) t271 t272 _ A6.out).mono ?_); rintro e w8 ⟨rfl, hb⟩; refine ⟨_, rfl, ?_⟩; have n0_ := Aside0.mk (Kd.R_below (zR7 HO_3.out) hb); have n1_ := Aside0.mk (below_step (zB7_0) hb); clear HO_3; clear HB; have HO_3 := n0_; have HB := n1_; clear n0_ n1_; (try clear hb); (try clear hb2); (try clear hk); (try clear hi)) | ((with_reducible refine gate_builtin (b := .append) (xs := #[.tmp 22, .tmp 24]) rfl ?_); at_builtin; refine Kd.R_append (Kd.int .i64) (w0 := w) w.heap.size rfl (.tmp 22) (.tmp 24) 25 3 (.int .i64 0) 8 rfl Try.underlying25 info3 rfl (by decide) (by omega) u3 x3_1 t271 [.int .i64 t271] (fun _ => True) (fun _ => False) rfl rfl ?aP (fun _ hk => hk.elim) ?aF ?aO ?aB ?aS ?aL ?_; (case aP => exact rfl); (case aB => exact (zB7_0)); (case aF => exact (fun _ _ => trivial)); (case aO => exact (zR7 HO_3.out)); (case aS => exact (below_size (zB7_0))); (case aL => have := LMc7.out; omega); intro v274 w9 ho hb hg hat; rw [← Ny273.out] at ho; have n0_ := Aside0.mk (hb); have n1_ := Aside0.mk (ho); clear HB; clear HO_3; have HB := n0_; have HO275 := n1_; clear n0_ n1_; clear ho hb hg hat))
      go_roundg k1
      case measure => have := HK1.out; omega
      case rel => exact ⟨(y273), (wrap64 (x4_1 + 1)), (by first | rfl | (simp; done) | (simp [*]; done)), H', ⟨by have := HK1.out; omega⟩, ⟨zR7 HO275.out⟩, ⟨zB7_0⟩⟩

/-! ### spec_LoseCode: function 23 -/
def spec_LoseCode.f (k : Nat) (a0 : Int) (a1 : Int) (a2 : Int) : Option (List Int × Bool) := (spec_l25Ok.f a0 a1 a2 9).bind fun t276 => (if t276 = true then ((spec_l25Codes.f k (([(⟨1, 0, 0, 0, a1⟩ : S54), (⟨1, 1, 0, 0, 1⟩ : S54), (⟨4, 2, 3, 0, a0⟩ : S54), (⟨2, 2, 2, 1, 0⟩ : S54), (⟨5, 0, 3, 2, a0⟩ : S54), (⟨10, 0, 0, 1, 0⟩ : S54), (⟨7, 0, 0, 0, wrap64 (a2 + 8)⟩ : S54), (⟨8, 0, 0, 0, wrap64 (a2 + 2)⟩ : S54), (⟨9, 0, 0, 0, 0⟩ : S54)] : List (S54)))).bind fun t280 => (some (t280, true))) else (some ((([] : List Int)), false)))
theorem spec_LoseCode.mono : ∀ a0 a1 a2 k, LeO (spec_LoseCode.f k a0 a1 a2) (spec_LoseCode.f (k + 1) a0 a1 a2) := by
  intro a0 a1 a2 k
  unfold spec_LoseCode.f
  repeat' first
      | (with_reducible exact spec_l25Codes.mono _ _)
      | (with_reducible exact LeO.refl _)
      | (with_reducible exact LeO.none _)
      | (with_reducible refine LeO.ite ?_ ?_)
      | (with_reducible refine LeO.bind ?_ (fun _ => ?_))
      | exact spec_l25Codes.mono _ _
      | exact LeO.none _
      | refine LeO.ite ?_ ?_
      | refine LeO.bind ?_ (fun _ => ?_)
set_option maxHeartbeats 8000000 in
set_option maxRecDepth 100000 in
theorem spec_LoseCode.calls (k : Nat) (a0 : Int) (a1 : Int) (a2 : Int) (r1 : List Int) (r2 : Bool) (w : World) (h : spec_LoseCode.f k a0 a1 a2 = some (r1, r2)) :
    Calls Try.prog 23 #[.int .i64 a0, .int .i64 a1, .int .i64 a2] w fun e w' => ∃ v0_ : Value, e = .returned (.tuple #[v0_, .bool r2]) ∧ Kd.R (Kd.int .i64) 3 w' w.heap.size (fun _ => True) v0_ r1 ∧ Below w.heap.size w w' := by
  have hu54 := Try.underlying54
  have HB := Aside0.mk (Below.refl w.heap.size w)
  have H : ((spec_l25Ok.f a0 a1 a2 9).bind fun t276 => (if t276 = true then ((spec_l25Codes.f k (([(⟨1, 0, 0, 0, a1⟩ : S54), (⟨1, 1, 0, 0, 1⟩ : S54), (⟨4, 2, 3, 0, a0⟩ : S54), (⟨2, 2, 2, 1, 0⟩ : S54), (⟨5, 0, 3, 2, a0⟩ : S54), (⟨10, 0, 0, 1, 0⟩ : S54), (⟨7, 0, 0, 0, wrap64 (a2 + 8)⟩ : S54), (⟨8, 0, 0, 0, wrap64 (a2 + 2)⟩ : S54), (⟨9, 0, 0, 0, 0⟩ : S54)] : List (S54)))).bind fun t280 => (some (t280, true))) else (some ((([] : List Int)), false)))) = some (r1, r2) := h
  clear h
  replace H := Option.bind_eq_some_iff.mp H
  obtain ⟨t276, A40, H⟩ := H
  replace H : (if t276 = true then ((spec_l25Codes.f k (([(⟨1, 0, 0, 0, a1⟩ : S54), (⟨1, 1, 0, 0, 1⟩ : S54), (⟨4, 2, 3, 0, a0⟩ : S54), (⟨2, 2, 2, 1, 0⟩ : S54), (⟨5, 0, 3, 2, a0⟩ : S54), (⟨10, 0, 0, 1, 0⟩ : S54), (⟨7, 0, 0, 0, wrap64 (a2 + 8)⟩ : S54), (⟨8, 0, 0, 0, wrap64 (a2 + 2)⟩ : S54), (⟨9, 0, 0, 0, 0⟩ : S54)] : List (S54)))).bind fun t280 => (some (t280, true))) else (some ((([] : List Int)), false))) = some (r1, r2) := H
  have A4 := Aside0.mk A40
  clear A40
  by_cases c5 : t276 = true
  rotate_left
  · replace c5 := Bool.eq_false_iff.mpr c5
    subst c5
    have H1 : (some ((([] : List Int)), false)) = some (r1, r2) := by rw [if_neg (show ¬ (false = true) by decide)] at H; exact H
    clear H
    have H := H1
    clear H1
    obtain ⟨y283, hy283⟩ : ∃ y_ : List Int, y_ = (([] : List Int)) := ⟨_, rfl⟩
    replace H : (some (y283, false)) = some (r1, r2) := by first | (rw [hy283]; with_reducible exact H) | (have H2_ := (Option.bind_some _ _).symm.trans H; rw [hy283]; with_reducible exact H2_) | (have H2_ := (Option.bind_some _ _).symm.trans H; with_reducible exact H2_) | with_reducible exact H | (rw [hy283]; exact H) | exact H
    have Ny283 := Aside0.mk hy283
    clear hy283
    simp only [Option.some.injEq, Prod.mk.injEq] at H
    obtain ⟨rfl, rfl⟩ := H
    go_enter Try.func23, Try.ntmps23
    go_wp2_with (first | ((with_reducible refine gate_callee (f := 83) rfl ?_); refine goesL_ (some 11) rfl rfl Try.func83 (by kernel_rfl) rfl #[.int .i64 a0, .int .i64 a1, .int .i64 a2, .int .i64 9] rfl zT7 ?_; (with_reducible refine (spec_l25Ok.calls a0 a1 a2 9 false _ A4.out).mono ?_); rintro e w' ⟨rfl, ⟨nd, rfl⟩⟩; refine ⟨_, rfl, ?_⟩) | ((with_reducible refine gate_dst (N := 13) rfl ?_); refine Kd.R_lit (Kd.int .i64) _ 3 ?hg (N := 13) ?hd (xs := ([] : List Int)) (inner := []) (ok := fun _ => True) (okp := fun _ => True) ?hr ?hp (fun _ hk => hk) trivial (Below.refl _ _) (Nat.le_refl _) (by simp) ?_; (case hd => rfl); (case hg => rfl); (case hr => first | (go_simp; done) | (go_simp; rfl)); (case hp => exact (Reps.none _ _)); intro v284 w11 ho12 hb hg_ hnew_; clear hg_ hnew_; (first | rw [← Ny283.out] at ho12 | (simp only [Int.reduceToNat] at ho12; rw [← Ny283.out] at ho12)); have n0_ := Aside0.mk (Kd.R_lower ho12 (below_size (zB7_0))); have n1_ := Aside0.mk (below_step (zB7_0) hb); clear HB; have HO285 := n0_; have HB := n1_; clear n0_ n1_; clear hb ho12))
    go_ret2
    exact ⟨_, zE7, zR7 HO285.out, zB7_0⟩
  subst c5
  have H1 : ((spec_l25Codes.f k (([(⟨1, 0, 0, 0, a1⟩ : S54), (⟨1, 1, 0, 0, 1⟩ : S54), (⟨4, 2, 3, 0, a0⟩ : S54), (⟨2, 2, 2, 1, 0⟩ : S54), (⟨5, 0, 3, 2, a0⟩ : S54), (⟨10, 0, 0, 1, 0⟩ : S54), (⟨7, 0, 0, 0, wrap64 (a2 + 8)⟩ : S54), (⟨8, 0, 0, 0, wrap64 (a2 + 2)⟩ : S54), (⟨9, 0, 0, 0, 0⟩ : S54)] : List (S54)))).bind fun t280 => (some (t280, true))) = some (r1, r2) := by rw [if_pos rfl] at H; exact H
  clear H
  have H := H1
  clear H1
  obtain ⟨y277, hy277⟩ : ∃ y_ : List (S54), y_ = (([(⟨1, 0, 0, 0, a1⟩ : S54), (⟨1, 1, 0, 0, 1⟩ : S54), (⟨4, 2, 3, 0, a0⟩ : S54), (⟨2, 2, 2, 1, 0⟩ : S54), (⟨5, 0, 3, 2, a0⟩ : S54), (⟨10, 0, 0, 1, 0⟩ : S54), (⟨7, 0, 0, 0, wrap64 (a2 + 8)⟩ : S54), (⟨8, 0, 0, 0, wrap64 (a2 + 2)⟩ : S54), (⟨9, 0, 0, 0, 0⟩ : S54)] : List (S54))) := ⟨_, rfl⟩
  replace H : ((spec_l25Codes.f k y277).bind fun t280 => (some (t280, true))) = some (r1, r2) := by first | (rw [hy277]; with_reducible exact H) | (have H2_ := (Option.bind_some _ _).symm.trans H; rw [hy277]; with_reducible exact H2_) | (have H2_ := (Option.bind_some _ _).symm.trans H; with_reducible exact H2_) | with_reducible exact H | (rw [hy277]; exact H) | exact H
  have Ny277 := Aside0.mk hy277
  clear hy277
  replace H := Option.bind_eq_some_iff.mp H
  obtain ⟨t280, A60, H⟩ := H
  replace H : (some (t280, true)) = some (r1, r2) := H
  have A6 := Aside0.mk A60
  clear A60
  simp only [Option.some.injEq, Prod.mk.injEq] at H
  obtain ⟨rfl, rfl⟩ := H
  go_enter Try.func23, Try.ntmps23
  go_wp2_with (first | ((with_reducible refine gate_callee (f := 83) rfl ?_); refine goesL_ (some 11) rfl rfl Try.func83 (by kernel_rfl) rfl #[.int .i64 a0, .int .i64 a1, .int .i64 a2, .int .i64 9] rfl zT7 ?_; (with_reducible refine (spec_l25Ok.calls a0 a1 a2 9 true _ A4.out).mono ?_); rintro e w' ⟨rfl, ⟨nd, rfl⟩⟩; refine ⟨_, rfl, ?_⟩) | ((with_reducible refine gate_dst (N := 30) rfl ?_); refine Kd.R_lit k54 _ 54 ?hg (N := 30) ?hd (xs := ([(⟨1, 0, 0, 0, a1⟩ : S54), (⟨1, 1, 0, 0, 1⟩ : S54), (⟨4, 2, 3, 0, a0⟩ : S54), (⟨2, 2, 2, 1, 0⟩ : S54), (⟨5, 0, 3, 2, a0⟩ : S54), (⟨10, 0, 0, 1, 0⟩ : S54), (⟨7, 0, 0, 0, wrap64 (a2 + 8)⟩ : S54), (⟨8, 0, 0, 0, wrap64 (a2 + 2)⟩ : S54), (⟨9, 0, 0, 0, 0⟩ : S54)] : List (S54))) (inner := [.int .i64 1, .int .i64 0, .int .i64 0, .int .i64 0, .int .i64 a1, .int .i64 1, .int .i64 1, .int .i64 0, .int .i64 0, .int .i64 1, .int .i64 4, .int .i64 2, .int .i64 3, .int .i64 0, .int .i64 a0, .int .i64 2, .int .i64 2, .int .i64 2, .int .i64 1, .int .i64 0, .int .i64 5, .int .i64 0, .int .i64 3, .int .i64 2, .int .i64 a0, .int .i64 10, .int .i64 0, .int .i64 0, .int .i64 1, .int .i64 0, .int .i64 7, .int .i64 0, .int .i64 0, .int .i64 0, .int .i64 (wrap64 (a2 + 8)), .int .i64 8, .int .i64 0, .int .i64 0, .int .i64 0, .int .i64 (wrap64 (a2 + 2)), .int .i64 9, .int .i64 0, .int .i64 0, .int .i64 0, .int .i64 0]) (ok := fun _ => True) (okp := fun _ => True) ?hr ?hp (fun _ hk => hk) trivial (Below.refl _ _) (Nat.le_refl _) (by simp) ?_; (case hd => rfl); (case hg => rfl); (case hr => first | (go_simp; done) | (go_simp; rfl)); (case hp => exact (Reps.c5 (show Kd.M k54 _ _ _ (⟨1, 0, 0, 0, a1⟩ : S54) [.int .i64 1, .int .i64 0, .int .i64 0, .int .i64 0, .int .i64 a1] from (k54_mkM _ _ _ (⟨1, 0, 0, 0, a1⟩ : S54) )) (Reps.c5 (show Kd.M k54 _ _ _ (⟨1, 1, 0, 0, 1⟩ : S54) [.int .i64 1, .int .i64 1, .int .i64 0, .int .i64 0, .int .i64 1] from (k54_mkM _ _ _ (⟨1, 1, 0, 0, 1⟩ : S54) )) (Reps.c5 (show Kd.M k54 _ _ _ (⟨4, 2, 3, 0, a0⟩ : S54) [.int .i64 4, .int .i64 2, .int .i64 3, .int .i64 0, .int .i64 a0] from (k54_mkM _ _ _ (⟨4, 2, 3, 0, a0⟩ : S54) )) (Reps.c5 (show Kd.M k54 _ _ _ (⟨2, 2, 2, 1, 0⟩ : S54) [.int .i64 2, .int .i64 2, .int .i64 2, .int .i64 1, .int .i64 0] from (k54_mkM _ _ _ (⟨2, 2, 2, 1, 0⟩ : S54) )) (Reps.c5 (show Kd.M k54 _ _ _ (⟨5, 0, 3, 2, a0⟩ : S54) [.int .i64 5, .int .i64 0, .int .i64 3, .int .i64 2, .int .i64 a0] from (k54_mkM _ _ _ (⟨5, 0, 3, 2, a0⟩ : S54) )) (Reps.c5 (show Kd.M k54 _ _ _ (⟨10, 0, 0, 1, 0⟩ : S54) [.int .i64 10, .int .i64 0, .int .i64 0, .int .i64 1, .int .i64 0] from (k54_mkM _ _ _ (⟨10, 0, 0, 1, 0⟩ : S54) )) (Reps.c5 (show Kd.M k54 _ _ _ (⟨7, 0, 0, 0, wrap64 (a2 + 8)⟩ : S54) [.int .i64 7, .int .i64 0, .int .i64 0, .int .i64 0, .int .i64 (wrap64 (a2 + 8))] from (k54_mkM _ _ _ (⟨7, 0, 0, 0, wrap64 (a2 + 8)⟩ : S54) )) (Reps.c5 (show Kd.M k54 _ _ _ (⟨8, 0, 0, 0, wrap64 (a2 + 2)⟩ : S54) [.int .i64 8, .int .i64 0, .int .i64 0, .int .i64 0, .int .i64 (wrap64 (a2 + 2))] from (k54_mkM _ _ _ (⟨8, 0, 0, 0, wrap64 (a2 + 2)⟩ : S54) )) (Reps.c5 (show Kd.M k54 _ _ _ (⟨9, 0, 0, 0, 0⟩ : S54) [.int .i64 9, .int .i64 0, .int .i64 0, .int .i64 0, .int .i64 0] from (k54_mkM _ _ _ (⟨9, 0, 0, 0, 0⟩ : S54) )) (Reps.none _ _))))))))))); intro v278 w7 ho8 hb hg_ hnew_; clear hg_ hnew_; (first | rw [← Ny277.out] at ho8 | (simp only [Int.reduceToNat] at ho8; rw [← Ny277.out] at ho8)); have n0_ := Aside0.mk (Kd.R_lower ho8 (below_size (zB7_0))); have n1_ := Aside0.mk (below_step (zB7_0) hb); clear HB; have HO279 := n0_; have HB := n1_; clear n0_ n1_; clear hb ho8; obtain ⟨Ao9, co9, eo9⟩ := Kd.R_slice HO279.out; subst eo9) | ((with_reducible refine gate_callee (f := 84) rfl ?_); refine goesL_ (some 31) rfl rfl Try.func84 (by kernel_rfl) rfl #[.slice Ao9 y277.length co9] rfl zT7 ?_; (with_reducible refine (spec_l25Codes.calls k _ _ y277 t280 _ ?side1 ?side2 A6.out).mono ?_); (case side1 => repeat (first | exact (Kd.R_reads' HO279.out).2.2 | (with_reducible refine Kd.C_alloc ?_ _) | (with_reducible refine Kd.C_drewN ?_ _) | (with_reducible refine Kd.C_drew ?_))); (case side2 => exact (Kd.R_reads' HO279.out).2.1); rintro e w10 ⟨v281, rfl, ho0, hb⟩; refine ⟨_, rfl, ?_⟩; have n0_ := Aside0.mk (Kd.R_below (zR7 HO279.out) hb); have n1_ := Aside0.mk (Kd.R_lower ho0 (below_size (zB7_0))); have n2_ := Aside0.mk (below_step (zB7_0) hb); clear HO279; clear HB; have HO279 := n0_; have HO282 := n1_; have HB := n2_; clear n0_ n1_ n2_; (try clear hb); (try clear hb2); (try clear hk); (try clear hi); (try clear ho0)))
  go_ret2
  exact ⟨_, zE7, zR7 HO282.out, zB7_0⟩

end Go.Proofs.Ytddncenhddiemaa.PFnLoses
