-- made by wip/tools/myprint.py out of the seat's translation
import Derived.Test.YtgbjengnkbomoaaPFnByHartx0
import Derived.Test.YtgbjengnkbomoaaPFnByHartx9
namespace Go.Proofs.Ytgbjengnkbomoaa.PFnByHart
open Go.RowKit Go.Proofs.YtgbjengnkbomoaaW.PrintWords Go.Proofs.YtgbjengnkbomoaaW.PrintLast Go.Proofs.YtgbjengnkbomoaaW.PrintMore
attribute [local go_sem] max2_int min2_int max_two min_two max_three min_three max_four min_four   -- for this text's walks alone
set_option linter.unusedVariables false
set_option linter.unusedSimpArgs false
theorem zc10_5 {w : World} {g : Nat} {a0 a1 a2 a3 a4 : Value} {t : TypeId} (h : w.heap[g]? = some (.cells #[a0, a1, a2, a3, a4] t (0, 0))) : w.cell? ⟨g, 0, none⟩ = some a0 ∧ w.cell? ⟨g, 1, none⟩ = some a1 ∧ w.cell? ⟨g, 2, none⟩ = some a2 ∧ w.cell? ⟨g, 3, none⟩ = some a3 ∧ w.cell? ⟨g, 4, none⟩ = some a4 ∧ w.frozen? ⟨g, 0, none⟩ = false ∧ w.frozen? ⟨g, 1, none⟩ = false ∧ w.frozen? ⟨g, 2, none⟩ = false ∧ w.frozen? ⟨g, 3, none⟩ = false ∧ w.frozen? ⟨g, 4, none⟩ = false := ⟨(blk_cell h 0).trans rfl, (blk_cell h 1).trans rfl, (blk_cell h 2).trans rfl, (blk_cell h 3).trans rfl, (blk_cell h 4).trans rfl, blk_frozen h 0, blk_frozen h 1, blk_frozen h 2, blk_frozen h 3, blk_frozen h 4⟩
theorem zS10 {p q : Prop} (x : q) (h : q → p := by intro h; (with_reducible repeat (first | apply Kd.S_alloc | apply Kd.S_drewN | apply Kd.S_drew)); exact h) : p := h x
theorem zK10 {p q : Prop} (x : q) (h : q → p := by intro h; (with_reducible repeat (first | refine blk_drewN ?_ _ | refine blk_drew ?_ | refine blk_alloc ?_ _)); exact h) : p := h x
theorem zA10 {p : Prop} [Decidable p] (h : decide p = true := by first | (with_reducible assumption) | assumption) : p := of_decide_eq_true h
theorem zT10 {p : Prop} (h : p := by (try simp only [List.map_toArray, List.map_cons, List.map_nil]); first | done | rfl | (simp only [List.length_drop, List.length_take]; rfl)) : p := h
theorem zg10 {W w w1 : World} {g : Nat} {o : Obj} {row : Option Nat} (x : W.heap[g]? = some o) (hg : w.grownBy w1 row) (hne : some g ≠ row) (h : W.heap[g]? = some o → w.heap[g]? = some o := by intro h; (with_reducible repeat (first | refine blk_drewN ?_ _ | refine blk_drew ?_ | refine blk_alloc ?_ _)); exact h) : w1.heap[g]? = some o := blk_grown (h x) hg hne
theorem zP10 {p q : Prop} (x : q) (h : q → p := by intro h; (with_reducible repeat (first | refine blk_drewN ?_ _ | refine blk_drew ?_ | refine blk_alloc ?_ _)); exact h) : p := h x
theorem zV10 {a b : Act} (h : a = b := by simp only [Act.put, List.setIfInBounds_toArray, List.set_cons_zero, List.set_cons_succ, i64_w, i32_w]; rfl) : a = b := h
theorem zE10 {p : Prop} (h : p := by first | rfl | (simp [errW_none, errW_some] <;> rfl) | (simp [*, errW_none, errW_some] <;> rfl)) : p := h
theorem zB10_0 {p : Prop} (h : p := by repeat (first | (with_reducible first | exact HB.out | apply below_alloc | apply pw_below_drewN | apply below_drew1) | exact HB.out)) : p := h
theorem zB10_1 {p : Prop} (h : p := by repeat (first | (with_reducible first | exact HB.out | apply below_alloc | apply pw_below_drewN | apply below_drew1 | refine below_set ?_ GE564.out) | exact HB.out)) : p := h
theorem zB10_2 {p : Prop} (h : p := by repeat (first | (with_reducible first | exact HB.out | apply below_alloc | apply pw_below_drewN | apply below_drew1 | refine below_set ?_ GB24.out | refine below_set ?_ GE564.out) | exact HB.out)) : p := h

/-! ### impl_ByHart: function 10 -/
def impl_ByHart.l0 : Nat → Int → List (List (S34)) → List (S31) → Int → Int → Option ((List (List (S34))))
 | 0, _, _, _, _, _ => none
 | k + 1, x0, x5, x13, x14, x15 => if x15 < x14 then (if 0 ≤ x15 then (if x15 < (x13.length : Int) then (if ((rd_T31 x13 x15).f2) ≥ 0 then ((impl_from.f ((rd_T31 x13 x15).f0) 0 (wrap64 (x0 - 1))).bind fun t565 => (if t565 = true then (if 0 ≤ ((rd_T31 x13 x15).f0) then (if ((rd_T31 x13 x15).f0) < (x5.length : Int) then (if (rd_L7 x5 ((rd_T31 x13 x15).f0)).length < 5864062014805 then (impl_ByHart.l0 k x0 (x5.set (((rd_T31 x13 x15).f0) : Int).toNat ((rd_L7 x5 ((rd_T31 x13 x15).f0)) ++ [(⟨(rd_T31 x13 x15).f2, (rd_T31 x13 x15).f3, (rd_T31 x13 x15).f4⟩ : S34)])) x13 x14 (wrap64 (x15 + 1))) else (none)) else (none)) else (none)) else (impl_ByHart.l0 k x0 x5 x13 x14 (wrap64 (x15 + 1))))) else (impl_ByHart.l0 k x0 x5 x13 x14 (wrap64 (x15 + 1)))) else (none)) else (none)) else (some x5)
def impl_ByHart.f (k : Nat) (a0 : Int) (l1 : List (S31)) : Option ((List (List (S34)))) := (impl_from.f a0 1 8).bind fun t559 => (if t559 = true then (if 0 ≤ a0 then (if (a0 : Int).toNat ≤ 11728124029610 then (impl_ByHart.l0 k a0 (List.replicate (a0 : Int).toNat []) l1 (l1.length : Int) 0) else (none)) else (none)) else (some ([] : List (List (S34)))))
theorem impl_ByHart.mono_l : ∀ k, (∀ y0 y1 y2 y3 y4, LeO (impl_ByHart.l0 k y0 y1 y2 y3 y4) (impl_ByHart.l0 (k + 1) y0 y1 y2 y3 y4))
 | 0 => fun _ _ _ _ _ r h => by simp [impl_ByHart.l0] at h
 | k + 1 => by
  have ih0 := impl_ByHart.mono_l k
  ·intro y0 y1 y2 y3 y4
   unfold impl_ByHart.l0
   repeat' first
   | (with_reducible exact ih0 _ _ _ _ _)
   | (with_reducible exact LeO.refl _)
   | (with_reducible exact LeO.none _)
   | (with_reducible refine LeO.ite ?_ ?_)
   | (with_reducible refine LeO.bind ?_ (fun _ => ?_))
   | exact ih0 _ _ _ _ _
   | exact LeO.none _
   | refine LeO.ite ?_ ?_
   | refine LeO.bind ?_ (fun _ => ?_)
theorem impl_ByHart.mono : ∀ a0 a1 k, LeO (impl_ByHart.f k a0 a1) (impl_ByHart.f (k + 1) a0 a1) := by
 intro a0 a1 k
 have ih0 := impl_ByHart.mono_l k
 unfold impl_ByHart.f
 repeat' first
   | (with_reducible exact ih0 _ _ _ _ _)
   | (with_reducible exact LeO.refl _)
   | (with_reducible exact LeO.none _)
   | (with_reducible refine LeO.ite ?_ ?_)
   | (with_reducible refine LeO.bind ?_ (fun _ => ?_))
   | exact ih0 _ _ _ _ _
   | exact LeO.none _
   | refine LeO.ite ?_ ?_
   | refine LeO.bind ?_ (fun _ => ?_)
def impl_ByHart.T8 : Bool × List (List Nat × List Nat) := (true, [([], []), ([], []), ([1], [1]), ([], []), ([], []), ([4], [4]), ([3, 5], [3, 5]), ([6], [6]), ([], []), ([8], [8]), ([], []), ([10], [10]), ([], []), ([12], [12]), ([9, 11, 13], [9, 11, 13]), ([14], [14]), ([7, 15], [7, 15]), ([0, 2, 0, 1, 2, 3, 4, 5, 6, 7, 8, 9, 10, 11, 12, 13, 14, 15, 16], [0, 2]), ([17, 16, 16, 0, 1, 2, 3, 4, 5, 6, 7, 8, 9, 10, 11, 12, 13, 14, 15, 16], [16, 17])])
def impl_ByHart.B8 : List Nat := [0, 0, 2, 0, 0, 16, 56, 120, 0, 256, 0, 1024, 0, 4096, 16128, 32512, 65528, 131071, 262143]
theorem impl_ByHart.tab8 : rtab .any (opsOf Try.f10 8) = impl_ByHart.T8 := by kernel_rfl
theorem impl_ByHart.bits8 : waitsOk impl_ByHart.T8.2 impl_ByHart.B8 = true := by kernel_rfl
set_option maxHeartbeats 8000000 in
set_option maxRecDepth 100000 in
theorem impl_ByHart.calls (k : Nat) (a0 : Int) (A1 : Option Addr) (c1 : Nat) (l1 : List (S31)) (r : List (List (S34))) (w : World) (hr1 : Kd.C k31 w A1 l1.length l1) (hc1 : l1.length ≤ c1) (h : impl_ByHart.f k a0 l1 = some r) :
  Calls Try.prog 10 #[.int .i64 a0, .slice A1 l1.length c1] w fun e w' => ∃ v0_ : Value, e = .returned (v0_) ∧ Kd.S (Kd.slice 34 k34) 32 w' w.heap.size (fun _ => True) v0_ r ∧ Below w.heap.size w w' := by
 have hu31 := Try.underlying31
 have hu34 := Try.underlying34
 have HR1 := Aside0.mk hr1
 have HC1 := Aside0.mk hc1
 clear hr1 hc1
 have HB := Aside0.mk (Below.refl w.heap.size w)
 have H : ((impl_from.f a0 1 8).bind fun t559 => (if t559 = true then (if 0 ≤ a0 then (if (a0 : Int).toNat ≤ 11728124029610 then (impl_ByHart.l0 k a0 (List.replicate (a0 : Int).toNat []) l1 (l1.length : Int) 0) else (none)) else (none)) else (some ([] : List (List (S34)))))) = some r := h
 clear h
 replace H := Option.bind_eq_some_iff.mp H
 obtain ⟨t559, A30, H⟩ := H
 replace H : (if t559 = true then (if 0 ≤ a0 then (if (a0 : Int).toNat ≤ 11728124029610 then (impl_ByHart.l0 k a0 (List.replicate (a0 : Int).toNat []) l1 (l1.length : Int) 0) else (none)) else (none)) else (some ([] : List (List (S34))))) = some r := H
 have A3 := Aside0.mk A30
 clear A30
 by_cases c4 : t559 = true
 rotate_left
 ·replace c4 := Bool.eq_false_iff.mpr c4
  subst c4
  have H1 : (some ([] : List (List (S34)))) = some r := by rw [if_neg (show ¬ (false = true) by decide)] at H; exact H
  clear H
  have H := H1
  clear H1
  obtain rfl := Option.some.inj H
  go_enter Try.func10, Try.ntmps10
  go_wp2_with (first | ((with_reducible refine gate_callee (f := 31) rfl ?_); refine goesL_ (some 9) rfl rfl Try.func31 (by kernel_rfl) rfl #[.int .i64 a0, .int .i64 1, .int .i64 8] rfl zT10 ?_; (with_reducible refine (impl_from.calls a0 1 8 false _ A3.out).mono ?_); rintro e w' ⟨rfl, ⟨nd, rfl⟩⟩; refine ⟨_, rfl, ?_⟩))
  go_ret
  exact ⟨_, zE10, by first | exact Kd.S_nil _ _ _ _ _ | exact Kd.N_nil _ _ _ _ _ | exact Kd.V_nil _ _ _ _ _ | exact Kd.Q_nil _ _ _ _ _ | exact Kd.R_nil _ _ _ _ _, zB10_0⟩
 subst c4
 have H1 : (if 0 ≤ a0 then (if (a0 : Int).toNat ≤ 11728124029610 then (impl_ByHart.l0 k a0 (List.replicate (a0 : Int).toNat []) l1 (l1.length : Int) 0) else (none)) else (none)) = some r := by rw [if_pos rfl] at H; exact H
 clear H
 have H := H1
 clear H1
 by_cases c5 : 0 ≤ a0
 rotate_left
 ·rw [if_neg c5] at H
  exact absurd H (by simp)
 rw [if_pos c5] at H
 have c5b0 := eq_true c5
 have c5b1 : decide (0 ≤ a0) = true := decide_eq_true c5
 clear c5
 by_cases c6 : (a0 : Int).toNat ≤ 11728124029610
 rotate_left
 ·rw [if_neg c6] at H
  exact absurd H (by simp)
 rw [if_pos c6] at H
 have c6b0 := eq_true c6
 have c6b1 : decide ((a0 : Int).toNat ≤ 11728124029610) = true := decide_eq_true c6
 clear c6
 obtain ⟨y560, hy560⟩ : ∃ y_ : List (List (S34)), y_ = (List.replicate (a0 : Int).toNat []) := ⟨_, rfl⟩
 replace H : (impl_ByHart.l0 k a0 y560 l1 (l1.length : Int) 0) = some r := by first | (rw [hy560]; with_reducible exact H) | (have H2_ := (Option.bind_some _ _).symm.trans H; rw [hy560]; with_reducible exact H2_) | (have H2_ := (Option.bind_some _ _).symm.trans H; with_reducible exact H2_) | with_reducible exact H | (rw [hy560]; exact H) | exact H
 have Ny560 := Aside0.mk hy560
 clear hy560
 have H' := Aside0.mk H
 clear H
 go_enter Try.func10, Try.ntmps10
 go_wp2_with (first | ((with_reducible refine gate_callee (f := 31) rfl ?_); refine goesL_ (some 9) rfl rfl Try.func31 (by kernel_rfl) rfl #[.int .i64 a0, .int .i64 1, .int .i64 8] rfl zT10 ?_; (with_reducible refine (impl_from.calls a0 1 8 true _ A3.out).mono ?_); rintro e w' ⟨rfl, ⟨nd, rfl⟩⟩; refine ⟨_, rfl, ?_⟩) | ((with_reducible refine gate_dst (N := 12) rfl ?_); refine Kd.S_make (Kd.slice 34 k34) _ 32 rfl (N := 12) rfl 27 _ _ rfl a0 rfl rfl Try.underlying27 (.slice none 0 0) 24 info32 rfl (by decide) (by omega) [] (ok := fun _ => True) (okp := fun _ => True) ⟨_, rfl, Kd.R_nil _ _ _ _ _⟩ (fun _ hk => hk) trivial (zA10) (Nat.le_trans (Nat.mul_le_mul_right _ (zA10 : a0.toNat ≤ 11728124029610)) (by omega)) (Below.refl _ _) (Nat.le_refl _) ?_; intro v561 w7 ho8 hb hg_ hnew_; clear hg_ hnew_; (first | rw [← Ny560.out] at ho8 | (simp only [Int.reduceToNat] at ho8; rw [← Ny560.out] at ho8)); have n0_ := Aside0.mk (Kd.S_lower ho8 (below_size (zB10_0))); have n1_ := Aside0.mk (below_step (zB10_0) hb); clear HB; have HO562 := n0_; have HB := n1_; clear n0_ n1_; clear hb ho8))
 go_loopg [15] k (fun kq v15 w' => ∃ (x5_1 : List (List (S34))) (x15_1 : Int), v15 = .int .i64 x15_1 ∧ Aside0 (impl_ByHart.l0 kq a0 x5_1 l1 (l1.length : Int) x15_1 = some r) ∧ Aside0 (kq ≤ k) ∧ Aside0 (Kd.S (Kd.slice 34 k34) 32 w' w.heap.size (fun _ => True) v561 x5_1) ∧ Aside0 (Below w.heap.size w w'))
 case atStart => exact ⟨(y560), (0), (by first | rfl | (simp; done) | (simp [*]; done)), H', ⟨Nat.le_refl _⟩, ⟨zS10 HO562.out⟩, ⟨zB10_0⟩⟩
 case round =>
  clear H'
  try clear c1
  try clear p2
  try clear c3
  try clear c4
  try clear c5
  try clear c5b0
  try clear c5b1
  try clear c6
  try clear c6b0
  try clear c6b1
  obtain ⟨x5_1, x15_1, rfl, HA, HK1, HO_5, HB⟩ := hrel
  cases gk with
  | zero => exact absurd HA.out (by simp [impl_ByHart.l0])
  | succ k1 =>
   have H := HA.out
   clear HA
   simp only [impl_ByHart.l0] at H
   by_cases c9 : x15_1 < (l1.length : Int)
   rotate_left
   ·rw [if_neg c9] at H
    have c9b0 : decide (x15_1 < (l1.length : Int)) = false := decide_eq_false c9
    clear c9
    obtain rfl := Option.some.inj H
    go_wp2
    go_ret
    exact ⟨_, zE10, zS10 HO_5.out, zB10_0⟩
   rw [if_pos c9] at H
   have c9b0 : decide (x15_1 < (l1.length : Int)) = true := decide_eq_true c9
   clear c9
   by_cases c10 : 0 ≤ x15_1
   rotate_left
   ·rw [if_neg c10] at H
    exact absurd H (by simp)
   rw [if_pos c10] at H
   have c10b0 : decide (0 ≤ x15_1) = true := decide_eq_true c10
   clear c10
   by_cases c11 : x15_1 < (l1.length : Int)
   rotate_left
   ·rw [if_neg c11] at H
    exact absurd H (by simp)
   rw [if_pos c11] at H
   have c11b0 : decide (x15_1 < (l1.length : Int)) = true := decide_eq_true c11
   clear c11
   by_cases c12 : ((rd_T31 l1 x15_1).f2) ≥ 0
   rotate_left
   ·rw [if_neg c12] at H
    have c12b0 : decide (0 ≤ ((rd_T31 l1 x15_1).f2)) = false := decide_eq_false c12
    clear c12
    have H' := Aside0.mk H
    clear H
    have p563 : 0 ≤ (x15_1 : Int) := zA10
    have q563 : x15_1 < (l1.length : Int) := zA10
    obtain ⟨ad563, e563, hx563_0, hx563_1, hx563_2, hx563_3, hx563_4⟩ := at_T31 HR1.out x15_1 p563 q563
    cases e563
    replace hx563_0 := (HB.out.cell (World.block_lt_of_cell? w _ hx563_0)).trans hx563_0
    replace hx563_1 := (HB.out.cell (World.block_lt_of_cell? w _ hx563_1)).trans hx563_1
    replace hx563_2 := (HB.out.cell (World.block_lt_of_cell? w _ hx563_2)).trans hx563_2
    replace hx563_3 := (HB.out.cell (World.block_lt_of_cell? w _ hx563_3)).trans hx563_3
    replace hx563_4 := (HB.out.cell (World.block_lt_of_cell? w _ hx563_4)).trans hx563_4
    replace p563 := eq_true p563
    replace q563 := eq_true q563
    go_wp2_with (first | ((with_reducible refine gate_dst (N := 7) rfl ?_); refine box_event ?hg (N := 7) ?hd (cs := #[.int .i64 0, .int .i64 0, .int .i64 0, .int .i64 0, .int .i64 0]) (t := 31) ?hr ?_; (case hd => rfl); (case hg => rfl); (case hr => first | (go_simp; done) | (go_simp; rfl)); intro gb564 hg w31 hbox hb; have n0_ := Aside0.mk (Kd.S_below (zS10 HO_5.out) hb); have n1_ := Aside0.mk (below_step (zB10_0) hb); have n2_ := Aside0.mk (hbox); have n3_ := Aside0.mk ((by rw [hg]; exact (below_size (zB10_0)) : w.heap.size ≤ gb564)); have n4_ := Aside0.mk ((by rw [hg]; exact (below_size (zB10_0)) : w.heap.size ≤ gb564)); clear HO_5; clear HB; have HO_5 := n0_; have HB := n1_; have BK564 := n2_; have GW564 := n3_; have GE564 := n4_; clear n0_ n1_ n2_ n3_ n4_; clear hb hbox hg; obtain ⟨hcz32_0, hcz32_1, hcz32_2, hcz32_3, hcz32_4, hfz32_0, hfz32_1, hfz32_2, hfz32_3, hfz32_4⟩ := zc10_5 (w := w31) BK564.out))
    go_roundg k1
    case measure => have := HK1.out; omega
    case rel => exact ⟨(x5_1), (wrap64 (x15_1 + 1)), (by first | rfl | (simp; done) | (simp [*]; done)), H', ⟨by have := HK1.out; omega⟩, ⟨by (with_reducible repeat (first | apply Kd.S_alloc | apply Kd.S_drewN | apply Kd.S_drew)); exact Kd.S_mono (Kd.S_far (p := ⟨gb564, 4, none⟩) (Kd.S_far (p := ⟨gb564, 3, none⟩) (Kd.S_far (p := ⟨gb564, 2, none⟩) (Kd.S_far (p := ⟨gb564, 1, none⟩) (Kd.S_far (p := ⟨gb564, 0, none⟩) (Kd.S_types HO_5.out BK564.out (by decide)) (fun _ hk => hk.2) (.int .i64 ((rd_T31 l1 x15_1).f0))) (fun _ hk => hk.2) (.int .i64 ((rd_T31 l1 x15_1).f1))) (fun _ hk => hk.2) (.int .i64 ((rd_T31 l1 x15_1).f2))) (fun _ hk => hk.2) (.int .i64 ((rd_T31 l1 x15_1).f3))) (fun _ hk => hk.2) (.int .i64 ((rd_T31 l1 x15_1).f4))) (fun _ hk => trivial)⟩, ⟨zB10_1⟩⟩
   rw [if_pos c12] at H
   have c12b0 : decide (0 ≤ ((rd_T31 l1 x15_1).f2)) = true := decide_eq_true c12
   clear c12
   replace H := Option.bind_eq_some_iff.mp H
   obtain ⟨t565, A130, H⟩ := H
   replace H : (if t565 = true then (if 0 ≤ ((rd_T31 l1 x15_1).f0) then (if ((rd_T31 l1 x15_1).f0) < (x5_1.length : Int) then (if (rd_L7 x5_1 ((rd_T31 l1 x15_1).f0)).length < 5864062014805 then (impl_ByHart.l0 k1 a0 (x5_1.set (((rd_T31 l1 x15_1).f0) : Int).toNat ((rd_L7 x5_1 ((rd_T31 l1 x15_1).f0)) ++ [(⟨(rd_T31 l1 x15_1).f2, (rd_T31 l1 x15_1).f3, (rd_T31 l1 x15_1).f4⟩ : S34)])) l1 (l1.length : Int) (wrap64 (x15_1 + 1))) else (none)) else (none)) else (none)) else (impl_ByHart.l0 k1 a0 x5_1 l1 (l1.length : Int) (wrap64 (x15_1 + 1)))) = some r := H
   have A13 := Aside0.mk A130
   clear A130
   by_cases c14 : t565 = true
   rotate_left
   ·replace c14 := Bool.eq_false_iff.mpr c14
    subst c14
    have H1 : (impl_ByHart.l0 k1 a0 x5_1 l1 (l1.length : Int) (wrap64 (x15_1 + 1))) = some r := by rw [if_neg (show ¬ (false = true) by decide)] at H; exact H
    clear H
    have H := H1
    clear H1
    have H' := Aside0.mk H
    clear H
    have p563 : 0 ≤ (x15_1 : Int) := zA10
    have q563 : x15_1 < (l1.length : Int) := zA10
    obtain ⟨ad563, e563, hx563_0, hx563_1, hx563_2, hx563_3, hx563_4⟩ := at_T31 HR1.out x15_1 p563 q563
    cases e563
    replace hx563_0 := (HB.out.cell (World.block_lt_of_cell? w _ hx563_0)).trans hx563_0
    replace hx563_1 := (HB.out.cell (World.block_lt_of_cell? w _ hx563_1)).trans hx563_1
    replace hx563_2 := (HB.out.cell (World.block_lt_of_cell? w _ hx563_2)).trans hx563_2
    replace hx563_3 := (HB.out.cell (World.block_lt_of_cell? w _ hx563_3)).trans hx563_3
    replace hx563_4 := (HB.out.cell (World.block_lt_of_cell? w _ hx563_4)).trans hx563_4
    replace p563 := eq_true p563
    replace q563 := eq_true q563
    go_wp2_with (first | ((with_reducible refine gate_dst (N := 7) rfl ?_); refine box_event ?hg (N := 7) ?hd (cs := #[.int .i64 0, .int .i64 0, .int .i64 0, .int .i64 0, .int .i64 0]) (t := 31) ?hr ?_; (case hd => rfl); (case hg => rfl); (case hr => first | (go_simp; done) | (go_simp; rfl)); intro gb564 hg w29 hbox hb; have n0_ := Aside0.mk (Kd.S_below (zS10 HO_5.out) hb); have n1_ := Aside0.mk (below_step (zB10_0) hb); have n2_ := Aside0.mk (hbox); have n3_ := Aside0.mk ((by rw [hg]; exact (below_size (zB10_0)) : w.heap.size ≤ gb564)); have n4_ := Aside0.mk ((by rw [hg]; exact (below_size (zB10_0)) : w.heap.size ≤ gb564)); clear HO_5; clear HB; have HO_5 := n0_; have HB := n1_; have BK564 := n2_; have GW564 := n3_; have GE564 := n4_; clear n0_ n1_ n2_ n3_ n4_; clear hb hbox hg; obtain ⟨hcz30_0, hcz30_1, hcz30_2, hcz30_3, hcz30_4, hfz30_0, hfz30_1, hfz30_2, hfz30_3, hfz30_4⟩ := zc10_5 (w := w29) BK564.out) | (go_at_call 31; (with_reducible refine (impl_from.calls ((rd_T31 l1 x15_1).f0) 0 (wrap64 (a0 - 1)) false _ A13.out).mono ?_); rintro e w' ⟨rfl, ⟨nd, rfl⟩⟩))
    go_roundg k1
    case measure => have := HK1.out; omega
    case rel => exact ⟨(x5_1), (wrap64 (x15_1 + 1)), (by first | rfl | (simp; done) | (simp [*]; done)), H', ⟨by have := HK1.out; omega⟩, ⟨by (with_reducible repeat (first | apply Kd.S_alloc | apply Kd.S_drewN | apply Kd.S_drew)); exact Kd.S_mono (Kd.S_far (p := ⟨gb564, 4, none⟩) (Kd.S_far (p := ⟨gb564, 3, none⟩) (Kd.S_far (p := ⟨gb564, 2, none⟩) (Kd.S_far (p := ⟨gb564, 1, none⟩) (Kd.S_far (p := ⟨gb564, 0, none⟩) (Kd.S_types HO_5.out BK564.out (by decide)) (fun _ hk => hk.2) (.int .i64 ((rd_T31 l1 x15_1).f0))) (fun _ hk => hk.2) (.int .i64 ((rd_T31 l1 x15_1).f1))) (fun _ hk => hk.2) (.int .i64 ((rd_T31 l1 x15_1).f2))) (fun _ hk => hk.2) (.int .i64 ((rd_T31 l1 x15_1).f3))) (fun _ hk => hk.2) (.int .i64 ((rd_T31 l1 x15_1).f4))) (fun _ hk => trivial)⟩, ⟨zB10_1⟩⟩
   subst c14
   have H1 : (if 0 ≤ ((rd_T31 l1 x15_1).f0) then (if ((rd_T31 l1 x15_1).f0) < (x5_1.length : Int) then (if (rd_L7 x5_1 ((rd_T31 l1 x15_1).f0)).length < 5864062014805 then (impl_ByHart.l0 k1 a0 (x5_1.set (((rd_T31 l1 x15_1).f0) : Int).toNat ((rd_L7 x5_1 ((rd_T31 l1 x15_1).f0)) ++ [(⟨(rd_T31 l1 x15_1).f2, (rd_T31 l1 x15_1).f3, (rd_T31 l1 x15_1).f4⟩ : S34)])) l1 (l1.length : Int) (wrap64 (x15_1 + 1))) else (none)) else (none)) else (none)) = some r := by rw [if_pos rfl] at H; exact H
   clear H
   have H := H1
   clear H1
   by_cases c15 : 0 ≤ ((rd_T31 l1 x15_1).f0)
   rotate_left
   ·rw [if_neg c15] at H
    exact absurd H (by simp)
   rw [if_pos c15] at H
   have c15b0 : decide (0 ≤ ((rd_T31 l1 x15_1).f0)) = true := decide_eq_true c15
   clear c15
   by_cases c16 : ((rd_T31 l1 x15_1).f0) < (x5_1.length : Int)
   rotate_left
   ·rw [if_neg c16] at H
    exact absurd H (by simp)
   rw [if_pos c16] at H
   have c16b0 : decide (((rd_T31 l1 x15_1).f0) < (x5_1.length : Int)) = true := decide_eq_true c16
   clear c16
   by_cases c17 : (rd_L7 x5_1 ((rd_T31 l1 x15_1).f0)).length < 5864062014805
   rotate_left
   ·rw [if_neg c17] at H
    exact absurd H (by simp)
   rw [if_pos c17] at H
   have LMc17 := Aside0.mk c17
   clear c17
   obtain ⟨y567, hy567⟩ : ∃ y_ : List (S34), y_ = ((rd_L7 x5_1 ((rd_T31 l1 x15_1).f0)) ++ [(⟨(rd_T31 l1 x15_1).f2, (rd_T31 l1 x15_1).f3, (rd_T31 l1 x15_1).f4⟩ : S34)]) := ⟨_, rfl⟩
   replace H : (impl_ByHart.l0 k1 a0 (x5_1.set (((rd_T31 l1 x15_1).f0) : Int).toNat y567) l1 (l1.length : Int) (wrap64 (x15_1 + 1))) = some r := by first | (rw [hy567]; with_reducible exact H) | (have H2_ := (Option.bind_some _ _).symm.trans H; rw [hy567]; with_reducible exact H2_) | (have H2_ := (Option.bind_some _ _).symm.trans H; with_reducible exact H2_) | with_reducible exact H | (rw [hy567]; exact H) | exact H
   have Ny567 := Aside0.mk hy567
   clear hy567
   obtain ⟨y570, hy570⟩ : ∃ y_ : List (List (S34)), y_ = (x5_1.set (((rd_T31 l1 x15_1).f0) : Int).toNat y567) := ⟨_, rfl⟩
   replace H : (impl_ByHart.l0 k1 a0 y570 l1 (l1.length : Int) (wrap64 (x15_1 + 1))) = some r := by first | (rw [hy570]; with_reducible exact H) | (have H2_ := (Option.bind_some _ _).symm.trans H; rw [hy570]; with_reducible exact H2_) | (have H2_ := (Option.bind_some _ _).symm.trans H; with_reducible exact H2_) | with_reducible exact H | (rw [hy570]; exact H) | exact H
   have Ny570 := Aside0.mk hy570
   clear hy570
   have H' := Aside0.mk H
   clear H
   have p563 : 0 ≤ (x15_1 : Int) := zA10
   have q563 : x15_1 < (l1.length : Int) := zA10
   obtain ⟨ad563, e563, hx563_0, hx563_1, hx563_2, hx563_3, hx563_4⟩ := at_T31 HR1.out x15_1 p563 q563
   cases e563
   replace hx563_0 := (HB.out.cell (World.block_lt_of_cell? w _ hx563_0)).trans hx563_0
   replace hx563_1 := (HB.out.cell (World.block_lt_of_cell? w _ hx563_1)).trans hx563_1
   replace hx563_2 := (HB.out.cell (World.block_lt_of_cell? w _ hx563_2)).trans hx563_2
   replace hx563_3 := (HB.out.cell (World.block_lt_of_cell? w _ hx563_3)).trans hx563_3
   replace hx563_4 := (HB.out.cell (World.block_lt_of_cell? w _ hx563_4)).trans hx563_4
   replace p563 := eq_true p563
   replace q563 := eq_true q563
   try go_wp2_with (first | ((with_reducible refine gate_dst (N := 7) rfl ?_); refine box_event ?hg (N := 7) ?hd (cs := #[.int .i64 0, .int .i64 0, .int .i64 0, .int .i64 0, .int .i64 0]) (t := 31) ?hr ?_; (case hd => rfl); (case hg => rfl); (case hr => first | (go_simp; done) | (go_simp; rfl)); intro gb564 hg w19 hbox hb; have n0_ := Aside0.mk (Kd.S_below (zS10 HO_5.out) hb); have n1_ := Aside0.mk (below_step (zB10_0) hb); have n2_ := Aside0.mk (hbox); have n3_ := Aside0.mk ((by rw [hg]; exact (below_size (zB10_0)) : w.heap.size ≤ gb564)); have n4_ := Aside0.mk ((by rw [hg]; exact (below_size (zB10_0)) : w.heap.size ≤ gb564)); clear HO_5; clear HB; have HO_5 := n0_; have HB := n1_; have BK564 := n2_; have GW564 := n3_; have GE564 := n4_; clear n0_ n1_ n2_ n3_ n4_; clear hb hbox hg; obtain ⟨hcz20_0, hcz20_1, hcz20_2, hcz20_3, hcz20_4, hfz20_0, hfz20_1, hfz20_2, hfz20_3, hfz20_4⟩ := zc10_5 (w := w19) BK564.out) | (go_at_call 31; (with_reducible refine (impl_from.calls ((rd_T31 l1 x15_1).f0) 0 (wrap64 (a0 - 1)) true _ A13.out).mono ?_); rintro e w' ⟨rfl, ⟨nd, rfl⟩⟩))
   have n0_ : Aside0 (Kd.S (Kd.slice 34 k34) 32 (((((w19.setCell ⟨gb564, 0, none⟩ (.int .i64 ((rd_T31 l1 x15_1).f0))).setCell ⟨gb564, 1, none⟩ (.int .i64 ((rd_T31 l1 x15_1).f1))).setCell ⟨gb564, 2, none⟩ (.int .i64 ((rd_T31 l1 x15_1).f2))).setCell ⟨gb564, 3, none⟩ (.int .i64 ((rd_T31 l1 x15_1).f3))).setCell ⟨gb564, 4, none⟩ (.int .i64 ((rd_T31 l1 x15_1).f4))) w.heap.size (fun _ => True) v561 x5_1) := ⟨by (with_reducible repeat (first | apply Kd.S_alloc | apply Kd.S_drewN | apply Kd.S_drew)); exact Kd.S_mono (Kd.S_far (p := ⟨gb564, 4, none⟩) (Kd.S_far (p := ⟨gb564, 3, none⟩) (Kd.S_far (p := ⟨gb564, 2, none⟩) (Kd.S_far (p := ⟨gb564, 1, none⟩) (Kd.S_far (p := ⟨gb564, 0, none⟩) (Kd.S_types HO_5.out BK564.out (by decide)) (fun _ hk => hk.2) (.int .i64 ((rd_T31 l1 x15_1).f0))) (fun _ hk => hk.2) (.int .i64 ((rd_T31 l1 x15_1).f1))) (fun _ hk => hk.2) (.int .i64 ((rd_T31 l1 x15_1).f2))) (fun _ hk => hk.2) (.int .i64 ((rd_T31 l1 x15_1).f3))) (fun _ hk => hk.2) (.int .i64 ((rd_T31 l1 x15_1).f4))) (fun _ hk => trivial)⟩
   have n1_ : Aside0 ((((((w19.setCell ⟨gb564, 0, none⟩ (.int .i64 ((rd_T31 l1 x15_1).f0))).setCell ⟨gb564, 1, none⟩ (.int .i64 ((rd_T31 l1 x15_1).f1))).setCell ⟨gb564, 2, none⟩ (.int .i64 ((rd_T31 l1 x15_1).f2))).setCell ⟨gb564, 3, none⟩ (.int .i64 ((rd_T31 l1 x15_1).f3))).setCell ⟨gb564, 4, none⟩ (.int .i64 ((rd_T31 l1 x15_1).f4))).heap[gb564]? = some (.cells #[.int .i64 ((rd_T31 l1 x15_1).f0), .int .i64 ((rd_T31 l1 x15_1).f1), .int .i64 ((rd_T31 l1 x15_1).f2), .int .i64 ((rd_T31 l1 x15_1).f3), .int .i64 ((rd_T31 l1 x15_1).f4)] 31 (0, 0))) := ⟨by refine zP10 ?_; refine blk_put (cs := #[.int .i64 ((rd_T31 l1 x15_1).f0), .int .i64 ((rd_T31 l1 x15_1).f1), .int .i64 ((rd_T31 l1 x15_1).f2), .int .i64 ((rd_T31 l1 x15_1).f3), .int .i64 0]) ?_ 4 _ rfl; refine zP10 ?_; refine blk_put (cs := #[.int .i64 ((rd_T31 l1 x15_1).f0), .int .i64 ((rd_T31 l1 x15_1).f1), .int .i64 ((rd_T31 l1 x15_1).f2), .int .i64 0, .int .i64 0]) ?_ 3 _ rfl; refine zP10 ?_; refine blk_put (cs := #[.int .i64 ((rd_T31 l1 x15_1).f0), .int .i64 ((rd_T31 l1 x15_1).f1), .int .i64 0, .int .i64 0, .int .i64 0]) ?_ 2 _ rfl; refine zP10 ?_; refine blk_put (cs := #[.int .i64 ((rd_T31 l1 x15_1).f0), .int .i64 0, .int .i64 0, .int .i64 0, .int .i64 0]) ?_ 1 _ rfl; refine zP10 ?_; refine blk_put (cs := #[.int .i64 0, .int .i64 0, .int .i64 0, .int .i64 0, .int .i64 0]) ?_ 0 _ rfl; refine zP10 ?_; exact BK564.out⟩
   have n2_ : Aside0 (Below w.heap.size w (((((w19.setCell ⟨gb564, 0, none⟩ (.int .i64 ((rd_T31 l1 x15_1).f0))).setCell ⟨gb564, 1, none⟩ (.int .i64 ((rd_T31 l1 x15_1).f1))).setCell ⟨gb564, 2, none⟩ (.int .i64 ((rd_T31 l1 x15_1).f2))).setCell ⟨gb564, 3, none⟩ (.int .i64 ((rd_T31 l1 x15_1).f3))).setCell ⟨gb564, 4, none⟩ (.int .i64 ((rd_T31 l1 x15_1).f4)))) := ⟨zB10_1⟩
   (try clear HO_5)
   (try clear BK564)
   (try clear HB)
   generalize (((((w19.setCell ⟨gb564, 0, none⟩ (.int .i64 ((rd_T31 l1 x15_1).f0))).setCell ⟨gb564, 1, none⟩ (.int .i64 ((rd_T31 l1 x15_1).f1))).setCell ⟨gb564, 2, none⟩ (.int .i64 ((rd_T31 l1 x15_1).f2))).setCell ⟨gb564, 3, none⟩ (.int .i64 ((rd_T31 l1 x15_1).f3))).setCell ⟨gb564, 4, none⟩ (.int .i64 ((rd_T31 l1 x15_1).f4))) = w21 at n0_ n1_ n2_ ⊢
   have HO_5 := n0_
   have BK564 := n1_
   have HB := n2_
   clear n0_ n1_ n2_
   (try (rw [drewN_self w21]; generalize hq_ : World.drewN w21 _ = w21; have n0_ : Aside0 (Kd.S (Kd.slice 34 k34) 32 w21 w.heap.size (fun _ => True) v561 x5_1) := ⟨by rw [← hq_]; exact (zS10 HO_5.out)⟩; have n1_ : Aside0 (w21.heap[gb564]? = some (.cells #[.int .i64 ((rd_T31 l1 x15_1).f0), .int .i64 ((rd_T31 l1 x15_1).f1), .int .i64 ((rd_T31 l1 x15_1).f2), .int .i64 ((rd_T31 l1 x15_1).f3), .int .i64 ((rd_T31 l1 x15_1).f4)] 31 (0, 0))) := ⟨by rw [← hq_]; exact (zK10 BK564.out)⟩; have n2_ : Aside0 (Below w.heap.size w w21) := ⟨by rw [← hq_]; exact (zB10_1)⟩; clear HO_5 BK564 HB hq_; have HO_5 := n0_; have BK564 := n1_; have HB := n2_; clear n0_ n1_ n2_))
   have n0_ := Aside0.mk (Kd.S_drew HO_5.out)
   have n1_ := Aside0.mk (blk_drew BK564.out)
   have n2_ := Aside0.mk (below_drew1 HB.out)
   clear HO_5 BK564 HB
   have HO_5 := n0_
   have BK564 := n1_
   have HB := n2_
   clear n0_ n1_ n2_
   obtain ⟨Ao23, co23, eo23⟩ := Kd.S_slice HO_5.out
   (first | subst eo23 | (injection eo23 with f1_ f2_ f3_; have f4_ := f1_.symm; have f5_ := f3_.symm; clear f1_ f2_ f3_; subst f4_; subst f5_))
   have p566 : 0 ≤ (((rd_T31 l1 x15_1).f0) : Int) := zA10
   have q566 : ((rd_T31 l1 x15_1).f0) < (x5_1.length : Int) := zA10
   obtain ⟨ad566, A566_0, c566_0, e566, hx566_0, hl566_0, hi566_0⟩ := at_L7 (Kd.S_reads' HO_5.out).2.2 ((rd_T31 l1 x15_1).f0) p566 q566
   cases e566
   obtain ⟨ce566, hce566, hMe566, hcc566⟩ := Kd.S_get HO_5.out [] ((rd_T31 l1 x15_1).f0) p566 (by first | exact q566 | exact zA10 | (have e_ := (Kd.S_reads' HO_5.out).1; omega))
   obtain ⟨ve566_0, rfl, ge566_0⟩ := hMe566
   have hv566_0 := hcc566 0 _ rfl
   rw [Nat.add_zero, show ((Kd.slice 34 k34)).sz = 1 from rfl, Nat.mul_one] at hv566_0
   replace hv566_0 := Option.some.inj (hv566_0.symm.trans hx566_0)
   rw [hv566_0] at ge566_0
   have HL566_0 := Aside0.mk (show Kd.R k34 34 _ _ _ _ (rd_L7 x5_1 ((rd_T31 l1 x15_1).f0)) from ge566_0)
   clear hv566_0 ge566_0
   have HX566_0 := Aside0.mk hx566_0
   clear hcc566 hce566
   have HR566_0 := Aside0.mk hi566_0
   have HC566_0 := Aside0.mk hl566_0
   clear hi566_0 hl566_0
   replace p566 := eq_true p566
   replace q566 := eq_true q566
   obtain ⟨go24, co24, eo24, gb24, gl24, cl24, HG24⟩ := Kd.S_form HO_5.out (by have h_ : (((rd_T31 l1 x15_1).f0) : Int) < ((x5_1.length : Int) : Int) := zA10; have h2_ : 0 ≤ (((rd_T31 l1 x15_1).f0) : Int) := (zA10); omega)
   (first | cases eo24 | (injection eo24 with ea_ en_ ec_; (first | subst ea_ | (injection ea_ with ea_; subst ea_)); subst ec_; clear en_))
   have GB24 := Aside0.mk gb24
   have GG24 := Aside0.mk HG24
   clear gb24 gl24 HG24
   (first | simp only [add_plain] at hx566_0 | skip)
   obtain ⟨oki24, ce24, hcl24, hM24, hcc24, _, _, hH24⟩ := Kd.S_elem HO_5.out [] (((rd_T31 l1 x15_1).f0) : Int) (zA10) (by have h_ : (((rd_T31 l1 x15_1).f0) : Int) < ((x5_1.length : Int) : Int) := zA10; first | exact h_ | (have e_ := (Kd.S_reads' HO_5.out).1; omega) | simpa using h_)
   obtain ⟨ve24_0, rfl, ge24_0⟩ := hM24
   have hv24 := hcc24 0 _ rfl
   have hX24 := HX566_0.out
   (try simp only [add_plain] at hX24)
   (try simp only [Nat.add_zero] at hv24)
   (try rw [show ((Kd.slice 34 k34)).sz = 1 from rfl, Nat.mul_one] at hv24)
   replace hv24 := Option.some.inj (hv24.symm.trans hX24)
   subst hv24
   clear hX24 hcc24 hcl24
   have UU24 := Aside0.mk (show Kd.R k34 34 _ w.heap.size oki24 (.slice A566_0 (rd_L7 x5_1 ((rd_T31 l1 x15_1).f0)).length c566_0) (rd_L7 x5_1 ((rd_T31 l1 x15_1).f0)) from ge24_0)
   have HH24 := Aside0.mk hH24
   have HN24 := Aside0.mk (Kd.S_reads' HO_5.out).1
   clear hH24 ge24_0
   refine start_ (n := 19) (S := fun w' => w'.cell? ⟨gb564, 0, none⟩ = some (.int .i64 ((rd_T31 l1 x15_1).f0)) ∧ w'.cell? ⟨gb564, 1, none⟩ = some (.int .i64 ((rd_T31 l1 x15_1).f1)) ∧ w'.cell? ⟨gb564, 2, none⟩ = some (.int .i64 ((rd_T31 l1 x15_1).f2)) ∧ w'.cell? ⟨gb564, 3, none⟩ = some (.int .i64 ((rd_T31 l1 x15_1).f3)) ∧ w'.cell? ⟨gb564, 4, none⟩ = some (.int .i64 ((rd_T31 l1 x15_1).f4)) ∧ w'.cell? ⟨go24, (((rd_T31 l1 x15_1).f0)).toNat, none⟩ = some (.slice A566_0 (rd_L7 x5_1 ((rd_T31 l1 x15_1).f0)).length c566_0)) (ds := [18]) #[false, false, false, false, false, false, false, false, false, false, false, false, false, false, false, false, false, false, false] (by kernel_rfl) rfl rfl ⟨(blk_cell BK564.out 0).trans rfl, (blk_cell BK564.out 1).trans rfl, (blk_cell BK564.out 2).trans rfl, (blk_cell BK564.out 3).trans rfl, (blk_cell BK564.out 4).trans rfl, hx566_0⟩ (fun hHeld => ?_); refine with_tabW impl_ByHart.tab8 impl_ByHart.bits8 (fun HT_ HW_ => ?_)
   generalize w21.drew = w22 at HO_5 BK564 HB GG24 HH24 HL566_0 HR566_0 HX566_0 UU24 hx566_0 hHeld ⊢
   refine pure_ (i := 0) (N := some 29) (v := ?_) (a' := ?_) #[true, false, false, false, false, false, false, false, false, false, false, false, false, false, false, false, false, false, false] rfl rfl (any_of HT_.out (by kernel_rfl)) (fun _ _ _ h => h) (Or.inl ⟨by rfl, ?_⟩) ?_ ?_
   rotate_left
   ·intro w'
    go_simp
    with_reducible rfl
   rotate_left
   ·exact zV10
   refine pure_ (i := 1) (N := some 30) (v := ?_) (a' := ?_) #[true, true, false, false, false, false, false, false, false, false, false, false, false, false, false, false, false, false, false] rfl rfl (any_of HT_.out (by kernel_rfl)) (fun _ _ _ h => h) (Or.inl ⟨by rfl, ?_⟩) ?_ ?_
   rotate_left
   ·intro w'
    go_simp
    with_reducible rfl
   rotate_left
   ·exact zV10
   refine pure_ (i := 3) (N := some 32) (v := ?_) (a' := ?_) #[true, true, false, true, false, false, false, false, false, false, false, false, false, false, false, false, false, false, false] rfl rfl (any_of HT_.out (by kernel_rfl)) (fun _ _ _ h => h) (Or.inl ⟨by rfl, ?_⟩) ?_ ?_
   rotate_left
   ·intro w'
    go_simp
    with_reducible rfl
   rotate_left
   ·exact zV10
   refine pure_ (i := 4) (N := some 33) (v := ?_) (a' := ?_) #[true, true, false, true, true, false, false, false, false, false, false, false, false, false, false, false, false, false, false] rfl rfl (any_of HT_.out (by kernel_rfl)) (fun _ _ _ h => h) (Or.inl ⟨by rfl, ?_⟩) ?_ ?_
   rotate_left
   ·intro w'
    go_simp
    with_reducible rfl
   rotate_left
   ·exact zV10
   refine pure_ (i := 8) (N := some 37) (v := ?_) (a' := ?_) #[true, true, false, true, true, false, false, false, true, false, false, false, false, false, false, false, false, false, false] rfl rfl (any_of HT_.out (by kernel_rfl)) (fun _ _ _ h => h) (Or.inl ⟨by rfl, ?_⟩) ?_ ?_
   rotate_left
   ·intro w'
    go_simp
    with_reducible rfl
   rotate_left
   ·exact zV10
   refine pure_ (i := 10) (N := some 39) (v := ?_) (a' := ?_) #[true, true, false, true, true, false, false, false, true, false, true, false, false, false, false, false, false, false, false] rfl rfl (any_of HT_.out (by kernel_rfl)) (fun _ _ _ h => h) (Or.inl ⟨by rfl, ?_⟩) ?_ ?_
   rotate_left
   ·intro w'
    go_simp
    with_reducible rfl
   rotate_left
   ·exact zV10
   refine pure_ (i := 12) (N := some 41) (v := ?_) (a' := ?_) #[true, true, false, true, true, false, false, false, true, false, true, false, true, false, false, false, false, false, false] rfl rfl (any_of HT_.out (by kernel_rfl)) (fun _ _ _ h => h) (Or.inl ⟨by rfl, ?_⟩) ?_ ?_
   rotate_left
   ·intro w'
    go_simp
    with_reducible rfl
   rotate_left
   ·exact zV10
   refine take_ (i := 2) (N := some 31) (v := ?_) (a' := ?_) #[true, true, true, true, true, false, false, false, true, false, true, false, true, false, false, false, false, false, false] rfl rfl (take_ofW HT_.out HW_.out (by kernel_rfl)) (fun _ _ _ h => h) (Or.inl ⟨by rfl, ?_⟩) hHeld ?_ ?_
   rotate_left
   ·rintro w' ⟨s0, s1, s2, s3, s4, s5⟩
    go_simp
    with_reducible rfl
   rotate_left
   ·exact zV10
   refine take_ (i := 5) (N := some 34) (v := ?_) (a' := ?_) #[true, true, true, true, true, true, false, false, true, false, true, false, true, false, false, false, false, false, false] rfl rfl (take_ofW HT_.out HW_.out (by kernel_rfl)) (fun _ _ _ h => h) (Or.inl ⟨by rfl, ?_⟩) hHeld ?_ ?_
   rotate_left
   ·rintro w' ⟨s0, s1, s2, s3, s4, s5⟩
    go_simp
    with_reducible rfl
   rotate_left
   ·exact zV10
   refine pure_ (i := 6) (N := some 35) (v := ?_) (a' := ?_) #[true, true, true, true, true, true, true, false, true, false, true, false, true, false, false, false, false, false, false] rfl rfl (any_of HT_.out (by kernel_rfl)) (fun _ _ _ h => h) (Or.inl ⟨by rfl, ?_⟩) ?_ ?_
   rotate_left
   ·intro w'
    go_simp
    with_reducible rfl
   rotate_left
   ·exact zV10
   refine take_ (i := 7) (N := some 36) (v := ?_) (a' := ?_) #[true, true, true, true, true, true, true, true, true, false, true, false, true, false, false, false, false, false, false] rfl rfl (take_ofW HT_.out HW_.out (by kernel_rfl)) (fun _ _ _ h => h) (Or.inl ⟨by rfl, ?_⟩) hHeld ?_ ?_
   rotate_left
   ·rintro w' ⟨s0, s1, s2, s3, s4, s5⟩
    go_simp
    with_reducible rfl
   rotate_left
   ·exact zV10
   refine take_ (i := 9) (N := some 38) (v := ?_) (a' := ?_) #[true, true, true, true, true, true, true, true, true, true, true, false, true, false, false, false, false, false, false] rfl rfl (take_ofW HT_.out HW_.out (by kernel_rfl)) (fun _ _ _ h => h) (Or.inl ⟨by rfl, ?_⟩) hHeld ?_ ?_
   rotate_left
   ·rintro w' ⟨s0, s1, s2, s3, s4, s5⟩
    go_simp
    with_reducible rfl
   rotate_left
   ·exact zV10
   refine take_ (i := 11) (N := some 40) (v := ?_) (a' := ?_) #[true, true, true, true, true, true, true, true, true, true, true, true, true, false, false, false, false, false, false] rfl rfl (take_ofW HT_.out HW_.out (by kernel_rfl)) (fun _ _ _ h => h) (Or.inl ⟨by rfl, ?_⟩) hHeld ?_ ?_
   rotate_left
   ·rintro w' ⟨s0, s1, s2, s3, s4, s5⟩
    go_simp
    with_reducible rfl
   rotate_left
   ·exact zV10
   refine take_ (i := 13) (N := some 42) (v := ?_) (a' := ?_) #[true, true, true, true, true, true, true, true, true, true, true, true, true, true, false, false, false, false, false] rfl rfl (take_ofW HT_.out HW_.out (by kernel_rfl)) (fun _ _ _ h => h) (Or.inl ⟨by rfl, ?_⟩) hHeld ?_ ?_
   rotate_left
   ·rintro w' ⟨s0, s1, s2, s3, s4, s5⟩
    go_simp
    with_reducible rfl
   rotate_left
   ·exact zV10
   refine pure_ (i := 14) (N := some 43) (v := ?_) (a' := ?_) #[true, true, true, true, true, true, true, true, true, true, true, true, true, true, true, false, false, false, false] rfl rfl (any_of HT_.out (by kernel_rfl)) (fun _ _ _ h => h) (Or.inl ⟨by rfl, ?_⟩) ?_ ?_
   rotate_left
   ·intro w'
    go_simp
    with_reducible rfl
   rotate_left
   ·exact zV10
   refine one_ (i := 15) (N := some 44) #[true, true, true, true, true, true, true, true, true, true, true, true, true, true, true, true, false, false, false] rfl rfl (one_of HT_.out (by kernel_rfl)) (by decide) (fun K hK => ?_)
   refine value_ (w1 := ?_) (v := ?_) (by rfl) rfl ?_ ?_
   rotate_left 2
   ·go_simp
    constructor
    ·rfl
    ·rfl
   refine hK.out _ _ ⟨(blk_cell (blk_alloc BK564.out _) 0).trans rfl, (blk_cell (blk_alloc BK564.out _) 1).trans rfl, (blk_cell (blk_alloc BK564.out _) 2).trans rfl, (blk_cell (blk_alloc BK564.out _) 3).trans rfl, (blk_cell (blk_alloc BK564.out _) 4).trans rfl, (World.cell?_alloc_lt _ _ _ (World.block_lt_of_cell? _ _ (hHeld.2.2.2.2.2))).trans (hHeld.2.2.2.2.2)⟩ (fun hHeld => ?_)
   clear hK K
   refine norm_ (a' := ?_) ?_ ?_
   rotate_left
   ·show Act.put _ (some 44) _ = _
    simp only [Act.put, List.setIfInBounds_toArray, List.set_cons_zero, List.set_cons_succ, i64_w, i32_w]
    rfl
   refine one_ (i := 16) (N := some 45) #[true, true, true, true, true, true, true, true, true, true, true, true, true, true, true, true, true, false, false] rfl rfl (one_of HT_.out (by kernel_rfl)) (by decide) (fun K hK => ?_)
   refine Kd.R_append_step k34 (w0 := w) w.heap.size (by rfl) (.tmp 36) (.tmp 44) 32 34 (.agg #[(.int .i64 0), (.int .i64 0), (.int .i64 0)]) 24 rfl Try.underlying32 info34 rfl (by decide) (by omega) (.slice A566_0 (rd_L7 x5_1 ((rd_T31 l1 x15_1).f0)).length c566_0) (rd_L7 x5_1 ((rd_T31 l1 x15_1).f0)) (⟨(rd_T31 l1 x15_1).f2, (rd_T31 l1 x15_1).f3, (rd_T31 l1 x15_1).f4⟩ : S34) [.int .i64 ((rd_T31 l1 x15_1).f2), .int .i64 ((rd_T31 l1 x15_1).f3), .int .i64 ((rd_T31 l1 x15_1).f4)] (fun k_ => oki24 k_ ∨ ((fun _ => True)) k_ ∧ w22.heap.size ≤ k_) (fun _ => False) rfl rfl ?aP (fun _ hk => hk.elim) ?aF ?aO ?aB ?aS ?aL ?_
   (case aP => exact k34_mkM _ _ _ (⟨(rd_T31 l1 x15_1).f2, (rd_T31 l1 x15_1).f3, (rd_T31 l1 x15_1).f4⟩ : S34))
   (case aB => exact (zB10_1))
   (case aF => exact (fun k_ hk => .inr ⟨trivial, hk⟩))
   (case aO => exact (by (with_reducible repeat (first | apply Kd.R_alloc | apply Kd.R_drewN | apply Kd.R_drew)); exact Kd.R_mono UU24.out (fun _ hk => .inl hk)))
   (case aS => exact (below_size (zB10_1)))
   (case aL => have := LMc17.out; omega)
   intro v568 w25 ho hb hg hat
   (first | have HS5_ := cell_grown hg (hHeld.2.2.2.2.2) (by first | (rw [add_block]; exact (fun e_ => ((HL566_0.out.1 _ e_.symm).2) rfl)) | (show some (Addr.add _ _).block ≠ _; rw [add_block]; exact (fun e_ => ((HL566_0.out.1 _ e_.symm).2) rfl)) | exact (fun e_ => ((HL566_0.out.1 _ e_.symm).2) rfl)) | have HS5_ := cell_grown hg (cell_unalloc (hHeld.2.2.2.2.2) (by first | (rw [add_block]; exact Kd.S_lt HO_5.out _ rfl) | (show (Addr.add _ _).block < _; rw [add_block]; exact Kd.S_lt HO_5.out _ rfl) | exact Kd.S_lt HO_5.out _ rfl)) (by first | (rw [add_block]; exact (fun e_ => ((HL566_0.out.1 _ e_.symm).2) rfl)) | (show some (Addr.add _ _).block ≠ _; rw [add_block]; exact (fun e_ => ((HL566_0.out.1 _ e_.symm).2) rfl)) | exact (fun e_ => ((HL566_0.out.1 _ e_.symm).2) rfl)))
   rw [← Ny567.out] at ho
   have n0_ := Aside0.mk (zg10 BK564.out hg (Kd.R_ne HL566_0.out BK564.out (by decide)))
   have n1_ := Aside0.mk (hb)
   have n2_ := Aside0.mk (Kd.H_grown (Kd.H_widen (by repeat (first | exact HH24.out | refine Kd.H_alloc ?_ _ | refine Kd.H_drewN ?_ _ | refine Kd.H_drew ?_))) hg (fun k_ e_ => .inl (UU24.out.1 k_ e_)))
   have n3_ := Aside0.mk (ho)
   clear BK564 HB HH24 HO_5 UU24 HL566_0
   have BK564 := n0_
   have HB := n1_
   have HH24 := n2_
   have HO569 := n3_
   clear n0_ n1_ n2_ n3_ ho hb hg hat
   have p18 : 0 ≤ (((rd_T31 l1 x15_1).f0) : Int) := zA10
   have q18 : (((rd_T31 l1 x15_1).f0) : Int) < ((x5_1.length : Int) : Int) := zA10
   replace p18 := eq_true p18
   replace q18 := eq_true q18
   obtain ⟨Ao28, co28, eo28⟩ := Kd.R_slice HO569.out
   (first | subst eo28 | (injection eo28 with f1_ f2_ f3_; have f4_ := f1_.symm; have f5_ := f3_.symm; clear f1_ f2_ f3_; subst f4_; subst f5_))
   obtain ⟨_, _, hraw26, _, _, hcc26, _⟩ := Kd.H_raw HH24.out (zA10) (by have h_ : (((rd_T31 l1 x15_1).f0) : Int) < ((x5_1.length : Int) : Int) := zA10; first | exact h_ | (have e_ := (HN24.out); omega) | simpa using h_)
   obtain ⟨_, hfr26⟩ := Kd.H_at HH24.out (zA10) (by have h_ : (((rd_T31 l1 x15_1).f0) : Int) < ((x5_1.length : Int) : Int) := zA10; first | exact h_ | (have e_ := (HN24.out); omega) | simpa using h_)
   have hx26_0 := hcc26 0 _ rfl
   have hf26_0 := hfr26 0
   (try simp only [Nat.add_zero] at hx26_0 hf26_0)
   (try rw [show ((Kd.slice 34 k34)).sz = 1 from rfl, Nat.mul_one] at hx26_0)
   (try rw [show ((Kd.slice 34 k34)).sz = 1 from rfl, Nat.mul_one] at hf26_0)
   have HP26 := Kd.S_seg0 HH24.out (zA10) (by have h_ : (((rd_T31 l1 x15_1).f0) : Int) < ((x5_1.length : Int) : Int) := zA10; first | exact h_ | (have e_ := (HN24.out); omega) | simpa using h_) (seg := [.slice Ao28 y567.length co28]) (j := 0) (show 1 ≤ 1 from by decide) (x' := y567) (Kd.M_row HO569.out) (fun _ hk => hk)
   (try simp only [show ((Kd.slice 34 k34)).sz = 1 from rfl, Nat.mul_one, Nat.add_zero] at HP26)
   clear hcc26 hfr26
   have HNB564_go24 := Aside0.mk (show gb564 ≠ go24 from by have h_ := Kd.R_ne hraw26 BK564.out (by decide); intro e_; exact h_ (by rw [e_]; rfl))
   have HS26 := HP26.1
   rw [← Ny570.out] at HS26
   have HQ26 := Aside0.mk HS26
   obtain ⟨_, hgg26⟩ := Kd.R_typed hraw26 go24 rfl
   have GG26_ := Aside0.mk hgg26
   clear HP26 HS26 hgg26
   refine hK.out _ _ ⟨(blk_cell BK564.out 0).trans rfl, (blk_cell BK564.out 1).trans rfl, (blk_cell BK564.out 2).trans rfl, (blk_cell BK564.out 3).trans rfl, (blk_cell BK564.out 4).trans rfl, HS5_⟩ (fun hHeld => ?_)
   clear hK K
   refine norm_ (a' := ?_) ?_ ?_
   rotate_left
   ·show Act.put _ (some 45) _ = _
    simp only [Act.put, List.setIfInBounds_toArray, List.set_cons_zero, List.set_cons_succ, i64_w, i32_w]
    rfl
   refine pure_ (i := 17) (N := some 46) (v := ?_) (a' := ?_) #[true, true, true, true, true, true, true, true, true, true, true, true, true, true, true, true, true, true, false] rfl rfl (any_of HT_.out (by kernel_rfl)) (fun _ _ _ h => h) (Or.inl ⟨by rfl, ?_⟩) ?_ ?_
   rotate_left
   ·intro w'
    go_simp
    with_reducible rfl
   rotate_left
   ·exact zV10
   refine last_ (i := 18) (N := none) #[true, true, true, true, true, true, true, true, true, true, true, true, true, true, true, true, true, true, true] rfl rfl (one_of HT_.out (by kernel_rfl)) (by decide) (fun K hK => ?_)
   refine skip_ (w1 := ?_) (by rfl) rfl ?_ ?_
   rotate_left
   ·go_simp
    rfl
   refine hK.out _ _ ?_
   clear hK K
   refine done_ (done_of HT_.out (by kernel_rfl)) ?_
   try go_wp2
   go_roundg k1
   case measure => have := HK1.out; omega
   case rel => exact ⟨(y570), (wrap64 (x15_1 + 1)), (by first | rfl | (simp; done) | (simp [*]; done)), H', ⟨by have := HK1.out; omega⟩, ⟨zS10 HQ26.out⟩, ⟨zB10_2⟩⟩

end Go.Proofs.Ytgbjengnkbomoaa.PFnByHart
