-- made by wip/tools/myprint.py out of the seat's translation
import Derived.Test.YtnjdepmlpdjghaaPFnExactEverx0
import Derived.Test.YtnjdepmlpdjghaaPFnExactEverx9
namespace Go.Proofs.Ytnjdepmlpdjghaa.PFnExactEver
open Go.RowKit Go.Proofs.YtnjdepmlpdjghaaW.PrintWords Go.Proofs.YtnjdepmlpdjghaaW.PrintLast Go.Proofs.YtnjdepmlpdjghaaW.PrintMore
attribute [local go_sem] max2_int min2_int max_two min_two max_three min_three max_four min_four   -- for this text's walks alone
set_option linter.unusedVariables false
set_option linter.unusedSimpArgs false
set_option maxHeartbeats 8000000
set_option maxRecDepth 100000
abbrev zq10_0 : Array Bool := #[false, false, false, false, false, false, false, false, false, false]
abbrev zq10_1 : Array Bool := #[true, false, false, false, false, false, false, false, false, false]
abbrev zq10_2 : Array Bool := #[true, true, false, false, false, false, false, false, false, false]
abbrev zq10_3 : Array Bool := #[true, true, true, false, false, false, false, false, false, false]
abbrev zq10_4 : Array Bool := #[true, true, true, false, true, false, false, false, false, false]
abbrev zq10_5 : Array Bool := #[true, true, true, false, true, true, false, false, false, false]
abbrev zq10_6 : Array Bool := #[true, true, true, false, true, true, true, false, false, false]
abbrev zq10_7 : Array Bool := #[true, true, true, true, true, true, true, false, false, false]
abbrev zq10_8 : Array Bool := #[true, true, true, true, true, true, true, true, false, false]
abbrev zq10_9 : Array Bool := #[true, true, true, true, true, true, true, true, true, false]
abbrev zq10_10 : Array Bool := #[true, true, true, true, true, true, true, true, true, true]

/-! ### laws_eqHartS: function 27 -/
def laws_eqHartS.l0 : Nat → List (S29) → List (S29) → Int → Option (Bool)
 | 0, _, _, _ => none
 | k + 1, x0, x1, x5 => if x5 < (x0.length : Int) then (if 0 ≤ x5 then (if x5 < (x1.length : Int) then ((laws_eqHart.f k ((rd_T29 x0 x5).f0) ((rd_T29 x0 x5).f1) ((rd_T29 x0 x5).f2) ((rd_T29 x1 x5).f0) ((rd_T29 x1 x5).f1) ((rd_T29 x1 x5).f2)).bind fun t285 => (if t285 = true then (laws_eqHartS.l0 k x0 x1 (wrap64 (x5 + 1))) else (some false))) else (none)) else (none)) else (some true)
def laws_eqHartS.f (k : Nat) (l0 : List (S29)) (l1 : List (S29)) : Option (Bool) := if (l0.length : Int) = (l1.length : Int) then (laws_eqHartS.l0 k l0 l1 0) else (some false)
theorem laws_eqHartS.mono_l : ∀ k, (∀ y0 y1 y2, LeO (laws_eqHartS.l0 k y0 y1 y2) (laws_eqHartS.l0 (k + 1) y0 y1 y2))
 | 0 => fun _ _ _ r h => by simp [laws_eqHartS.l0] at h
 | k + 1 => by
  have ih0 := laws_eqHartS.mono_l k
  ·intros
   unfold laws_eqHartS.l0
   have mo0 := @laws_eqHart.mono
   exact zL
theorem laws_eqHartS.mono : ∀ a0 a1 k, LeO (laws_eqHartS.f k a0 a1) (laws_eqHartS.f (k + 1) a0 a1) := by
 intro a0 a1 k
 have ih0 := laws_eqHartS.mono_l k
 unfold laws_eqHartS.f
 have mo0 := @laws_eqHart.mono
 exact zL
def laws_eqHartS.T6 : Bool × List (List Nat × List Nat) := (true, [([], []), ([], []), ([0, 1], [0, 1]), ([2], [2]), ([], []), ([], []), ([4, 5], [4, 5]), ([6], [6]), ([3, 7], [3, 7]), ([8], [8])])
def laws_eqHartS.B6 : List Nat := [0, 0, 3, 7, 0, 0, 48, 112, 255, 511]
theorem laws_eqHartS.tab6 : rtab .any (opsOf Try.f27 6) = laws_eqHartS.T6 := by kernel_rfl
theorem laws_eqHartS.bits6 : waitsOk laws_eqHartS.T6.2 laws_eqHartS.B6 = true := by kernel_rfl
theorem laws_eqHartS.calls (k : Nat) (A0 : Option Addr) (c0 : Nat) (l0 : List (S29)) (A1 : Option Addr) (c1 : Nat) (l1 : List (S29)) (r : Bool) (w : World) (hr0 : Kd.C k29 w A0 l0.length l0) (hc0 : l0.length ≤ c0) (hr1 : Kd.C k29 w A1 l1.length l1) (hc1 : l1.length ≤ c1) (h : laws_eqHartS.f k l0 l1 = some r) :
  Calls Try.prog 27 #[.slice A0 l0.length c0, .slice A1 l1.length c1] w fun e w' => e = .returned (.bool r) ∧ Below w.heap.size w w' := by
 have hu29 := Try.underlying29
 have HR0 := zM hr0
 have HC0 := zM hc0
 clear hr0 hc0
 have HR1 := zM hr1
 have HC1 := zM hc1
 clear hr1 hc1
 have HB := zM (Below.refl w.heap.size w)
 unfold laws_eqHartS.f at h
 have H := h
 clear h
 by_cases c3 : (l0.length : Int) = (l1.length : Int)
 rotate_left
 ·rw [if_neg c3] at H
  have c3b0 : ((l0.length : Int) == (l1.length : Int)) = false := beq_eq_false_iff_ne.mpr c3
  have c3b1 : ((l0.length : Int) != (l1.length : Int)) = true := bne_iff_ne.mpr c3
  have c3b2 : (l0.length == l1.length) = false := by first | simpa using c3 | (simp at c3 ⊢; omega)
  obtain rfl := Option.some.inj H
  go_enter Try.func27, Try.ntmps27
  go_wp2
  go_ret
  exact ⟨zE, zB0⟩
 rw [if_pos c3] at H
 have c3b0 : ((l0.length : Int) == (l1.length : Int)) = true := beq_iff_eq.mpr c3
 have c3b1 : ((l0.length : Int) != (l1.length : Int)) = false := bne_eq_false_iff_eq.mpr c3
 have c3b2 : (l0.length == l1.length) = true := by first | simpa using c3 | (simp at c3 ⊢; omega)
 clear c3
 have H' := zM H
 clear H
 go_enter Try.func27, Try.ntmps27
 go_wp2
 go_loopg [5] k (fun kq v5 w' => ∃ (x5_1 : Int), v5 = .int .i64 x5_1 ∧ Aside0 (laws_eqHartS.l0 kq l0 l1 x5_1 = some r) ∧ Aside0 (kq ≤ k) ∧ Aside0 (Below w.heap.size w w'))
 case atStart => exact ⟨(0), zJJ, H', ⟨Nat.le_refl _⟩, ⟨zB0⟩⟩
 case round =>
  clear H'
  try clear c1
  try clear c2
  try clear p2
  try clear c3
  try clear c3b0
  try clear c3b1
  try clear c3b2
  obtain ⟨x5_1, rfl, HA, HK1, HB⟩ := hrel
  cases gk with
  | zero => exact absurd HA.1 (by simp [laws_eqHartS.l0])
  | succ k1 =>
   have H := HA.1
   clear HA
   simp only [laws_eqHartS.l0] at H
   by_cases c4 : x5_1 < (l0.length : Int)
   rotate_left
   ·rw [if_neg c4] at H
    have c4b0 := decide_eq_false c4
    clear c4
    obtain rfl := Option.some.inj H
    go_wp2
    go_ret
    exact ⟨zE, zB0⟩
   rw [if_pos c4] at H
   have c4b0 := decide_eq_true c4
   clear c4
   by_cases c5 : 0 ≤ x5_1
   rotate_left
   ·rw [if_neg c5] at H
    exact absurd H (by simp)
   rw [if_pos c5] at H
   have c5b0 := decide_eq_true c5
   clear c5
   by_cases c6 : x5_1 < (l1.length : Int)
   rotate_left
   ·rw [if_neg c6] at H
    exact absurd H (by simp)
   rw [if_pos c6] at H
   have c6b0 := decide_eq_true c6
   clear c6
   replace H := zO H
   obtain ⟨t285, A7, H⟩ := H
   by_cases c8 : t285 = true
   rotate_left
   ·replace c8 := Bool.eq_false_iff.mpr c8
    subst c8
    rw [if_neg zF] at H
    obtain rfl := Option.some.inj H
    try go_wp2
    replace HB := zM (below_drew1 HB.1)
    have p283 : 0 ≤ (x5_1 : Int) := zA
    have q283 : x5_1 < (l0.length : Int) := zA
    obtain ⟨ad283, A283_0, c283_0, e283, hx283_0, hx283_1, hx283_2, hl283_0, hi283_0⟩ := at_T29 HR0.1 x5_1 p283 q283
    have hw283_2 := hx283_2
    have hw283_1 := hx283_1
    have hw283_0 := hx283_0
    cases e283
    replace hx283_0 := (HB.1.cell (World.block_lt_of_cell? w _ hx283_0)).trans hx283_0
    replace hx283_1 := (HB.1.cell (World.block_lt_of_cell? w _ hx283_1)).trans hx283_1
    replace hx283_2 := (HB.1.cell (World.block_lt_of_cell? w _ hx283_2)).trans hx283_2
    have HR283_0 := zM hi283_0
    have HC283_0 := zM hl283_0
    clear hi283_0 hl283_0
    replace p283 := eq_true p283
    replace q283 := eq_true q283
    have p284 : 0 ≤ (x5_1 : Int) := zA
    have q284 : x5_1 < (l1.length : Int) := zA
    obtain ⟨ad284, A284_0, c284_0, e284, hx284_0, hx284_1, hx284_2, hl284_0, hi284_0⟩ := at_T29 HR1.1 x5_1 p284 q284
    have hw284_2 := hx284_2
    have hw284_1 := hx284_1
    have hw284_0 := hx284_0
    cases e284
    replace hx284_0 := (HB.1.cell (World.block_lt_of_cell? w _ hx284_0)).trans hx284_0
    replace hx284_1 := (HB.1.cell (World.block_lt_of_cell? w _ hx284_1)).trans hx284_1
    replace hx284_2 := (HB.1.cell (World.block_lt_of_cell? w _ hx284_2)).trans hx284_2
    have HR284_0 := zM hi284_0
    have HC284_0 := zM hl284_0
    clear hi284_0 hl284_0
    replace p284 := eq_true p284
    replace q284 := eq_true q284
    refine start_ (n := 10) (S := fun w' => w'.cell? (ad283.add ((x5_1).toNat * 3)) = some (.slice A283_0 ((rd_T29 l0 x5_1).f0).length c283_0) ∧ w'.cell? ⟨(ad283.add ((x5_1).toNat * 3)).block, (ad283.add ((x5_1).toNat * 3)).off + 1, none⟩ = some (.int .i64 ((rd_T29 l0 x5_1).f1)) ∧ w'.cell? ⟨(ad283.add ((x5_1).toNat * 3)).block, (ad283.add ((x5_1).toNat * 3)).off + 2, none⟩ = some (.int .i64 ((rd_T29 l0 x5_1).f2)) ∧ w'.cell? (ad284.add ((x5_1).toNat * 3)) = some (.slice A284_0 ((rd_T29 l1 x5_1).f0).length c284_0) ∧ w'.cell? ⟨(ad284.add ((x5_1).toNat * 3)).block, (ad284.add ((x5_1).toNat * 3)).off + 1, none⟩ = some (.int .i64 ((rd_T29 l1 x5_1).f1)) ∧ w'.cell? ⟨(ad284.add ((x5_1).toNat * 3)).block, (ad284.add ((x5_1).toNat * 3)).off + 2, none⟩ = some (.int .i64 ((rd_T29 l1 x5_1).f2))) (ds := []) zq10_0 (by kernel_rfl) rfl rfl ⟨((HB.1.cell (World.block_lt_of_cell? w _ hw283_0)).trans hw283_0), ((HB.1.cell (World.block_lt_of_cell? w _ hw283_1)).trans hw283_1), ((HB.1.cell (World.block_lt_of_cell? w _ hw283_2)).trans hw283_2), ((HB.1.cell (World.block_lt_of_cell? w _ hw284_0)).trans hw284_0), ((HB.1.cell (World.block_lt_of_cell? w _ hw284_1)).trans hw284_1), ((HB.1.cell (World.block_lt_of_cell? w _ hw284_2)).trans hw284_2)⟩ (fun hHeld => ?_); refine with_tabW laws_eqHartS.tab6 laws_eqHartS.bits6 (fun HT_ HW_ => ?_)
    generalize wr.drew = w11 at HB HR283_0 HR284_0 hx283_0 hx283_1 hx283_2 hx284_0 hx284_1 hx284_2 hHeld ⊢
    refine pure_ (i := 0) (N := some 17) (v := ?_) (a' := ?_) zq10_1 rfl rfl (any_of HT_.1 (by kernel_rfl)) (fun _ _ _ h => h) (Or.inl ⟨by rfl, ?_⟩) ?_ ?_
    rotate_left
    ·intro w'
     go_simp
     with_reducible rfl
    rotate_left
    ·exact zV
    refine pure_ (i := 1) (N := some 18) (v := ?_) (a' := ?_) zq10_2 rfl rfl (any_of HT_.1 (by kernel_rfl)) (fun _ _ _ h => h) (Or.inl ⟨by rfl, ?_⟩) ?_ ?_
    rotate_left
    ·intro w'
     go_simp
     with_reducible rfl
    rotate_left
    ·exact zV
    refine pure_ (i := 2) (N := some 19) (v := ?_) (a' := ?_) zq10_3 rfl rfl (any_of HT_.1 (by kernel_rfl)) (fun _ _ _ h => h) (Or.inl ⟨by rfl, ?_⟩) ?_ ?_
    rotate_left
    ·intro w'
     go_simp
     with_reducible rfl
    rotate_left
    ·exact zV
    refine pure_ (i := 4) (N := some 21) (v := ?_) (a' := ?_) zq10_4 rfl rfl (any_of HT_.1 (by kernel_rfl)) (fun _ _ _ h => h) (Or.inl ⟨by rfl, ?_⟩) ?_ ?_
    rotate_left
    ·intro w'
     go_simp
     with_reducible rfl
    rotate_left
    ·exact zV
    refine pure_ (i := 5) (N := some 22) (v := ?_) (a' := ?_) zq10_5 rfl rfl (any_of HT_.1 (by kernel_rfl)) (fun _ _ _ h => h) (Or.inl ⟨by rfl, ?_⟩) ?_ ?_
    rotate_left
    ·intro w'
     go_simp
     with_reducible rfl
    rotate_left
    ·exact zV
    refine pure_ (i := 6) (N := some 23) (v := ?_) (a' := ?_) zq10_6 rfl rfl (any_of HT_.1 (by kernel_rfl)) (fun _ _ _ h => h) (Or.inl ⟨by rfl, ?_⟩) ?_ ?_
    rotate_left
    ·intro w'
     go_simp
     with_reducible rfl
    rotate_left
    ·exact zV
    refine take_ (i := 3) (N := some 20) (v := ?_) (a' := ?_) zq10_7 rfl rfl (take_ofW HT_.1 HW_.1 (by kernel_rfl)) (fun _ _ _ h => h) (Or.inl ⟨by rfl, ?_⟩) hHeld ?_ ?_
    rotate_left
    ·rintro w' ⟨s0, s1, s2, s3, s4, s5⟩
     go_simp
     with_reducible rfl
    rotate_left
    ·exact zV
    refine take_ (i := 7) (N := some 24) (v := ?_) (a' := ?_) zq10_8 rfl rfl (take_ofW HT_.1 HW_.1 (by kernel_rfl)) (fun _ _ _ h => h) (Or.inl ⟨by rfl, ?_⟩) hHeld ?_ ?_
    rotate_left
    ·rintro w' ⟨s0, s1, s2, s3, s4, s5⟩
     go_simp
     with_reducible rfl
    rotate_left
    ·exact zV
    refine one_ (i := 8) (N := some 25) zq10_9 rfl rfl (one_of HT_.1 (by kernel_rfl)) (by decide) (fun K hK => ?_)
    refine goes_ Try.func60 (by kernel_rfl) rfl #[.agg #[.slice A283_0 ((rd_T29 l0 x5_1).f0).length c283_0, .int .i64 ((rd_T29 l0 x5_1).f1), .int .i64 ((rd_T29 l0 x5_1).f2)], .agg #[.slice A284_0 ((rd_T29 l1 x5_1).f0).length c284_0, .int .i64 ((rd_T29 l1 x5_1).f1), .int .i64 ((rd_T29 l1 x5_1).f2)]] (by rfl) rfl rfl zT ?_
    with_reducible refine (laws_eqHart.calls k1 _ _ ((rd_T29 l0 x5_1).f0) ((rd_T29 l0 x5_1).f1) ((rd_T29 l0 x5_1).f2) _ _ ((rd_T29 l1 x5_1).f0) ((rd_T29 l1 x5_1).f1) ((rd_T29 l1 x5_1).f2) false _ ?side1 ?side2 ?side3 ?side4 A7.1).mono ?_
    (case side1 => exact zC (Kd.C_below HR283_0.1 HB.1))
    (case side2 => exact HC283_0.1)
    (case side3 => exact zC (Kd.C_below HR284_0.1 HB.1))
    (case side4 => exact HC284_0.1)
    rintro e w12 ⟨rfl, hb⟩
    refine ⟨_, rfl, ?_⟩
    replace HB := zM (below_step zB0 hb)
    (try clear hb)
    (try clear hb2)
    (try clear hk)
    (try clear hi)
    refine hK.out _ _ ⟨((HB.1.cell (World.block_lt_of_cell? w _ hw283_0)).trans hw283_0), ((HB.1.cell (World.block_lt_of_cell? w _ hw283_1)).trans hw283_1), ((HB.1.cell (World.block_lt_of_cell? w _ hw283_2)).trans hw283_2), ((HB.1.cell (World.block_lt_of_cell? w _ hw284_0)).trans hw284_0), ((HB.1.cell (World.block_lt_of_cell? w _ hw284_1)).trans hw284_1), ((HB.1.cell (World.block_lt_of_cell? w _ hw284_2)).trans hw284_2)⟩ (fun hHeld => ?_)
    clear hK K
    refine norm_ (a' := ?_) ?_ ?_
    rotate_left
    ·show Act.put _ (some 25) _ = _
     simp only [Act.put, List.setIfInBounds_toArray, List.set_cons_zero, List.set_cons_succ, i64_w, i32_w]
     rfl
    refine pure_ (i := 9) (N := some 26) (v := ?_) (a' := ?_) zq10_10 rfl rfl (any_of HT_.1 (by kernel_rfl)) (fun _ _ _ h => h) (Or.inl ⟨by rfl, ?_⟩) ?_ ?_
    rotate_left
    ·intro w'
     go_simp
     with_reducible rfl
    rotate_left
    ·exact zV
    refine done_ (done_of HT_.1 (by kernel_rfl)) ?_
    try go_wp2
    go_ret
    exact ⟨zE, zB0⟩
   subst c8
   rw [if_pos rfl] at H
   have H' := zM H
   clear H
   try go_wp2
   replace HB := zM (below_drew1 HB.1)
   have p283 : 0 ≤ (x5_1 : Int) := zA
   have q283 : x5_1 < (l0.length : Int) := zA
   obtain ⟨ad283, A283_0, c283_0, e283, hx283_0, hx283_1, hx283_2, hl283_0, hi283_0⟩ := at_T29 HR0.1 x5_1 p283 q283
   have hw283_2 := hx283_2
   have hw283_1 := hx283_1
   have hw283_0 := hx283_0
   cases e283
   replace hx283_0 := (HB.1.cell (World.block_lt_of_cell? w _ hx283_0)).trans hx283_0
   replace hx283_1 := (HB.1.cell (World.block_lt_of_cell? w _ hx283_1)).trans hx283_1
   replace hx283_2 := (HB.1.cell (World.block_lt_of_cell? w _ hx283_2)).trans hx283_2
   have HR283_0 := zM hi283_0
   have HC283_0 := zM hl283_0
   clear hi283_0 hl283_0
   replace p283 := eq_true p283
   replace q283 := eq_true q283
   have p284 : 0 ≤ (x5_1 : Int) := zA
   have q284 : x5_1 < (l1.length : Int) := zA
   obtain ⟨ad284, A284_0, c284_0, e284, hx284_0, hx284_1, hx284_2, hl284_0, hi284_0⟩ := at_T29 HR1.1 x5_1 p284 q284
   have hw284_2 := hx284_2
   have hw284_1 := hx284_1
   have hw284_0 := hx284_0
   cases e284
   replace hx284_0 := (HB.1.cell (World.block_lt_of_cell? w _ hx284_0)).trans hx284_0
   replace hx284_1 := (HB.1.cell (World.block_lt_of_cell? w _ hx284_1)).trans hx284_1
   replace hx284_2 := (HB.1.cell (World.block_lt_of_cell? w _ hx284_2)).trans hx284_2
   have HR284_0 := zM hi284_0
   have HC284_0 := zM hl284_0
   clear hi284_0 hl284_0
   replace p284 := eq_true p284
   replace q284 := eq_true q284
   refine start_ (n := 10) (S := fun w' => w'.cell? (ad283.add ((x5_1).toNat * 3)) = some (.slice A283_0 ((rd_T29 l0 x5_1).f0).length c283_0) ∧ w'.cell? ⟨(ad283.add ((x5_1).toNat * 3)).block, (ad283.add ((x5_1).toNat * 3)).off + 1, none⟩ = some (.int .i64 ((rd_T29 l0 x5_1).f1)) ∧ w'.cell? ⟨(ad283.add ((x5_1).toNat * 3)).block, (ad283.add ((x5_1).toNat * 3)).off + 2, none⟩ = some (.int .i64 ((rd_T29 l0 x5_1).f2)) ∧ w'.cell? (ad284.add ((x5_1).toNat * 3)) = some (.slice A284_0 ((rd_T29 l1 x5_1).f0).length c284_0) ∧ w'.cell? ⟨(ad284.add ((x5_1).toNat * 3)).block, (ad284.add ((x5_1).toNat * 3)).off + 1, none⟩ = some (.int .i64 ((rd_T29 l1 x5_1).f1)) ∧ w'.cell? ⟨(ad284.add ((x5_1).toNat * 3)).block, (ad284.add ((x5_1).toNat * 3)).off + 2, none⟩ = some (.int .i64 ((rd_T29 l1 x5_1).f2))) (ds := []) zq10_0 (by kernel_rfl) rfl rfl ⟨((HB.1.cell (World.block_lt_of_cell? w _ hw283_0)).trans hw283_0), ((HB.1.cell (World.block_lt_of_cell? w _ hw283_1)).trans hw283_1), ((HB.1.cell (World.block_lt_of_cell? w _ hw283_2)).trans hw283_2), ((HB.1.cell (World.block_lt_of_cell? w _ hw284_0)).trans hw284_0), ((HB.1.cell (World.block_lt_of_cell? w _ hw284_1)).trans hw284_1), ((HB.1.cell (World.block_lt_of_cell? w _ hw284_2)).trans hw284_2)⟩ (fun hHeld => ?_); refine with_tabW laws_eqHartS.tab6 laws_eqHartS.bits6 (fun HT_ HW_ => ?_)
   generalize wr.drew = w9 at HB HR283_0 HR284_0 hx283_0 hx283_1 hx283_2 hx284_0 hx284_1 hx284_2 hHeld ⊢
   refine pure_ (i := 0) (N := some 17) (v := ?_) (a' := ?_) zq10_1 rfl rfl (any_of HT_.1 (by kernel_rfl)) (fun _ _ _ h => h) (Or.inl ⟨by rfl, ?_⟩) ?_ ?_
   rotate_left
   ·intro w'
    go_simp
    with_reducible rfl
   rotate_left
   ·exact zV
   refine pure_ (i := 1) (N := some 18) (v := ?_) (a' := ?_) zq10_2 rfl rfl (any_of HT_.1 (by kernel_rfl)) (fun _ _ _ h => h) (Or.inl ⟨by rfl, ?_⟩) ?_ ?_
   rotate_left
   ·intro w'
    go_simp
    with_reducible rfl
   rotate_left
   ·exact zV
   refine pure_ (i := 2) (N := some 19) (v := ?_) (a' := ?_) zq10_3 rfl rfl (any_of HT_.1 (by kernel_rfl)) (fun _ _ _ h => h) (Or.inl ⟨by rfl, ?_⟩) ?_ ?_
   rotate_left
   ·intro w'
    go_simp
    with_reducible rfl
   rotate_left
   ·exact zV
   refine pure_ (i := 4) (N := some 21) (v := ?_) (a' := ?_) zq10_4 rfl rfl (any_of HT_.1 (by kernel_rfl)) (fun _ _ _ h => h) (Or.inl ⟨by rfl, ?_⟩) ?_ ?_
   rotate_left
   ·intro w'
    go_simp
    with_reducible rfl
   rotate_left
   ·exact zV
   refine pure_ (i := 5) (N := some 22) (v := ?_) (a' := ?_) zq10_5 rfl rfl (any_of HT_.1 (by kernel_rfl)) (fun _ _ _ h => h) (Or.inl ⟨by rfl, ?_⟩) ?_ ?_
   rotate_left
   ·intro w'
    go_simp
    with_reducible rfl
   rotate_left
   ·exact zV
   refine pure_ (i := 6) (N := some 23) (v := ?_) (a' := ?_) zq10_6 rfl rfl (any_of HT_.1 (by kernel_rfl)) (fun _ _ _ h => h) (Or.inl ⟨by rfl, ?_⟩) ?_ ?_
   rotate_left
   ·intro w'
    go_simp
    with_reducible rfl
   rotate_left
   ·exact zV
   refine take_ (i := 3) (N := some 20) (v := ?_) (a' := ?_) zq10_7 rfl rfl (take_ofW HT_.1 HW_.1 (by kernel_rfl)) (fun _ _ _ h => h) (Or.inl ⟨by rfl, ?_⟩) hHeld ?_ ?_
   rotate_left
   ·rintro w' ⟨s0, s1, s2, s3, s4, s5⟩
    go_simp
    with_reducible rfl
   rotate_left
   ·exact zV
   refine take_ (i := 7) (N := some 24) (v := ?_) (a' := ?_) zq10_8 rfl rfl (take_ofW HT_.1 HW_.1 (by kernel_rfl)) (fun _ _ _ h => h) (Or.inl ⟨by rfl, ?_⟩) hHeld ?_ ?_
   rotate_left
   ·rintro w' ⟨s0, s1, s2, s3, s4, s5⟩
    go_simp
    with_reducible rfl
   rotate_left
   ·exact zV
   refine one_ (i := 8) (N := some 25) zq10_9 rfl rfl (one_of HT_.1 (by kernel_rfl)) (by decide) (fun K hK => ?_)
   refine goes_ Try.func60 (by kernel_rfl) rfl #[.agg #[.slice A283_0 ((rd_T29 l0 x5_1).f0).length c283_0, .int .i64 ((rd_T29 l0 x5_1).f1), .int .i64 ((rd_T29 l0 x5_1).f2)], .agg #[.slice A284_0 ((rd_T29 l1 x5_1).f0).length c284_0, .int .i64 ((rd_T29 l1 x5_1).f1), .int .i64 ((rd_T29 l1 x5_1).f2)]] (by rfl) rfl rfl zT ?_
   with_reducible refine (laws_eqHart.calls k1 _ _ ((rd_T29 l0 x5_1).f0) ((rd_T29 l0 x5_1).f1) ((rd_T29 l0 x5_1).f2) _ _ ((rd_T29 l1 x5_1).f0) ((rd_T29 l1 x5_1).f1) ((rd_T29 l1 x5_1).f2) true _ ?side1 ?side2 ?side3 ?side4 A7.1).mono ?_
   (case side1 => exact zC (Kd.C_below HR283_0.1 HB.1))
   (case side2 => exact HC283_0.1)
   (case side3 => exact zC (Kd.C_below HR284_0.1 HB.1))
   (case side4 => exact HC284_0.1)
   rintro e w10 ⟨rfl, hb⟩
   refine ⟨_, rfl, ?_⟩
   replace HB := zM (below_step zB0 hb)
   (try clear hb)
   (try clear hb2)
   (try clear hk)
   (try clear hi)
   refine hK.out _ _ ⟨((HB.1.cell (World.block_lt_of_cell? w _ hw283_0)).trans hw283_0), ((HB.1.cell (World.block_lt_of_cell? w _ hw283_1)).trans hw283_1), ((HB.1.cell (World.block_lt_of_cell? w _ hw283_2)).trans hw283_2), ((HB.1.cell (World.block_lt_of_cell? w _ hw284_0)).trans hw284_0), ((HB.1.cell (World.block_lt_of_cell? w _ hw284_1)).trans hw284_1), ((HB.1.cell (World.block_lt_of_cell? w _ hw284_2)).trans hw284_2)⟩ (fun hHeld => ?_)
   clear hK K
   refine norm_ (a' := ?_) ?_ ?_
   rotate_left
   ·show Act.put _ (some 25) _ = _
    simp only [Act.put, List.setIfInBounds_toArray, List.set_cons_zero, List.set_cons_succ, i64_w, i32_w]
    rfl
   refine pure_ (i := 9) (N := some 26) (v := ?_) (a' := ?_) zq10_10 rfl rfl (any_of HT_.1 (by kernel_rfl)) (fun _ _ _ h => h) (Or.inl ⟨by rfl, ?_⟩) ?_ ?_
   rotate_left
   ·intro w'
    go_simp
    with_reducible rfl
   rotate_left
   ·exact zV
   refine done_ (done_of HT_.1 (by kernel_rfl)) ?_
   try go_wp2
   go_roundg k1
   case measure => have := HK1.1; omega
   case rel => exact ⟨(wrap64 (x5_1 + 1)), zJJ, H', ⟨by have := HK1.1; omega⟩, ⟨zB0⟩⟩

/-! ### spec_l1In: function 49 -/
def spec_l1In.f (a0 : Int) (a1 : Int) (a2 : Int) : Option (Bool) := if a0 ≥ a1 then (some (decide (a0 ≤ a2))) else (some false)
theorem spec_l1In.calls (a0 : Int) (a1 : Int) (a2 : Int) (r : Bool) (w : World) (h : spec_l1In.f a0 a1 a2 = some r) :
  Calls Try.prog 49 #[.int .i64 a0, .int .i64 a1, .int .i64 a2] w fun e w' => e = .returned (.bool r) ∧ Drawn0 w w' := by
 unfold spec_l1In.f at h
 have H := h
 clear h
 by_cases c4 : a0 ≥ a1
 ·rw [if_pos c4] at H
  have c4b0 := decide_eq_true c4
  clear c4
  obtain rfl := Option.some.inj H
  go_enter Try.func49, Try.ntmps49
  go_wp2
  go_ret
  exact ⟨zJJ, zDD⟩
 rw [if_neg c4] at H
 have c4b0 := decide_eq_false c4
 clear c4
 obtain rfl := Option.some.inj H
 go_enter Try.func49, Try.ntmps49
 go_wp2
 go_ret
 exact ⟨zJJ, zDD⟩

/-! ### spec_l1Words: function 53 -/
def spec_l1Words.l0 : Nat → List Int → Int → Int → Option (Bool)
 | 0, _, _, _ => none
 | k + 1, x0, x1, x5 => if x5 < (x0.length : Int) then (if 0 ≤ x5 then ((spec_l1In.f (rd x0 x5) 0 65535).bind fun t287 => (if t287 = true then (spec_l1Words.l0 k x0 x1 (wrap64 (x5 + 1))) else (some false))) else (none)) else (some ((x0.length : Int) == x1))
def spec_l1Words.f (k : Nat) (l0 : List Int) (a1 : Int) : Option (Bool) := spec_l1Words.l0 k l0 a1 0
theorem spec_l1Words.mono_l : ∀ k, (∀ y0 y1 y2, LeO (spec_l1Words.l0 k y0 y1 y2) (spec_l1Words.l0 (k + 1) y0 y1 y2))
 | 0 => fun _ _ _ r h => by simp [spec_l1Words.l0] at h
 | k + 1 => by
  have ih0 := spec_l1Words.mono_l k
  ·intros
   unfold spec_l1Words.l0
   exact zL
theorem spec_l1Words.mono : ∀ a0 a1 k, LeO (spec_l1Words.f k a0 a1) (spec_l1Words.f (k + 1) a0 a1) := by
 intro a0 a1 k
 have ih0 := spec_l1Words.mono_l k
 unfold spec_l1Words.f
 exact zL
theorem spec_l1Words.calls (k : Nat) (A0 : Option Addr) (c0 : Nat) (l0 : List Int) (a1 : Int) (r : Bool) (w : World) (hr0 : Kd.C (Kd.int .i64) w A0 l0.length l0) (hc0 : l0.length ≤ c0) (h : spec_l1Words.f k l0 a1 = some r) :
  Calls Try.prog 53 #[.slice A0 l0.length c0, .int .i64 a1] w fun e w' => e = .returned (.bool r) ∧ Drawn0 w w' := by
 have HR0 := zM hr0
 have HC0 := zM hc0
 clear hr0 hc0
 unfold spec_l1Words.f at h
 have H := h
 clear h
 have H' := zM H
 clear H
 go_enter Try.func53, Try.ntmps53
 go_wp2
 go_loopg [5] k (fun kq v5 w' => ∃ (x5_1 : Int), v5 = .int .i64 x5_1 ∧ Aside0 (spec_l1Words.l0 kq l0 a1 x5_1 = some r) ∧ Aside0 (kq ≤ k) ∧ Drawn0 w w')
 case atStart => exact ⟨(0), zJJ, H', ⟨Nat.le_refl _⟩, zDD⟩
 case round =>
  clear H'
  try clear p2
  obtain ⟨x5_1, rfl, HA, HK1, ⟨m1, rfl⟩⟩ := hrel
  cases gk with
  | zero => exact absurd HA.1 (by simp [spec_l1Words.l0])
  | succ k1 =>
   have H := HA.1
   clear HA
   simp only [spec_l1Words.l0] at H
   by_cases c3 : x5_1 < (l0.length : Int)
   rotate_left
   ·rw [if_neg c3] at H
    have c3b0 := decide_eq_false c3
    clear c3
    obtain rfl := Option.some.inj H
    go_wp2
    go_ret
    exact ⟨zJJ, zDD⟩
   rw [if_pos c3] at H
   have c3b0 := decide_eq_true c3
   clear c3
   by_cases c4 : 0 ≤ x5_1
   rotate_left
   ·rw [if_neg c4] at H
    exact absurd H (by simp)
   rw [if_pos c4] at H
   have c4b0 := decide_eq_true c4
   clear c4
   replace H := zO H
   obtain ⟨t287, A5, H⟩ := H
   by_cases c6 : t287 = true
   rotate_left
   ·replace c6 := Bool.eq_false_iff.mpr c6
    subst c6
    rw [if_neg zF] at H
    obtain rfl := Option.some.inj H
    have p286 : 0 ≤ (x5_1 : Int) := zA
    have q286 : x5_1 < (l0.length : Int) := zA
    obtain ⟨ad286, e286, hx286_0⟩ := Kd.at_int HR0.1 x5_1 p286 q286
    cases e286
    replace p286 := eq_true p286
    replace q286 := eq_true q286
    go_wp2_with (first | ((with_reducible refine gate_callee (f := 49) rfl ?_); refine goesL_ (some 16) rfl rfl Try.func49 (by kernel_rfl) rfl #[.int .i64 (rd l0 x5_1), .int .i64 0, .int .i64 65535] rfl zT ?_; (with_reducible refine (spec_l1In.calls (rd l0 x5_1) 0 65535 false _ A5.1).mono ?_); rintro e w' ⟨rfl, ⟨nd, rfl⟩⟩; refine ⟨_, rfl, ?_⟩))
    go_ret
    exact ⟨zJJ, zDD⟩
   subst c6
   rw [if_pos rfl] at H
   have H' := zM H
   clear H
   have p286 : 0 ≤ (x5_1 : Int) := zA
   have q286 : x5_1 < (l0.length : Int) := zA
   obtain ⟨ad286, e286, hx286_0⟩ := Kd.at_int HR0.1 x5_1 p286 q286
   cases e286
   replace p286 := eq_true p286
   replace q286 := eq_true q286
   go_wp2_with (first | ((with_reducible refine gate_callee (f := 49) rfl ?_); refine goesL_ (some 16) rfl rfl Try.func49 (by kernel_rfl) rfl #[.int .i64 (rd l0 x5_1), .int .i64 0, .int .i64 65535] rfl zT ?_; (with_reducible refine (spec_l1In.calls (rd l0 x5_1) 0 65535 true _ A5.1).mono ?_); rintro e w' ⟨rfl, ⟨nd, rfl⟩⟩; refine ⟨_, rfl, ?_⟩))
   go_roundg k1
   case measure => have := HK1.1; omega
   case rel => exact ⟨(wrap64 (x5_1 + 1)), zJJ, H', ⟨by have := HK1.1; omega⟩, zDD⟩

/-! ### spec_HartOk: function 52 -/
def spec_HartOk.f (k : Nat) (l0_0 : List Int) (a0_1 : Int) (a0_2 : Int) : Option (Bool) := (spec_l1Words.f k l0_0 4).bind fun t289 => (if t289 = true then ((spec_l1In.f a0_1 0 23).bind fun t290 => (if t290 = true then ((spec_l1In.f a0_2 0 2).bind fun t291 => (some t291)) else (some false))) else (some false))
theorem spec_HartOk.mono : ∀ a0 a1 a2 k, LeO (spec_HartOk.f k a0 a1 a2) (spec_HartOk.f (k + 1) a0 a1 a2) := by
 intro a0 a1 a2 k
 unfold spec_HartOk.f
 have mo0 := @spec_l1Words.mono
 exact zL
theorem spec_HartOk.calls (k : Nat) (A0_0 : Option Addr) (c0_0 : Nat) (l0_0 : List Int) (a0_1 : Int) (a0_2 : Int) (r : Bool) (w : World) (hr0_0 : Kd.C (Kd.int .i64) w A0_0 l0_0.length l0_0) (hc0_0 : l0_0.length ≤ c0_0) (h : spec_HartOk.f k l0_0 a0_1 a0_2 = some r) :
  Calls Try.prog 52 #[.agg #[.slice A0_0 l0_0.length c0_0, .int .i64 a0_1, .int .i64 a0_2]] w fun e w' => e = .returned (.bool r) ∧ Below w.heap.size w w' := by
 have hu29 := Try.underlying29
 have HR0_0 := zM hr0_0
 have HC0_0 := zM hc0_0
 clear hr0_0 hc0_0
 have HB := zM (Below.refl w.heap.size w)
 unfold spec_HartOk.f at h
 have H := h
 clear h
 replace H := zO H
 obtain ⟨t289, A2, H⟩ := H
 by_cases c3 : t289 = true
 rotate_left
 ·replace c3 := Bool.eq_false_iff.mpr c3
  subst c3
  rw [if_neg zF] at H
  obtain rfl := Option.some.inj H
  go_enter Try.func52, Try.ntmps52
  go_wp2_with (first | ((with_reducible refine gate_dst (N := 1) rfl ?_); refine box_event ?hg (N := 1) ?hd (cs := #[.slice A0_0 l0_0.length c0_0, .int .i64 a0_1, .int .i64 a0_2]) (t := 29) ?hr ?_; (case hd => rfl); (case hg => rfl); (case hr => exact zHH); intro gb288 hg w11 hbox hb; have BK288 := zM hbox; have GW288 := zM (zW hg (below_size zB0)); have GE288 := zM (zW hg (below_size zB0)); replace HB := zM (below_step zB0 hb); clear hb hbox hg; have hcz12 := zc_3 (w := w11) BK288.1) | ((with_reducible refine gate_callee (f := 53) rfl ?_); refine goesL_ (some 5) rfl rfl Try.func53 (by kernel_rfl) rfl #[.slice A0_0 l0_0.length c0_0, .int .i64 4] rfl zT ?_; (with_reducible refine (spec_l1Words.calls k _ _ l0_0 4 false _ ?side1 ?side2 A2.1).mono ?_); (case side1 => exact zC (Kd.C_below HR0_0.1 HB.1)); (case side2 => exact HC0_0.1); rintro e w' ⟨rfl, ⟨nd, rfl⟩⟩; refine ⟨_, rfl, ?_⟩))
  go_ret
  exact ⟨zE, zB31⟩
 subst c3
 rw [if_pos rfl] at H
 replace H := zO H
 obtain ⟨t290, A4, H⟩ := H
 by_cases c5 : t290 = true
 rotate_left
 ·replace c5 := Bool.eq_false_iff.mpr c5
  subst c5
  rw [if_neg zF] at H
  obtain rfl := Option.some.inj H
  go_enter Try.func52, Try.ntmps52
  go_wp2_with (first | ((with_reducible refine gate_dst (N := 1) rfl ?_); refine box_event ?hg (N := 1) ?hd (cs := #[.slice A0_0 l0_0.length c0_0, .int .i64 a0_1, .int .i64 a0_2]) (t := 29) ?hr ?_; (case hd => rfl); (case hg => rfl); (case hr => exact zHH); intro gb288 hg w9 hbox hb; have BK288 := zM hbox; have GW288 := zM (zW hg (below_size zB0)); have GE288 := zM (zW hg (below_size zB0)); replace HB := zM (below_step zB0 hb); clear hb hbox hg; have hcz10 := zc_3 (w := w9) BK288.1) | ((with_reducible refine gate_callee (f := 53) rfl ?_); refine goesL_ (some 5) rfl rfl Try.func53 (by kernel_rfl) rfl #[.slice A0_0 l0_0.length c0_0, .int .i64 4] rfl zT ?_; (with_reducible refine (spec_l1Words.calls k _ _ l0_0 4 true _ ?side1 ?side2 A2.1).mono ?_); (case side1 => exact zC (Kd.C_below HR0_0.1 HB.1)); (case side2 => exact HC0_0.1); rintro e w' ⟨rfl, ⟨nd, rfl⟩⟩; refine ⟨_, rfl, ?_⟩) | (go_at_call 49; (with_reducible refine (spec_l1In.calls a0_1 0 23 false _ A4.1).mono ?_); rintro e w' ⟨rfl, ⟨nd, rfl⟩⟩))
  go_ret
  exact ⟨zE, zB31⟩
 subst c5
 rw [if_pos rfl] at H
 replace H := zO H
 obtain ⟨t291, A6, H⟩ := H
 obtain rfl := Option.some.inj H
 go_enter Try.func52, Try.ntmps52
 go_wp2_with (first | ((with_reducible refine gate_dst (N := 1) rfl ?_); refine box_event ?hg (N := 1) ?hd (cs := #[.slice A0_0 l0_0.length c0_0, .int .i64 a0_1, .int .i64 a0_2]) (t := 29) ?hr ?_; (case hd => rfl); (case hg => rfl); (case hr => exact zHH); intro gb288 hg w7 hbox hb; have BK288 := zM hbox; have GW288 := zM (zW hg (below_size zB0)); have GE288 := zM (zW hg (below_size zB0)); replace HB := zM (below_step zB0 hb); clear hb hbox hg; have hcz8 := zc_3 (w := w7) BK288.1) | ((with_reducible refine gate_callee (f := 53) rfl ?_); refine goesL_ (some 5) rfl rfl Try.func53 (by kernel_rfl) rfl #[.slice A0_0 l0_0.length c0_0, .int .i64 4] rfl zT ?_; (with_reducible refine (spec_l1Words.calls k _ _ l0_0 4 true _ ?side1 ?side2 A2.1).mono ?_); (case side1 => exact zC (Kd.C_below HR0_0.1 HB.1)); (case side2 => exact HC0_0.1); rintro e w' ⟨rfl, ⟨nd, rfl⟩⟩; refine ⟨_, rfl, ?_⟩) | (go_at_call 49; (with_reducible refine (spec_l1In.calls a0_1 0 23 true _ A4.1).mono ?_); rintro e w' ⟨rfl, ⟨nd, rfl⟩⟩) | (go_at_call 49; (with_reducible refine (spec_l1In.calls a0_2 0 2 t291 _ A6.1).mono ?_); rintro e w' ⟨rfl, ⟨nd, rfl⟩⟩))
 go_ret
 exact ⟨zE, zB31⟩

/-! ### spec_l9Copy: function 104 -/
def spec_l9Copy.f (l0_0 : List Int) (a0_1 : Int) (a0_2 : Int) : Option (List Int × Int × Int) := (some (([] : List Int) : List Int)).bind fun y294 => (if y294.length + l0_0.length < 17592186044416 then (some ((y294 ++ l0_0), a0_1, a0_2)) else (none))
theorem spec_l9Copy.calls (A0_0 : Option Addr) (c0_0 : Nat) (l0_0 : List Int) (a0_1 : Int) (a0_2 : Int) (r1 : List Int) (r2 : Int) (r3 : Int) (w : World) (hr0_0 : Kd.C (Kd.int .i64) w A0_0 l0_0.length l0_0) (hc0_0 : l0_0.length ≤ c0_0) (h : spec_l9Copy.f l0_0 a0_1 a0_2 = some (r1, r2, r3)) :
  Calls Try.prog 104 #[.agg #[.slice A0_0 l0_0.length c0_0, .int .i64 a0_1, .int .i64 a0_2]] w fun e w' => ∃ v0_ : Value, e = .returned (.agg #[v0_, .int .i64 r2, .int .i64 r3]) ∧ Kd.R (Kd.int .i64) 3 w' w.heap.size (fun _ => True) v0_ r1 ∧ Below w.heap.size w w' := by
 have hu29 := Try.underlying29
 have HR0_0 := zM hr0_0
 have HC0_0 := zM hc0_0
 clear hr0_0 hc0_0
 have HB := zM (Below.refl w.heap.size w)
 unfold spec_l9Copy.f at h
 have H := h
 clear h
 obtain ⟨y294, hy294⟩ : ∃ y_ : List Int, y_ = (([] : List Int)) := ⟨_, rfl⟩
 replace H : (if y294.length + l0_0.length < 17592186044416 then (some ((y294 ++ l0_0), a0_1, a0_2)) else (none)) = some (r1, r2, r3) := by first | (rw [hy294]; with_reducible exact H) | (have H2_ := (Option.bind_some _ _).symm.trans H; rw [hy294]; with_reducible exact H2_) | (have H2_ := (Option.bind_some _ _).symm.trans H; with_reducible exact H2_) | with_reducible exact H | (rw [hy294]; exact H) | exact H
 have Ny294 := zM hy294
 clear hy294
 by_cases c2 : y294.length + l0_0.length < 17592186044416
 rotate_left
 ·rw [if_neg c2] at H
  exact absurd H (by simp)
 rw [if_pos c2] at H
 have LMc2 := zM c2
 clear c2
 obtain ⟨y297, hy297⟩ : ∃ y_ : List Int, y_ = (y294 ++ l0_0) := ⟨_, rfl⟩
 replace H : (some (y297, a0_1, a0_2)) = some (r1, r2, r3) := by first | (rw [hy297]; with_reducible exact H) | (have H2_ := (Option.bind_some _ _).symm.trans H; rw [hy297]; with_reducible exact H2_) | (have H2_ := (Option.bind_some _ _).symm.trans H; with_reducible exact H2_) | with_reducible exact H | (rw [hy297]; exact H) | exact H
 have Ny297 := zM hy297
 clear hy297
 simp only [Option.some.injEq, Prod.mk.injEq] at H
 obtain ⟨rfl, rfl, rfl⟩ := H
 go_enter Try.func104, Try.ntmps104
 go_wp2_with (first | ((with_reducible refine gate_dst (N := 1) rfl ?_); refine box_event ?hg (N := 1) ?hd (cs := #[.slice A0_0 l0_0.length c0_0, .int .i64 a0_1, .int .i64 a0_2]) (t := 29) ?hr ?_; (case hd => rfl); (case hg => rfl); (case hr => exact zHH); intro gb292 hg w3 hbox hb; have BK292 := zM hbox; have GW292 := zM (zW hg (below_size zB0)); have GE292 := zM (zW hg (below_size zB0)); replace HB := zM (below_step zB0 hb); clear hb hbox hg) | ((with_reducible refine gate_dst (N := 2) rfl ?_); refine box_event ?hg (N := 2) ?hd (cs := #[.slice none 0 0, .int .i64 0, .int .i64 0]) (t := 29) ?hr ?_; (case hd => rfl); (case hg => rfl); (case hr => exact zHH); intro gb293 hg w4 hbox hb; have BK293 := zM hbox; have GW293 := zM (zW hg (below_size zB32)); have GE293 := zM (zW hg (below_size zB32)); replace HB := zM (below_step zB32 hb); have NB292_293 := zM ((zn BK292.1 hg : gb292 ≠ gb293)); have NB293_292 := zM ((zm BK292.1 hg : gb293 ≠ gb292)); replace BK292 := zM (zb BK292.1 hb); clear hb hbox hg) | ((with_reducible refine gate_dst (N := 3) rfl ?_); refine Kd.R_lit (Kd.int .i64) _ 3 ?hg (N := 3) ?hd (xs := ([] : List Int)) (inner := []) (ok := fun _ => True) (okp := fun _ => True) ?hr ?hp (fun _ hk => hk) trivial (Below.refl _ _) (Nat.le_refl _) (by simp) ?_; (case hd => rfl); (case hg => rfl); (case hr => exact zHH); (case hp => exact (Reps.none _ _)); intro v295 w5 ho6 hb hg_ hnew_; clear hg_ hnew_; (first | rw [← Ny294.1] at ho6 | (simp only [Int.reduceToNat] at ho6; rw [← Ny294.1] at ho6)); have HO296 := zM (Kd.R_lower ho6 (below_size zB33)); replace BK292 := zM (zb BK292.1 hb); replace BK293 := zM (zb BK293.1 hb); replace HB := zM (below_step zB33 hb); clear hb ho6; have hnb7 := NB292_293.1; have hnc7 := NB293_292.1; have hcz8 := zc_3 (w := w5) BK292.1) | ((with_reducible refine gate_builtin (b := .append) (xs := #[.tmp 3, .tmp 5]) rfl ?_); at_builtin; refine Kd.R_append_rows (Kd.int .i64) (w0 := w) w.heap.size rfl (.tmp 3) (.tmp 5) 24 3 (.int .i64 0) 8 rfl Try.underlying24 info3 rfl (by decide) (by omega) v295 y294 l0_0 _ _ _ (fun _ => True) (fun _ => False) rfl rfl ?aO ?aR (fun _ _ h => h) (fun _ h => h.elim) ?aF ?aB ?aS ?aL ?_; (case aR => exact zC (Kd.C_below HR0_0.1 HB.1)); (case aB => exact zB33); (case aF => exact (fun _ _ => trivial)); (case aO => exact (zR HO296.1)); (case aS => exact (below_size zB33)); (case aL => have := LMc2.out; omega); intro v298 w9 ho hb hg hat; rw [← Ny297.1] at ho; replace BK292 := zM (zg BK292.1 hg (Kd.R_ne HO296.1 BK292.1 (by decide))); replace BK293 := zM (zg BK293.1 hg (Kd.R_ne HO296.1 BK293.1 (by decide))); replace HB := zM hb; have HO299 := zM ho; clear HO296; clear ho hb hg hat; obtain ⟨Ao10, co10, eo10⟩ := Kd.R_slice HO299.1; subst eo10; have hcz11 := zc_3 (w := w9) BK292.1; have hcz12 := zc_3 (w := w9) BK293.1))
 refine bodyPost_ret (results_cell_row rfl _ _ gb293 29 #[.slice Ao10 y297.length co10, .int .i64 a0_1, .int .i64 a0_2] (0, 0) _ rfl (by refine zP ?_; refine blk_put (cs := #[.slice Ao10 y297.length co10, .int .i64 a0_1, .int .i64 0]) ?_ 2 _ rfl; refine zP ?_; refine blk_put (cs := #[.slice Ao10 y297.length co10, .int .i64 0, .int .i64 0]) ?_ 1 _ rfl; refine zP ?_; refine blk_put (cs := #[.slice none 0 0, .int .i64 0, .int .i64 0]) ?_ 0 _ rfl; refine zP ?_; refine blk_far ?_ NB293_292.1 _; refine zP ?_; exact BK293.1) Try.underlying29 rfl (by kernel_rfl)) rfl ?_
 exact ⟨_, zE, by refine zrR ?_; exact Kd.R_mono (Kd.R_far (p := ⟨gb293, 2, none⟩) (Kd.R_far (p := ⟨gb293, 1, none⟩) (Kd.R_far (p := ⟨gb293, 0, none⟩) (Kd.R_far (p := ⟨gb292, 0, none⟩) (Kd.R_types (Kd.R_types HO299.1 BK292.1 (by decide)) BK293.1 (by decide)) (fun _ hk => hk.1.2) (.slice Ao10 y297.length co10)) (fun _ hk => hk.2) (.slice Ao10 y297.length co10)) (fun _ hk => hk.2) (.int .i64 a0_1)) (fun _ hk => hk.2) (.int .i64 a0_2)) (fun _ hk => trivial), zB33⟩

/-! ### spec_l8Has: function 131 -/
def spec_l8Has.f (a0 : Int) : Option (Int) := (spec_l1In.f a0 1 10).bind fun t300 => (if t300 = true then ((some (([0, 9, 7, 11, 11, 14, 15, 10, 8, 0, 7] : List Int) : List Int)).bind fun y301 => (if 0 ≤ a0 then (if a0 < (y301.length : Int) then (some (rd y301 a0)) else (none)) else (none))) else (some 0))
theorem spec_l8Has.calls (a0 : Int) (r : Int) (w : World) (h : spec_l8Has.f a0 = some r) :
  Calls Try.prog 131 #[.int .i64 a0] w fun e w' => e = .returned (.int .i64 r) ∧ Below w.heap.size w w' := by
 have HB := zM (Below.refl w.heap.size w)
 unfold spec_l8Has.f at h
 have H := h
 clear h
 replace H := zO H
 obtain ⟨t300, A2, H⟩ := H
 by_cases c3 : t300 = true
 rotate_left
 ·replace c3 := Bool.eq_false_iff.mpr c3
  subst c3
  rw [if_neg zF] at H
  obtain rfl := Option.some.inj H
  go_enter Try.func131, Try.ntmps131
  go_wp2_with (first | ((with_reducible refine gate_callee (f := 49) rfl ?_); refine goesL_ (some 4) rfl rfl Try.func49 (by kernel_rfl) rfl #[.int .i64 a0, .int .i64 1, .int .i64 10] rfl zT ?_; (with_reducible refine (spec_l1In.calls a0 1 10 false _ A2.1).mono ?_); rintro e w' ⟨rfl, ⟨nd, rfl⟩⟩; refine ⟨_, rfl, ?_⟩))
  go_ret
  exact ⟨zE, zB0⟩
 subst c3
 rw [if_pos rfl] at H
 obtain ⟨y301, hy301⟩ : ∃ y_ : List Int, y_ = (([0, 9, 7, 11, 11, 14, 15, 10, 8, 0, 7] : List Int)) := ⟨_, rfl⟩
 replace H : (if 0 ≤ a0 then (if a0 < (y301.length : Int) then (some (rd y301 a0)) else (none)) else (none)) = some r := by first | (rw [hy301]; with_reducible exact H) | (have H2_ := (Option.bind_some _ _).symm.trans H; rw [hy301]; with_reducible exact H2_) | (have H2_ := (Option.bind_some _ _).symm.trans H; with_reducible exact H2_) | with_reducible exact H | (rw [hy301]; exact H) | exact H
 have Ny301 := zM hy301
 clear hy301
 by_cases c4 : 0 ≤ a0
 rotate_left
 ·rw [if_neg c4] at H
  exact absurd H (by simp)
 rw [if_pos c4] at H
 have c4b0 := decide_eq_true c4
 clear c4
 by_cases c5 : a0 < (y301.length : Int)
 rotate_left
 ·rw [if_neg c5] at H
  exact absurd H (by simp)
 rw [if_pos c5] at H
 have c5b0 := decide_eq_true c5
 clear c5
 obtain rfl := Option.some.inj H
 go_enter Try.func131, Try.ntmps131
 go_wp2_with (first | ((with_reducible refine gate_callee (f := 49) rfl ?_); refine goesL_ (some 4) rfl rfl Try.func49 (by kernel_rfl) rfl #[.int .i64 a0, .int .i64 1, .int .i64 10] rfl zT ?_; (with_reducible refine (spec_l1In.calls a0 1 10 true _ A2.1).mono ?_); rintro e w' ⟨rfl, ⟨nd, rfl⟩⟩; refine ⟨_, rfl, ?_⟩) | ((with_reducible refine gate_dst (N := 6) rfl ?_); refine Kd.R_lit (Kd.int .i64) _ 3 ?hg (N := 6) ?hd (xs := ([0, 9, 7, 11, 11, 14, 15, 10, 8, 0, 7] : List Int)) (inner := [.int .i64 0, .int .i64 9, .int .i64 7, .int .i64 11, .int .i64 11, .int .i64 14, .int .i64 15, .int .i64 10, .int .i64 8, .int .i64 0, .int .i64 7]) (ok := fun _ => True) (okp := fun _ => True) ?hr ?hp (fun _ hk => hk) trivial (Below.refl _ _) (Nat.le_refl _) (by simp) ?_; (case hd => rfl); (case hg => rfl); (case hr => exact zHH); (case hp => exact (Reps.one (show Kd.M (Kd.int .i64) _ _ _ 0 [.int .i64 0] from rfl) (Reps.one (show Kd.M (Kd.int .i64) _ _ _ 9 [.int .i64 9] from rfl) (Reps.one (show Kd.M (Kd.int .i64) _ _ _ 7 [.int .i64 7] from rfl) (Reps.one (show Kd.M (Kd.int .i64) _ _ _ 11 [.int .i64 11] from rfl) (Reps.one (show Kd.M (Kd.int .i64) _ _ _ 11 [.int .i64 11] from rfl) (Reps.one (show Kd.M (Kd.int .i64) _ _ _ 14 [.int .i64 14] from rfl) (Reps.one (show Kd.M (Kd.int .i64) _ _ _ 15 [.int .i64 15] from rfl) (Reps.one (show Kd.M (Kd.int .i64) _ _ _ 10 [.int .i64 10] from rfl) (Reps.one (show Kd.M (Kd.int .i64) _ _ _ 8 [.int .i64 8] from rfl) (Reps.one (show Kd.M (Kd.int .i64) _ _ _ 0 [.int .i64 0] from rfl) (Reps.one (show Kd.M (Kd.int .i64) _ _ _ 7 [.int .i64 7] from rfl) (Reps.none _ _))))))))))))); intro v302 w6 ho7 hb hg_ hnew_; clear hg_ hnew_; (first | rw [← Ny301.1] at ho7 | (simp only [Int.reduceToNat] at ho7; rw [← Ny301.1] at ho7)); have HO303 := zM (Kd.R_lower ho7 (below_size zB0)); replace HB := zM (below_step zB0 hb); clear hb ho7; obtain ⟨Ao8, co8, eo8⟩ := Kd.R_slice HO303.1; subst eo8; have p304 : 0 ≤ (a0 : Int) := zA; have q304 : a0 < (y301.length : Int) := zA; obtain ⟨ad304, e304, hx304_0⟩ := Kd.at_int (Kd.R_reads' HO303.1).2.2 a0 p304 q304; cases e304; replace p304 := eq_true p304; replace q304 := eq_true q304))
 go_ret
 exact ⟨zE, zB0⟩

/-! ### spec_l8Field: function 132 -/
def spec_l8Field.f (a0 : Int) (a1 : Int) (a2 : Bool) : Option (Bool) := (spec_l1In.f a0 0 a1).bind fun t305 => (if t305 = true then (if a2 = true then (some true) else (some (a0 == 0))) else (some false))
theorem spec_l8Field.calls (a0 : Int) (a1 : Int) (a2 : Bool) (r : Bool) (w : World) (h : spec_l8Field.f a0 a1 a2 = some r) :
  Calls Try.prog 132 #[.int .i64 a0, .int .i64 a1, .bool a2] w fun e w' => e = .returned (.bool r) ∧ Drawn0 w w' := by
 unfold spec_l8Field.f at h
 have H := h
 clear h
 replace H := zO H
 obtain ⟨t305, A4, H⟩ := H
 by_cases c5 : t305 = true
 rotate_left
 ·replace c5 := Bool.eq_false_iff.mpr c5
  subst c5
  rw [if_neg zF] at H
  obtain rfl := Option.some.inj H
  go_enter Try.func132, Try.ntmps132
  go_wp2_with (first | ((with_reducible refine gate_callee (f := 49) rfl ?_); refine goesL_ (some 9) rfl rfl Try.func49 (by kernel_rfl) rfl #[.int .i64 a0, .int .i64 0, .int .i64 a1] rfl zT ?_; (with_reducible refine (spec_l1In.calls a0 0 a1 false _ A4.1).mono ?_); rintro e w' ⟨rfl, ⟨nd, rfl⟩⟩; refine ⟨_, rfl, ?_⟩))
  go_ret
  exact ⟨zJJ, zDD⟩
 subst c5
 rw [if_pos rfl] at H
 by_cases c6 : a2 = true
 ·subst c6
  rw [if_pos rfl] at H
  obtain rfl := Option.some.inj H
  go_enter Try.func132, Try.ntmps132
  go_wp2_with (first | ((with_reducible refine gate_callee (f := 49) rfl ?_); refine goesL_ (some 9) rfl rfl Try.func49 (by kernel_rfl) rfl #[.int .i64 a0, .int .i64 0, .int .i64 a1] rfl zT ?_; (with_reducible refine (spec_l1In.calls a0 0 a1 true _ A4.1).mono ?_); rintro e w' ⟨rfl, ⟨nd, rfl⟩⟩; refine ⟨_, rfl, ?_⟩))
  go_ret
  exact ⟨zJJ, zDD⟩
 replace c6 := Bool.eq_false_iff.mpr c6
 subst c6
 rw [if_neg zF] at H
 obtain rfl := Option.some.inj H
 go_enter Try.func132, Try.ntmps132
 go_wp2_with (first | ((with_reducible refine gate_callee (f := 49) rfl ?_); refine goesL_ (some 9) rfl rfl Try.func49 (by kernel_rfl) rfl #[.int .i64 a0, .int .i64 0, .int .i64 a1] rfl zT ?_; (with_reducible refine (spec_l1In.calls a0 0 a1 true _ A4.1).mono ?_); rintro e w' ⟨rfl, ⟨nd, rfl⟩⟩; refine ⟨_, rfl, ?_⟩))
 go_ret
 exact ⟨zJJ, zDD⟩

/-! ### spec_InsOk: function 124 -/
def spec_InsOk.f (a0_0 : Int) (a0_1 : Int) (a0_2 : Int) (a0_3 : Int) (a0_4 : Int) : Option (Bool) := (spec_l8Has.f a0_0).bind fun t307 => ((spec_l1In.f a0_0 1 10).bind fun t308 => (if t308 = true then ((spec_l8Field.f a0_1 3 ((Go.bits .and .i64 t307 1) != 0)).bind fun t309 => (if t309 = true then ((spec_l8Field.f a0_2 3 ((Go.bits .and .i64 t307 2) != 0)).bind fun t310 => (if t310 = true then ((spec_l8Field.f a0_3 3 ((Go.bits .and .i64 t307 4) != 0)).bind fun t311 => (if t311 = true then ((spec_l8Field.f a0_4 63 ((Go.bits .and .i64 t307 8) != 0)).bind fun t312 => (some t312)) else (some false))) else (some false))) else (some false))) else (some false)))
theorem spec_InsOk.calls (a0_0 : Int) (a0_1 : Int) (a0_2 : Int) (a0_3 : Int) (a0_4 : Int) (r : Bool) (w : World) (h : spec_InsOk.f a0_0 a0_1 a0_2 a0_3 a0_4 = some r) :
  Calls Try.prog 124 #[.agg #[.int .i64 a0_0, .int .i64 a0_1, .int .i64 a0_2, .int .i64 a0_3, .int .i64 a0_4]] w fun e w' => e = .returned (.bool r) ∧ Below w.heap.size w w' := by
 have hu59 := Try.underlying59
 have HB := zM (Below.refl w.heap.size w)
 unfold spec_InsOk.f at h
 have H := h
 clear h
 replace H := zO H
 obtain ⟨t307, A2, H⟩ := H
 replace H := zO H
 obtain ⟨t308, A3, H⟩ := H
 by_cases c4 : t308 = true
 rotate_left
 ·replace c4 := Bool.eq_false_iff.mpr c4
  subst c4
  rw [if_neg zF] at H
  obtain rfl := Option.some.inj H
  go_enter Try.func124, Try.ntmps124
  go_wp2_with (first | ((with_reducible refine gate_dst (N := 1) rfl ?_); refine box_event ?hg (N := 1) ?hd (cs := #[.int .i64 a0_0, .int .i64 a0_1, .int .i64 a0_2, .int .i64 a0_3, .int .i64 a0_4]) (t := 59) ?hr ?_; (case hd => rfl); (case hg => rfl); (case hr => exact zHH); intro gb306 hg w28 hbox hb; have BK306 := zM hbox; have GW306 := zM (zW hg (below_size zB0)); have GE306 := zM (zW hg (below_size zB0)); replace HB := zM (below_step zB0 hb); clear hb hbox hg; have hcz29 := zc_5 (w := w28) BK306.1) | ((with_reducible refine gate_callee (f := 131) rfl ?_); refine goesL_ (some 6) rfl rfl Try.func131 (by kernel_rfl) rfl #[.int .i64 a0_0] rfl zT ?_; (with_reducible refine (spec_l8Has.calls a0_0 t307 _ A2.1).mono ?_); rintro e w30 ⟨rfl, hb⟩; refine ⟨_, rfl, ?_⟩; replace BK306 := zM (zb BK306.1 hb); replace HB := zM (below_step zB34 hb); clear hb; have hcz31 := zc_5 (w := w30) BK306.1) | ((with_reducible refine gate_callee (f := 49) rfl ?_); refine goesL_ (some 9) rfl rfl Try.func49 (by kernel_rfl) rfl #[.int .i64 a0_0, .int .i64 1, .int .i64 10] rfl zT ?_; (with_reducible refine (spec_l1In.calls a0_0 1 10 false _ A3.1).mono ?_); rintro e w' ⟨rfl, ⟨nd, rfl⟩⟩; refine ⟨_, rfl, ?_⟩))
  go_ret
  exact ⟨zE, zB34⟩
 subst c4
 rw [if_pos rfl] at H
 replace H := zO H
 obtain ⟨t309, A5, H⟩ := H
 by_cases c6 : t309 = true
 rotate_left
 ·replace c6 := Bool.eq_false_iff.mpr c6
  subst c6
  rw [if_neg zF] at H
  obtain rfl := Option.some.inj H
  go_enter Try.func124, Try.ntmps124
  go_wp2_with (first | ((with_reducible refine gate_dst (N := 1) rfl ?_); refine box_event ?hg (N := 1) ?hd (cs := #[.int .i64 a0_0, .int .i64 a0_1, .int .i64 a0_2, .int .i64 a0_3, .int .i64 a0_4]) (t := 59) ?hr ?_; (case hd => rfl); (case hg => rfl); (case hr => exact zHH); intro gb306 hg w24 hbox hb; have BK306 := zM hbox; have GW306 := zM (zW hg (below_size zB0)); have GE306 := zM (zW hg (below_size zB0)); replace HB := zM (below_step zB0 hb); clear hb hbox hg; have hcz25 := zc_5 (w := w24) BK306.1) | ((with_reducible refine gate_callee (f := 131) rfl ?_); refine goesL_ (some 6) rfl rfl Try.func131 (by kernel_rfl) rfl #[.int .i64 a0_0] rfl zT ?_; (with_reducible refine (spec_l8Has.calls a0_0 t307 _ A2.1).mono ?_); rintro e w26 ⟨rfl, hb⟩; refine ⟨_, rfl, ?_⟩; replace BK306 := zM (zb BK306.1 hb); replace HB := zM (below_step zB34 hb); clear hb; have hcz27 := zc_5 (w := w26) BK306.1) | ((with_reducible refine gate_callee (f := 49) rfl ?_); refine goesL_ (some 9) rfl rfl Try.func49 (by kernel_rfl) rfl #[.int .i64 a0_0, .int .i64 1, .int .i64 10] rfl zT ?_; (with_reducible refine (spec_l1In.calls a0_0 1 10 true _ A3.1).mono ?_); rintro e w' ⟨rfl, ⟨nd, rfl⟩⟩; refine ⟨_, rfl, ?_⟩) | (go_at_call 132; (with_reducible refine (spec_l8Field.calls a0_1 3 ((Go.bits .and .i64 t307 1) != 0) false _ A5.1).mono ?_); rintro e w' ⟨rfl, ⟨nd, rfl⟩⟩))
  go_ret
  exact ⟨zE, zB34⟩
 subst c6
 rw [if_pos rfl] at H
 replace H := zO H
 obtain ⟨t310, A7, H⟩ := H
 by_cases c8 : t310 = true
 rotate_left
 ·replace c8 := Bool.eq_false_iff.mpr c8
  subst c8
  rw [if_neg zF] at H
  obtain rfl := Option.some.inj H
  go_enter Try.func124, Try.ntmps124
  go_wp2_with (first | ((with_reducible refine gate_dst (N := 1) rfl ?_); refine box_event ?hg (N := 1) ?hd (cs := #[.int .i64 a0_0, .int .i64 a0_1, .int .i64 a0_2, .int .i64 a0_3, .int .i64 a0_4]) (t := 59) ?hr ?_; (case hd => rfl); (case hg => rfl); (case hr => exact zHH); intro gb306 hg w20 hbox hb; have BK306 := zM hbox; have GW306 := zM (zW hg (below_size zB0)); have GE306 := zM (zW hg (below_size zB0)); replace HB := zM (below_step zB0 hb); clear hb hbox hg; have hcz21 := zc_5 (w := w20) BK306.1) | ((with_reducible refine gate_callee (f := 131) rfl ?_); refine goesL_ (some 6) rfl rfl Try.func131 (by kernel_rfl) rfl #[.int .i64 a0_0] rfl zT ?_; (with_reducible refine (spec_l8Has.calls a0_0 t307 _ A2.1).mono ?_); rintro e w22 ⟨rfl, hb⟩; refine ⟨_, rfl, ?_⟩; replace BK306 := zM (zb BK306.1 hb); replace HB := zM (below_step zB34 hb); clear hb; have hcz23 := zc_5 (w := w22) BK306.1) | ((with_reducible refine gate_callee (f := 49) rfl ?_); refine goesL_ (some 9) rfl rfl Try.func49 (by kernel_rfl) rfl #[.int .i64 a0_0, .int .i64 1, .int .i64 10] rfl zT ?_; (with_reducible refine (spec_l1In.calls a0_0 1 10 true _ A3.1).mono ?_); rintro e w' ⟨rfl, ⟨nd, rfl⟩⟩; refine ⟨_, rfl, ?_⟩) | (go_at_call 132; (with_reducible refine (spec_l8Field.calls a0_1 3 ((Go.bits .and .i64 t307 1) != 0) true _ A5.1).mono ?_); rintro e w' ⟨rfl, ⟨nd, rfl⟩⟩) | (go_at_call 132; (with_reducible refine (spec_l8Field.calls a0_2 3 ((Go.bits .and .i64 t307 2) != 0) false _ A7.1).mono ?_); rintro e w' ⟨rfl, ⟨nd, rfl⟩⟩))
  go_ret
  exact ⟨zE, zB34⟩
 subst c8
 rw [if_pos rfl] at H
 replace H := zO H
 obtain ⟨t311, A9, H⟩ := H
 by_cases c10 : t311 = true
 rotate_left
 ·replace c10 := Bool.eq_false_iff.mpr c10
  subst c10
  rw [if_neg zF] at H
  obtain rfl := Option.some.inj H
  go_enter Try.func124, Try.ntmps124
  go_wp2_with (first | ((with_reducible refine gate_dst (N := 1) rfl ?_); refine box_event ?hg (N := 1) ?hd (cs := #[.int .i64 a0_0, .int .i64 a0_1, .int .i64 a0_2, .int .i64 a0_3, .int .i64 a0_4]) (t := 59) ?hr ?_; (case hd => rfl); (case hg => rfl); (case hr => exact zHH); intro gb306 hg w16 hbox hb; have BK306 := zM hbox; have GW306 := zM (zW hg (below_size zB0)); have GE306 := zM (zW hg (below_size zB0)); replace HB := zM (below_step zB0 hb); clear hb hbox hg; have hcz17 := zc_5 (w := w16) BK306.1) | ((with_reducible refine gate_callee (f := 131) rfl ?_); refine goesL_ (some 6) rfl rfl Try.func131 (by kernel_rfl) rfl #[.int .i64 a0_0] rfl zT ?_; (with_reducible refine (spec_l8Has.calls a0_0 t307 _ A2.1).mono ?_); rintro e w18 ⟨rfl, hb⟩; refine ⟨_, rfl, ?_⟩; replace BK306 := zM (zb BK306.1 hb); replace HB := zM (below_step zB34 hb); clear hb; have hcz19 := zc_5 (w := w18) BK306.1) | ((with_reducible refine gate_callee (f := 49) rfl ?_); refine goesL_ (some 9) rfl rfl Try.func49 (by kernel_rfl) rfl #[.int .i64 a0_0, .int .i64 1, .int .i64 10] rfl zT ?_; (with_reducible refine (spec_l1In.calls a0_0 1 10 true _ A3.1).mono ?_); rintro e w' ⟨rfl, ⟨nd, rfl⟩⟩; refine ⟨_, rfl, ?_⟩) | (go_at_call 132; (with_reducible refine (spec_l8Field.calls a0_1 3 ((Go.bits .and .i64 t307 1) != 0) true _ A5.1).mono ?_); rintro e w' ⟨rfl, ⟨nd, rfl⟩⟩) | (go_at_call 132; (with_reducible refine (spec_l8Field.calls a0_2 3 ((Go.bits .and .i64 t307 2) != 0) true _ A7.1).mono ?_); rintro e w' ⟨rfl, ⟨nd, rfl⟩⟩) | (go_at_call 132; (with_reducible refine (spec_l8Field.calls a0_3 3 ((Go.bits .and .i64 t307 4) != 0) false _ A9.1).mono ?_); rintro e w' ⟨rfl, ⟨nd, rfl⟩⟩))
  go_ret
  exact ⟨zE, zB34⟩
 subst c10
 rw [if_pos rfl] at H
 replace H := zO H
 obtain ⟨t312, A11, H⟩ := H
 obtain rfl := Option.some.inj H
 go_enter Try.func124, Try.ntmps124
 go_wp2_with (first | ((with_reducible refine gate_dst (N := 1) rfl ?_); refine box_event ?hg (N := 1) ?hd (cs := #[.int .i64 a0_0, .int .i64 a0_1, .int .i64 a0_2, .int .i64 a0_3, .int .i64 a0_4]) (t := 59) ?hr ?_; (case hd => rfl); (case hg => rfl); (case hr => exact zHH); intro gb306 hg w12 hbox hb; have BK306 := zM hbox; have GW306 := zM (zW hg (below_size zB0)); have GE306 := zM (zW hg (below_size zB0)); replace HB := zM (below_step zB0 hb); clear hb hbox hg; have hcz13 := zc_5 (w := w12) BK306.1) | ((with_reducible refine gate_callee (f := 131) rfl ?_); refine goesL_ (some 6) rfl rfl Try.func131 (by kernel_rfl) rfl #[.int .i64 a0_0] rfl zT ?_; (with_reducible refine (spec_l8Has.calls a0_0 t307 _ A2.1).mono ?_); rintro e w14 ⟨rfl, hb⟩; refine ⟨_, rfl, ?_⟩; replace BK306 := zM (zb BK306.1 hb); replace HB := zM (below_step zB34 hb); clear hb; have hcz15 := zc_5 (w := w14) BK306.1) | ((with_reducible refine gate_callee (f := 49) rfl ?_); refine goesL_ (some 9) rfl rfl Try.func49 (by kernel_rfl) rfl #[.int .i64 a0_0, .int .i64 1, .int .i64 10] rfl zT ?_; (with_reducible refine (spec_l1In.calls a0_0 1 10 true _ A3.1).mono ?_); rintro e w' ⟨rfl, ⟨nd, rfl⟩⟩; refine ⟨_, rfl, ?_⟩) | (go_at_call 132; (with_reducible refine (spec_l8Field.calls a0_1 3 ((Go.bits .and .i64 t307 1) != 0) true _ A5.1).mono ?_); rintro e w' ⟨rfl, ⟨nd, rfl⟩⟩) | (go_at_call 132; (with_reducible refine (spec_l8Field.calls a0_2 3 ((Go.bits .and .i64 t307 2) != 0) true _ A7.1).mono ?_); rintro e w' ⟨rfl, ⟨nd, rfl⟩⟩) | (go_at_call 132; (with_reducible refine (spec_l8Field.calls a0_3 3 ((Go.bits .and .i64 t307 4) != 0) true _ A9.1).mono ?_); rintro e w' ⟨rfl, ⟨nd, rfl⟩⟩) | (go_at_call 132; (with_reducible refine (spec_l8Field.calls a0_4 63 ((Go.bits .and .i64 t307 8) != 0) t312 _ A11.1).mono ?_); rintro e w' ⟨rfl, ⟨nd, rfl⟩⟩))
 go_ret
 exact ⟨zE, zB34⟩

end Go.Proofs.Ytnjdepmlpdjghaa.PFnExactEver
