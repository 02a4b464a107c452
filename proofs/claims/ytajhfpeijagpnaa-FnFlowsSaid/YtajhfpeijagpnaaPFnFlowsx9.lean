-- made by wip/tools/myprint.py out of the seat's translation
import Derived.Test.YtajhfpeijagpnaaPFnFlowsx0
import Derived.Test.YtajhfpeijagpnaaPFnFlowsx5
import Derived.Test.YtajhfpeijagpnaaPFnFlowsx6
import Derived.Test.YtajhfpeijagpnaaPFnFlowsx7
import Derived.Test.YtajhfpeijagpnaaPFnFlowsx8
namespace Go.Proofs.Ytajhfpeijagpnaa.PFnFlows
open Go.RowKit Go.Proofs.YtajhfpeijagpnaaW.PrintWords Go.Proofs.YtajhfpeijagpnaaW.PrintLast Go.Proofs.YtajhfpeijagpnaaW.PrintMore
attribute [local go_sem] max2_int min2_int max_two min_two max_three min_three max_four min_four   -- for this text's walks alone
set_option linter.unusedVariables false
set_option linter.unusedSimpArgs false
abbrev zq9_0 : Array Bool := #[false, false, false, false, false, false, false, false, false, false, false, false, false, false]
abbrev zq9_1 : Array Bool := #[true, false, false, false, false, false, false, false, false, false, false, false, false, false]
abbrev zq9_2 : Array Bool := #[true, true, false, false, false, false, false, false, false, false, false, false, false, false]
abbrev zq9_3 : Array Bool := #[true, true, true, false, false, false, false, false, false, false, false, false, false, false]
abbrev zq9_4 : Array Bool := #[true, true, true, true, false, false, false, false, false, false, false, false, false, false]
abbrev zq9_5 : Array Bool := #[true, true, true, true, true, false, false, false, false, false, false, false, false, false]
abbrev zq9_6 : Array Bool := #[true, true, true, true, true, false, false, false, true, false, false, false, false, false]
abbrev zq9_7 : Array Bool := #[true, true, true, true, true, false, false, false, true, true, false, false, false, false]
abbrev zq9_8 : Array Bool := #[true, true, true, true, true, false, false, false, true, true, true, false, false, false]
abbrev zq9_9 : Array Bool := #[true, true, true, true, true, true, false, false, true, true, true, false, false, false]
abbrev zq9_10 : Array Bool := #[true, true, true, true, true, true, false, false, true, true, true, true, false, false]
abbrev zq9_11 : Array Bool := #[true, true, true, true, true, true, true, false, true, true, true, true, false, false]
abbrev zq9_12 : Array Bool := #[true, true, true, true, true, true, true, true, true, true, true, true, false, false]
abbrev zq9_13 : Array Bool := #[true, true, true, true, true, true, true, true, true, true, true, true, true, false]
abbrev zq9_14 : Array Bool := #[true, true, true, true, true, true, true, true, true, true, true, true, true, true]
theorem zR9 {p q : Prop} (x : q) (h : q → p := by intro h; (with_reducible repeat (first | apply Kd.R_alloc | apply Kd.R_drewN | apply Kd.R_drew)); exact h) : p := h x
theorem zA9 {p : Prop} [Decidable p] (h : decide p = true := by first | (with_reducible assumption) | assumption) : p := of_decide_eq_true h
theorem zT9 {p : Prop} (h : p := by (try simp only [List.map_toArray, List.map_cons, List.map_nil]); first | done | rfl | (simp only [List.length_drop, List.length_take]; rfl)) : p := h
theorem zC9 {p q : Prop} (x : q) (h : q → p := by intro h; repeat (first | exact h | (with_reducible refine Kd.C_alloc ?_ _) | (with_reducible refine Kd.C_drewN ?_ _) | (with_reducible refine Kd.C_drew ?_))) : p := h x
theorem zV9 {a b : Act} (h : a = b := by simp only [Act.put, List.setIfInBounds_toArray, List.set_cons_zero, List.set_cons_succ, i64_w, i32_w]; rfl) : a = b := h
theorem zE9 {p : Prop} (h : p := by first | rfl | (simp [errW_none, errW_some] <;> rfl) | (simp [*, errW_none, errW_some] <;> rfl)) : p := h
theorem zB9_0 {p : Prop} (h : p := by repeat (first | (with_reducible first | exact HB.out | apply below_alloc | apply pw_below_drewN | apply below_drew1) | exact HB.out)) : p := h
theorem zB9_1 {p : Prop} (h : p := by repeat (first | (with_reducible first | exact HB1.out | apply below_alloc | apply pw_below_drewN | apply below_drew1 | refine below_set ?_ GE1.out) | exact HB1.out)) : p := h

/-! ### spec_LoopsFrom: function 20 -/
def spec_LoopsFrom.l0 : Nat → List Int → List Int → Int → Option (Bool)
 | 0, _, _, _ => none
 | k + 1, x0, x5, x6 => if x6 < (x5.length : Int) then (if 0 ≤ x6 then ((spec_NextOf.f k x0 (rd x5 x6)).bind fun t434 => ((spec_l23Marks.f k x0 t434).bind fun t437 => (if 0 ≤ (rd x5 x6) then (if (rd x5 x6) < (t437.length : Int) then (if rdOf false t437 (rd x5 x6) = true then (some true) else (spec_LoopsFrom.l0 k x0 x5 (wrap64 (x6 + 1)))) else (none)) else (none)))) else (none)) else (some false)
def spec_LoopsFrom.f (k : Nat) (l0 : List Int) (a1 : Int) : Option (Bool) := (spec_ReachOf.f k l0 a1).bind fun t430 => (spec_LoopsFrom.l0 k l0 t430 0)
theorem spec_LoopsFrom.mono_l : ∀ k, (∀ y0 y1 y2, LeO (spec_LoopsFrom.l0 k y0 y1 y2) (spec_LoopsFrom.l0 (k + 1) y0 y1 y2))
 | 0 => fun _ _ _ r h => by simp [spec_LoopsFrom.l0] at h
 | k + 1 => by
  have ih0 := spec_LoopsFrom.mono_l k
  ·intro y0 y1 y2
   unfold spec_LoopsFrom.l0
   repeat' first
   | (with_reducible exact ih0 _ _ _)
   | (with_reducible exact spec_NextOf.mono _ _ _)
   | (with_reducible exact spec_ReachOf.mono _ _ _)
   | (with_reducible exact spec_l23Marks.mono _ _ _)
   | (with_reducible exact LeO.refl _)
   | (with_reducible exact LeO.none _)
   | (with_reducible refine LeO.ite ?_ ?_)
   | (with_reducible refine LeO.bind ?_ (fun _ => ?_))
   | exact ih0 _ _ _
   | exact spec_NextOf.mono _ _ _
   | exact spec_ReachOf.mono _ _ _
   | exact spec_l23Marks.mono _ _ _
   | exact LeO.none _
   | refine LeO.ite ?_ ?_
   | refine LeO.bind ?_ (fun _ => ?_)
theorem spec_LoopsFrom.mono : ∀ a0 a1 k, LeO (spec_LoopsFrom.f k a0 a1) (spec_LoopsFrom.f (k + 1) a0 a1) := by
 intro a0 a1 k
 have ih0 := spec_LoopsFrom.mono_l k
 unfold spec_LoopsFrom.f
 repeat' first
   | (with_reducible exact ih0 _ _ _)
   | (with_reducible exact spec_NextOf.mono _ _ _)
   | (with_reducible exact spec_ReachOf.mono _ _ _)
   | (with_reducible exact spec_l23Marks.mono _ _ _)
   | (with_reducible exact LeO.refl _)
   | (with_reducible exact LeO.none _)
   | (with_reducible refine LeO.ite ?_ ?_)
   | (with_reducible refine LeO.bind ?_ (fun _ => ?_))
   | exact ih0 _ _ _
   | exact spec_NextOf.mono _ _ _
   | exact spec_ReachOf.mono _ _ _
   | exact spec_l23Marks.mono _ _ _
   | exact LeO.none _
   | refine LeO.ite ?_ ?_
   | refine LeO.bind ?_ (fun _ => ?_)
def spec_LoopsFrom.T5 : Bool × List (List Nat × List Nat) := (true, [([], []), ([], []), ([], []), ([], []), ([2, 3], [2, 3]), ([4], [4]), ([1, 5], [1, 5]), ([0, 6, 6], [0, 6]), ([], []), ([], []), ([8, 9], [8, 9]), ([10], [10]), ([7, 11], [7, 11]), ([12], [12])])
def spec_LoopsFrom.B5 : List Nat := [0, 0, 0, 0, 12, 28, 62, 127, 0, 0, 768, 1792, 4095, 8191]
theorem spec_LoopsFrom.tab5 : rtab .any (opsOf Try.f20 5) = spec_LoopsFrom.T5 := by kernel_rfl
theorem spec_LoopsFrom.bits5 : waitsOk spec_LoopsFrom.T5.2 spec_LoopsFrom.B5 = true := by kernel_rfl
set_option maxHeartbeats 8000000 in
set_option maxRecDepth 100000 in
theorem spec_LoopsFrom.calls (k : Nat) (A0 : Option Addr) (c0 : Nat) (l0 : List Int) (a1 : Int) (r : Bool) (w : World) (hr0 : Kd.C (Kd.int .i64) w A0 l0.length l0) (hc0 : l0.length ≤ c0) (h : spec_LoopsFrom.f k l0 a1 = some r) :
  Calls Try.prog 20 #[.slice A0 l0.length c0, .int .i64 a1] w fun e w' => e = .returned (.bool r) ∧ Below w.heap.size w w' := by
 have HR0 := Aside0.mk hr0
 have HC0 := Aside0.mk hc0
 clear hr0 hc0
 have HB := Aside0.mk (Below.refl w.heap.size w)
 have H : ((spec_ReachOf.f k l0 a1).bind fun t430 => (spec_LoopsFrom.l0 k l0 t430 0)) = some r := h
 clear h
 replace H := Option.bind_eq_some_iff.mp H
 obtain ⟨t430, A30, H⟩ := H
 replace H : (spec_LoopsFrom.l0 k l0 t430 0) = some r := H
 have A3 := Aside0.mk A30
 clear A30
 have H' := Aside0.mk H
 clear H
 go_enter Try.func20, Try.ntmps20
 go_wp2_with (first | ((with_reducible refine gate_callee (f := 14) rfl ?_); refine goesL_ (some 9) rfl rfl Try.func14 (by kernel_rfl) rfl #[.slice A0 l0.length c0, .int .i64 a1] rfl zT9 ?_; (with_reducible refine (spec_ReachOf.calls k _ _ l0 a1 t430 _ ?side1 ?side2 A3.out).mono ?_); (case side1 => exact zC9 HR0.out); (case side2 => exact HC0.out); rintro e w4 ⟨v431, rfl, ho0, hb⟩; refine ⟨_, rfl, ?_⟩; have n0_ := Aside0.mk (Kd.R_lower ho0 (below_size (zB9_0))); have n1_ := Aside0.mk (below_step (zB9_0) hb); clear HB; have HO432 := n0_; have HB := n1_; clear n0_ n1_; (try clear hb); (try clear hb2); (try clear hk); (try clear hi); (try clear ho0)))
 go_loopg [6] k (fun kq v6 w' => ∃ (x6_1 : Int), v6 = .int .i64 x6_1 ∧ Aside0 (spec_LoopsFrom.l0 kq l0 t430 x6_1 = some r) ∧ Aside0 (kq ≤ k) ∧ Aside0 (Kd.R (Kd.int .i64) 3 w' w.heap.size (fun _ => True) v431 t430) ∧ Aside0 (Below w.heap.size w w'))
 case atStart => exact ⟨(0), (by first | rfl | (simp; done) | (simp [*]; done)), H', ⟨Nat.le_refl _⟩, ⟨zR9 HO432.out⟩, ⟨zB9_0⟩⟩
 case round =>
  clear H'
  try clear c1
  try clear c2
  try clear p2
  obtain ⟨x6_1, rfl, HA, HK1, HO_5, HB⟩ := hrel
  cases gk with
  | zero => exact absurd HA.out (by simp [spec_LoopsFrom.l0])
  | succ k1 =>
   have H := HA.out
   clear HA
   simp only [spec_LoopsFrom.l0] at H
   by_cases c5 : x6_1 < (t430.length : Int)
   rotate_left
   ·rw [if_neg c5] at H
    have c5b0 : decide (x6_1 < (t430.length : Int)) = false := decide_eq_false c5
    clear c5
    obtain rfl := Option.some.inj H
    obtain ⟨Ao25, co25, eo25⟩ := Kd.R_slice HO_5.out
    subst eo25
    go_wp2
    go_ret
    exact ⟨zE9, zB9_0⟩
   rw [if_pos c5] at H
   have c5b0 : decide (x6_1 < (t430.length : Int)) = true := decide_eq_true c5
   clear c5
   by_cases c6 : 0 ≤ x6_1
   rotate_left
   ·rw [if_neg c6] at H
    exact absurd H (by simp)
   rw [if_pos c6] at H
   have c6b0 : decide (0 ≤ x6_1) = true := decide_eq_true c6
   clear c6
   replace H := Option.bind_eq_some_iff.mp H
   obtain ⟨t434, A70, H⟩ := H
   replace H : ((spec_l23Marks.f k1 l0 t434).bind fun t437 => (if 0 ≤ (rd t430 x6_1) then (if (rd t430 x6_1) < (t437.length : Int) then (if rdOf false t437 (rd t430 x6_1) = true then (some true) else (spec_LoopsFrom.l0 k1 l0 t430 (wrap64 (x6_1 + 1)))) else (none)) else (none))) = some r := H
   have A7 := Aside0.mk A70
   clear A70
   replace H := Option.bind_eq_some_iff.mp H
   obtain ⟨t437, A80, H⟩ := H
   replace H : (if 0 ≤ (rd t430 x6_1) then (if (rd t430 x6_1) < (t437.length : Int) then (if rdOf false t437 (rd t430 x6_1) = true then (some true) else (spec_LoopsFrom.l0 k1 l0 t430 (wrap64 (x6_1 + 1)))) else (none)) else (none)) = some r := H
   have A8 := Aside0.mk A80
   clear A80
   by_cases c9 : 0 ≤ (rd t430 x6_1)
   rotate_left
   ·rw [if_neg c9] at H
    exact absurd H (by simp)
   rw [if_pos c9] at H
   have c9b0 : decide (0 ≤ (rd t430 x6_1)) = true := decide_eq_true c9
   clear c9
   by_cases c10 : (rd t430 x6_1) < (t437.length : Int)
   rotate_left
   ·rw [if_neg c10] at H
    exact absurd H (by simp)
   rw [if_pos c10] at H
   have c10b0 : decide ((rd t430 x6_1) < (t437.length : Int)) = true := decide_eq_true c10
   clear c10
   obtain ⟨bq11, hbq11⟩ : ∃ b_ : Bool, b_ = (rdOf false t437 (rd t430 x6_1)) := ⟨_, rfl⟩
   replace H : (if bq11 = true then (some true) else (spec_LoopsFrom.l0 k1 l0 t430 (wrap64 (x6_1 + 1)))) = some r := by rw [← hbq11] at H; exact H
   have Nbq11 := Aside0.mk hbq11
   clear hbq11
   by_cases c12 : bq11 = true
   ·subst c12
    have H1 : (some true) = some r := by rw [if_pos rfl] at H; exact H
    clear H
    have H := H1
    clear H1
    obtain rfl := Option.some.inj H
    obtain ⟨Ao13, co13, eo13⟩ := Kd.R_slice HO_5.out
    subst eo13
    try go_wp2
    have n0_ := Aside0.mk (Kd.R_drew HO_5.out)
    have n1_ := Aside0.mk (below_drew1 HB.out)
    clear HO_5 HB
    have HO_5 := n0_
    have HB := n1_
    clear n0_ n1_
    have p433 : 0 ≤ (x6_1 : Int) := zA9
    have q433 : x6_1 < (t430.length : Int) := zA9
    obtain ⟨ad433, e433, hx433_0⟩ := Kd.at_int (Kd.R_reads' HO_5.out).2.2 x6_1 p433 q433
    cases e433
    replace p433 := eq_true p433
    replace q433 := eq_true q433
    have p440 : 0 ≤ (x6_1 : Int) := zA9
    have q440 : x6_1 < (t430.length : Int) := zA9
    obtain ⟨ad440, e440, hx440_0⟩ := Kd.at_int (Kd.R_reads' HO_5.out).2.2 x6_1 p440 q440
    obtain rfl : ad433 = ad440 := (by injection e440)
    replace p440 := eq_true p440
    replace q440 := eq_true q440
    refine start_ (n := 14) (S := fun w' => w'.cell? (ad433.add (x6_1).toNat) = some (.int .i64 (rd t430 x6_1)) ∧ w'.cell? (ad433.add (x6_1).toNat) = some (.int .i64 (rd t430 x6_1))) (ds := []) zq9_0 (by kernel_rfl) rfl rfl ⟨hx433_0, hx440_0⟩ (fun hHeld => ?_); refine with_tabW spec_LoopsFrom.tab5 spec_LoopsFrom.bits5 (fun HT_ HW_ => ?_)
    generalize wr.drew = w14 at HO_5 HB hx433_0 hx440_0 hHeld ⊢
    refine pure_ (i := 0) (N := some 16) (v := ?_) (a' := ?_) zq9_1 rfl rfl (any_of HT_.out (by kernel_rfl)) (fun _ _ _ h => h) (Or.inl ⟨by rfl, ?_⟩) ?_ ?_
    rotate_left
    ·intro w'
     go_simp
     with_reducible rfl
    rotate_left
    ·exact zV9
    refine pure_ (i := 1) (N := some 17) (v := ?_) (a' := ?_) zq9_2 rfl rfl (any_of HT_.out (by kernel_rfl)) (fun _ _ _ h => h) (Or.inl ⟨by rfl, ?_⟩) ?_ ?_
    rotate_left
    ·intro w'
     go_simp
     with_reducible rfl
    rotate_left
    ·exact zV9
    refine pure_ (i := 2) (N := some 18) (v := ?_) (a' := ?_) zq9_3 rfl rfl (any_of HT_.out (by kernel_rfl)) (fun _ _ _ h => h) (Or.inl ⟨by rfl, ?_⟩) ?_ ?_
    rotate_left
    ·intro w'
     go_simp
     with_reducible rfl
    rotate_left
    ·exact zV9
    refine pure_ (i := 3) (N := some 19) (v := ?_) (a' := ?_) zq9_4 rfl rfl (any_of HT_.out (by kernel_rfl)) (fun _ _ _ h => h) (Or.inl ⟨by rfl, ?_⟩) ?_ ?_
    rotate_left
    ·intro w'
     go_simp
     with_reducible rfl
    rotate_left
    ·exact zV9
    refine pure_ (i := 4) (N := some 20) (v := ?_) (a' := ?_) zq9_5 rfl rfl (any_of HT_.out (by kernel_rfl)) (fun _ _ _ h => h) (Or.inl ⟨by rfl, ?_⟩) ?_ ?_
    rotate_left
    ·intro w'
     go_simp
     with_reducible rfl
    rotate_left
    ·exact zV9
    refine pure_ (i := 8) (N := some 24) (v := ?_) (a' := ?_) zq9_6 rfl rfl (any_of HT_.out (by kernel_rfl)) (fun _ _ _ h => h) (Or.inl ⟨by rfl, ?_⟩) ?_ ?_
    rotate_left
    ·intro w'
     go_simp
     with_reducible rfl
    rotate_left
    ·exact zV9
    refine pure_ (i := 9) (N := some 25) (v := ?_) (a' := ?_) zq9_7 rfl rfl (any_of HT_.out (by kernel_rfl)) (fun _ _ _ h => h) (Or.inl ⟨by rfl, ?_⟩) ?_ ?_
    rotate_left
    ·intro w'
     go_simp
     with_reducible rfl
    rotate_left
    ·exact zV9
    refine pure_ (i := 10) (N := some 26) (v := ?_) (a' := ?_) zq9_8 rfl rfl (any_of HT_.out (by kernel_rfl)) (fun _ _ _ h => h) (Or.inl ⟨by rfl, ?_⟩) ?_ ?_
    rotate_left
    ·intro w'
     go_simp
     with_reducible rfl
    rotate_left
    ·exact zV9
    refine take_ (i := 5) (N := some 21) (v := ?_) (a' := ?_) zq9_9 rfl rfl (take_ofW HT_.out HW_.out (by kernel_rfl)) (fun _ _ _ h => h) (Or.inl ⟨by rfl, ?_⟩) hHeld ?_ ?_
    rotate_left
    ·rintro w' ⟨s0, s1⟩
     go_simp
     with_reducible rfl
    rotate_left
    ·exact zV9
    refine take_ (i := 11) (N := some 27) (v := ?_) (a' := ?_) zq9_10 rfl rfl (take_ofW HT_.out HW_.out (by kernel_rfl)) (fun _ _ _ h => h) (Or.inl ⟨by rfl, ?_⟩) hHeld ?_ ?_
    rotate_left
    ·rintro w' ⟨s0, s1⟩
     go_simp
     with_reducible rfl
    rotate_left
    ·exact zV9
    refine one_ (i := 6) (N := some 22) zq9_11 rfl rfl (one_of HT_.out (by kernel_rfl)) (by decide) (fun K hK => ?_)
    refine goes_ Try.func16 (by kernel_rfl) rfl #[.slice A0 l0.length c0, .int .i64 (rd t430 x6_1)] (by rfl) rfl rfl zT9 ?_
    with_reducible refine (spec_NextOf.calls k1 _ _ l0 (rd t430 x6_1) t434 _ ?side1 ?side2 A7.out).mono ?_
    (case side1 => exact zC9 (Kd.C_below HR0.out HB.out))
    (case side2 => exact HC0.out)
    rintro e w15 ⟨v435, rfl, ho0, hb⟩
    have HS0_ := (hb.cell (World.block_lt_of_cell? _ _ (hHeld.1))).trans (hHeld.1)
    have HS1_ := (hb.cell (World.block_lt_of_cell? _ _ (hHeld.2))).trans (hHeld.2)
    refine ⟨_, rfl, ?_⟩
    have n0_ := Aside0.mk (Kd.R_elder' (zR9 HO_5.out) (Kd.R_base ho0) hb)
    have n1_ := Aside0.mk (Kd.R_lower (Kd.R_new' ho0 (Kd.R_lt (zR9 HO_5.out))) (below_size (zB9_0)))
    have n2_ := Aside0.mk (below_step (zB9_0) hb)
    clear HO_5 HB
    have HO_5 := n0_
    have HO436 := n1_
    have HB := n2_
    clear n0_ n1_ n2_
    (try clear hb)
    (try clear hb2)
    (try clear hk)
    (try clear hi)
    (try clear ho0)
    obtain ⟨Ao16, co16, eo16⟩ := Kd.R_slice HO436.out
    (first | subst eo16 | (injection eo16 with f1_ f2_ f3_; have f4_ := f1_.symm; have f5_ := f3_.symm; clear f1_ f2_ f3_; subst f4_; subst f5_))
    refine hK.out _ _ ⟨HS0_, HS1_⟩ (fun hHeld => ?_)
    clear hK K
    refine norm_ (a' := ?_) ?_ ?_
    rotate_left
    ·show Act.put _ (some 22) _ = _
     simp only [Act.put, List.setIfInBounds_toArray, List.set_cons_zero, List.set_cons_succ, i64_w, i32_w]
     rfl
    refine one_ (i := 7) (N := some 23) zq9_12 rfl rfl (one_of HT_.out (by kernel_rfl)) (by decide) (fun K hK => ?_)
    refine goes_ Try.func56 (by kernel_rfl) rfl #[.slice A0 l0.length c0, .slice Ao16 t434.length co16] (by rfl) rfl rfl zT9 ?_
    with_reducible refine (spec_l23Marks.calls k1 _ _ l0 _ _ t434 t437 _ ?side1 ?side2 ?side3 ?side4 A8.out).mono ?_
    (case side1 => exact zC9 (Kd.C_below HR0.out HB.out))
    (case side2 => exact HC0.out)
    (case side3 => exact zC9 (Kd.R_reads' HO436.out).2.2)
    (case side4 => exact (Kd.R_reads' HO436.out).2.1)
    rintro e w17 ⟨v438, rfl, ho0, hb⟩
    have HS0_ := (hb.cell (World.block_lt_of_cell? _ _ (hHeld.1))).trans (hHeld.1)
    have HS1_ := (hb.cell (World.block_lt_of_cell? _ _ (hHeld.2))).trans (hHeld.2)
    refine ⟨_, rfl, ?_⟩
    have n0_ := Aside0.mk (Kd.R_below (zR9 HO_5.out) hb)
    have n1_ := Aside0.mk (Kd.R_below (zR9 HO436.out) hb)
    have n2_ := Aside0.mk (Kd.R_lower ho0 (below_size (zB9_0)))
    have n3_ := Aside0.mk (below_step (zB9_0) hb)
    clear HO_5 HO436 HB
    have HO_5 := n0_
    have HO436 := n1_
    have HO439 := n2_
    have HB := n3_
    clear n0_ n1_ n2_ n3_
    (try clear hb)
    (try clear hb2)
    (try clear hk)
    (try clear hi)
    (try clear ho0)
    obtain ⟨Ao18, co18, eo18⟩ := Kd.R_slice HO439.out
    (first | subst eo18 | (injection eo18 with f1_ f2_ f3_; have f4_ := f1_.symm; have f5_ := f3_.symm; clear f1_ f2_ f3_; subst f4_; subst f5_))
    have p441 : 0 ≤ ((rd t430 x6_1) : Int) := zA9
    have q441 : (rd t430 x6_1) < (t437.length : Int) := zA9
    obtain ⟨ad441, e441, hx441_0⟩ := Kd.at_bool (Kd.R_reads' HO439.out).2.2 (rd t430 x6_1) p441 q441
    (try rw [← Nbq11.out] at hx441_0)
    cases e441
    replace p441 := eq_true p441
    replace q441 := eq_true q441
    refine hK.out _ _ ⟨HS0_, HS1_⟩ (fun hHeld => ?_)
    clear hK K
    refine norm_ (a' := ?_) ?_ ?_
    rotate_left
    ·show Act.put _ (some 23) _ = _
     simp only [Act.put, List.setIfInBounds_toArray, List.set_cons_zero, List.set_cons_succ, i64_w, i32_w]
     rfl
    refine pure_ (i := 12) (N := some 28) (v := ?_) (a' := ?_) zq9_13 rfl rfl (any_of HT_.out (by kernel_rfl)) (fun _ _ _ h => h) (Or.inl ⟨by rfl, ?_⟩) ?_ ?_
    rotate_left
    ·intro w'
     go_simp
     with_reducible rfl
    rotate_left
    ·exact zV9
    refine one_ (i := 13) (N := some 29) zq9_14 rfl rfl (one_of HT_.out (by kernel_rfl)) (by decide) (fun K hK => ?_)
    rw [if_pos (by rfl)]
    go_simp
    refine hK.out _ _ ⟨hHeld.1, hHeld.2⟩ (fun hHeld => ?_)
    clear hK K
    refine done_ (done_of HT_.out (by kernel_rfl)) ?_
    try go_wp2
    go_ret
    exact ⟨zE9, zB9_0⟩
   replace c12 := Bool.eq_false_iff.mpr c12
   subst c12
   have H1 : (spec_LoopsFrom.l0 k1 l0 t430 (wrap64 (x6_1 + 1))) = some r := by rw [if_neg (show ¬ (false = true) by decide)] at H; exact H
   clear H
   have H := H1
   clear H1
   have H' := Aside0.mk H
   clear H
   obtain ⟨Ao19, co19, eo19⟩ := Kd.R_slice HO_5.out
   subst eo19
   try go_wp2
   have n0_ := Aside0.mk (Kd.R_drew HO_5.out)
   have n1_ := Aside0.mk (below_drew1 HB.out)
   clear HO_5 HB
   have HO_5 := n0_
   have HB := n1_
   clear n0_ n1_
   have p433 : 0 ≤ (x6_1 : Int) := zA9
   have q433 : x6_1 < (t430.length : Int) := zA9
   obtain ⟨ad433, e433, hx433_0⟩ := Kd.at_int (Kd.R_reads' HO_5.out).2.2 x6_1 p433 q433
   cases e433
   replace p433 := eq_true p433
   replace q433 := eq_true q433
   have p440 : 0 ≤ (x6_1 : Int) := zA9
   have q440 : x6_1 < (t430.length : Int) := zA9
   obtain ⟨ad440, e440, hx440_0⟩ := Kd.at_int (Kd.R_reads' HO_5.out).2.2 x6_1 p440 q440
   obtain rfl : ad433 = ad440 := (by injection e440)
   replace p440 := eq_true p440
   replace q440 := eq_true q440
   refine start_ (n := 14) (S := fun w' => w'.cell? (ad433.add (x6_1).toNat) = some (.int .i64 (rd t430 x6_1)) ∧ w'.cell? (ad433.add (x6_1).toNat) = some (.int .i64 (rd t430 x6_1))) (ds := []) zq9_0 (by kernel_rfl) rfl rfl ⟨hx433_0, hx440_0⟩ (fun hHeld => ?_); refine with_tabW spec_LoopsFrom.tab5 spec_LoopsFrom.bits5 (fun HT_ HW_ => ?_)
   generalize wr.drew = w20 at HO_5 HB hx433_0 hx440_0 hHeld ⊢
   refine pure_ (i := 0) (N := some 16) (v := ?_) (a' := ?_) zq9_1 rfl rfl (any_of HT_.out (by kernel_rfl)) (fun _ _ _ h => h) (Or.inl ⟨by rfl, ?_⟩) ?_ ?_
   rotate_left
   ·intro w'
    go_simp
    with_reducible rfl
   rotate_left
   ·exact zV9
   refine pure_ (i := 1) (N := some 17) (v := ?_) (a' := ?_) zq9_2 rfl rfl (any_of HT_.out (by kernel_rfl)) (fun _ _ _ h => h) (Or.inl ⟨by rfl, ?_⟩) ?_ ?_
   rotate_left
   ·intro w'
    go_simp
    with_reducible rfl
   rotate_left
   ·exact zV9
   refine pure_ (i := 2) (N := some 18) (v := ?_) (a' := ?_) zq9_3 rfl rfl (any_of HT_.out (by kernel_rfl)) (fun _ _ _ h => h) (Or.inl ⟨by rfl, ?_⟩) ?_ ?_
   rotate_left
   ·intro w'
    go_simp
    with_reducible rfl
   rotate_left
   ·exact zV9
   refine pure_ (i := 3) (N := some 19) (v := ?_) (a' := ?_) zq9_4 rfl rfl (any_of HT_.out (by kernel_rfl)) (fun _ _ _ h => h) (Or.inl ⟨by rfl, ?_⟩) ?_ ?_
   rotate_left
   ·intro w'
    go_simp
    with_reducible rfl
   rotate_left
   ·exact zV9
   refine pure_ (i := 4) (N := some 20) (v := ?_) (a' := ?_) zq9_5 rfl rfl (any_of HT_.out (by kernel_rfl)) (fun _ _ _ h => h) (Or.inl ⟨by rfl, ?_⟩) ?_ ?_
   rotate_left
   ·intro w'
    go_simp
    with_reducible rfl
   rotate_left
   ·exact zV9
   refine pure_ (i := 8) (N := some 24) (v := ?_) (a' := ?_) zq9_6 rfl rfl (any_of HT_.out (by kernel_rfl)) (fun _ _ _ h => h) (Or.inl ⟨by rfl, ?_⟩) ?_ ?_
   rotate_left
   ·intro w'
    go_simp
    with_reducible rfl
   rotate_left
   ·exact zV9
   refine pure_ (i := 9) (N := some 25) (v := ?_) (a' := ?_) zq9_7 rfl rfl (any_of HT_.out (by kernel_rfl)) (fun _ _ _ h => h) (Or.inl ⟨by rfl, ?_⟩) ?_ ?_
   rotate_left
   ·intro w'
    go_simp
    with_reducible rfl
   rotate_left
   ·exact zV9
   refine pure_ (i := 10) (N := some 26) (v := ?_) (a' := ?_) zq9_8 rfl rfl (any_of HT_.out (by kernel_rfl)) (fun _ _ _ h => h) (Or.inl ⟨by rfl, ?_⟩) ?_ ?_
   rotate_left
   ·intro w'
    go_simp
    with_reducible rfl
   rotate_left
   ·exact zV9
   refine take_ (i := 5) (N := some 21) (v := ?_) (a' := ?_) zq9_9 rfl rfl (take_ofW HT_.out HW_.out (by kernel_rfl)) (fun _ _ _ h => h) (Or.inl ⟨by rfl, ?_⟩) hHeld ?_ ?_
   rotate_left
   ·rintro w' ⟨s0, s1⟩
    go_simp
    with_reducible rfl
   rotate_left
   ·exact zV9
   refine take_ (i := 11) (N := some 27) (v := ?_) (a' := ?_) zq9_10 rfl rfl (take_ofW HT_.out HW_.out (by kernel_rfl)) (fun _ _ _ h => h) (Or.inl ⟨by rfl, ?_⟩) hHeld ?_ ?_
   rotate_left
   ·rintro w' ⟨s0, s1⟩
    go_simp
    with_reducible rfl
   rotate_left
   ·exact zV9
   refine one_ (i := 6) (N := some 22) zq9_11 rfl rfl (one_of HT_.out (by kernel_rfl)) (by decide) (fun K hK => ?_)
   refine goes_ Try.func16 (by kernel_rfl) rfl #[.slice A0 l0.length c0, .int .i64 (rd t430 x6_1)] (by rfl) rfl rfl zT9 ?_
   with_reducible refine (spec_NextOf.calls k1 _ _ l0 (rd t430 x6_1) t434 _ ?side1 ?side2 A7.out).mono ?_
   (case side1 => exact zC9 (Kd.C_below HR0.out HB.out))
   (case side2 => exact HC0.out)
   rintro e w21 ⟨v435, rfl, ho0, hb⟩
   have HS0_ := (hb.cell (World.block_lt_of_cell? _ _ (hHeld.1))).trans (hHeld.1)
   have HS1_ := (hb.cell (World.block_lt_of_cell? _ _ (hHeld.2))).trans (hHeld.2)
   refine ⟨_, rfl, ?_⟩
   have n0_ := Aside0.mk (Kd.R_elder' (zR9 HO_5.out) (Kd.R_base ho0) hb)
   have n1_ := Aside0.mk (Kd.R_lower (Kd.R_new' ho0 (Kd.R_lt (zR9 HO_5.out))) (below_size (zB9_0)))
   have n2_ := Aside0.mk (below_step (zB9_0) hb)
   clear HO_5 HB
   have HO_5 := n0_
   have HO436 := n1_
   have HB := n2_
   clear n0_ n1_ n2_
   (try clear hb)
   (try clear hb2)
   (try clear hk)
   (try clear hi)
   (try clear ho0)
   obtain ⟨Ao22, co22, eo22⟩ := Kd.R_slice HO436.out
   (first | subst eo22 | (injection eo22 with f1_ f2_ f3_; have f4_ := f1_.symm; have f5_ := f3_.symm; clear f1_ f2_ f3_; subst f4_; subst f5_))
   refine hK.out _ _ ⟨HS0_, HS1_⟩ (fun hHeld => ?_)
   clear hK K
   refine norm_ (a' := ?_) ?_ ?_
   rotate_left
   ·show Act.put _ (some 22) _ = _
    simp only [Act.put, List.setIfInBounds_toArray, List.set_cons_zero, List.set_cons_succ, i64_w, i32_w]
    rfl
   refine one_ (i := 7) (N := some 23) zq9_12 rfl rfl (one_of HT_.out (by kernel_rfl)) (by decide) (fun K hK => ?_)
   refine goes_ Try.func56 (by kernel_rfl) rfl #[.slice A0 l0.length c0, .slice Ao22 t434.length co22] (by rfl) rfl rfl zT9 ?_
   with_reducible refine (spec_l23Marks.calls k1 _ _ l0 _ _ t434 t437 _ ?side1 ?side2 ?side3 ?side4 A8.out).mono ?_
   (case side1 => exact zC9 (Kd.C_below HR0.out HB.out))
   (case side2 => exact HC0.out)
   (case side3 => exact zC9 (Kd.R_reads' HO436.out).2.2)
   (case side4 => exact (Kd.R_reads' HO436.out).2.1)
   rintro e w23 ⟨v438, rfl, ho0, hb⟩
   have HS0_ := (hb.cell (World.block_lt_of_cell? _ _ (hHeld.1))).trans (hHeld.1)
   have HS1_ := (hb.cell (World.block_lt_of_cell? _ _ (hHeld.2))).trans (hHeld.2)
   refine ⟨_, rfl, ?_⟩
   have n0_ := Aside0.mk (Kd.R_below (zR9 HO_5.out) hb)
   have n1_ := Aside0.mk (Kd.R_below (zR9 HO436.out) hb)
   have n2_ := Aside0.mk (Kd.R_lower ho0 (below_size (zB9_0)))
   have n3_ := Aside0.mk (below_step (zB9_0) hb)
   clear HO_5 HO436 HB
   have HO_5 := n0_
   have HO436 := n1_
   have HO439 := n2_
   have HB := n3_
   clear n0_ n1_ n2_ n3_
   (try clear hb)
   (try clear hb2)
   (try clear hk)
   (try clear hi)
   (try clear ho0)
   obtain ⟨Ao24, co24, eo24⟩ := Kd.R_slice HO439.out
   (first | subst eo24 | (injection eo24 with f1_ f2_ f3_; have f4_ := f1_.symm; have f5_ := f3_.symm; clear f1_ f2_ f3_; subst f4_; subst f5_))
   have p441 : 0 ≤ ((rd t430 x6_1) : Int) := zA9
   have q441 : (rd t430 x6_1) < (t437.length : Int) := zA9
   obtain ⟨ad441, e441, hx441_0⟩ := Kd.at_bool (Kd.R_reads' HO439.out).2.2 (rd t430 x6_1) p441 q441
   (try rw [← Nbq11.out] at hx441_0)
   cases e441
   replace p441 := eq_true p441
   replace q441 := eq_true q441
   refine hK.out _ _ ⟨HS0_, HS1_⟩ (fun hHeld => ?_)
   clear hK K
   refine norm_ (a' := ?_) ?_ ?_
   rotate_left
   ·show Act.put _ (some 23) _ = _
    simp only [Act.put, List.setIfInBounds_toArray, List.set_cons_zero, List.set_cons_succ, i64_w, i32_w]
    rfl
   refine pure_ (i := 12) (N := some 28) (v := ?_) (a' := ?_) zq9_13 rfl rfl (any_of HT_.out (by kernel_rfl)) (fun _ _ _ h => h) (Or.inl ⟨by rfl, ?_⟩) ?_ ?_
   rotate_left
   ·intro w'
    go_simp
    with_reducible rfl
   rotate_left
   ·exact zV9
   refine one_ (i := 13) (N := some 29) zq9_14 rfl rfl (one_of HT_.out (by kernel_rfl)) (by decide) (fun K hK => ?_)
   rw [if_pos (by rfl)]
   go_simp
   refine hK.out _ _ ⟨hHeld.1, hHeld.2⟩ (fun hHeld => ?_)
   clear hK K
   refine done_ (done_of HT_.out (by kernel_rfl)) ?_
   try go_wp2
   go_roundg k1
   case measure => have := HK1.out; omega
   case rel => exact ⟨(wrap64 (x6_1 + 1)), (by first | rfl | (simp; done) | (simp [*]; done)), H', ⟨by have := HK1.out; omega⟩, ⟨by (with_reducible repeat (first | apply Kd.R_alloc | apply Kd.R_drewN | apply Kd.R_drew)); exact Kd.R_mono HO_5.out (fun _ hk => trivial)⟩, ⟨zB9_0⟩⟩

-- NOT PRINTED: function 65 (impl_WritesFrom_1)

/-! ### impl_WritesFrom: function 21 -/
/-- The first place whose number passes. -/
def findJ (p : Int → Option Bool) : List Int → Nat → Option Int
 | [], _ => some (-1)
 | c :: r, i => (p c).bind fun b => if b = true then some (i : Int) else findJ p r (i + 1)
theorem findJ_drop (p : Int → Option Bool) (l : List Int) (i : Nat) (h : i < l.length) : findJ p (l.drop i) i = (p (rd l (i : Int))).bind fun b => if b = true then some (i : Int) else findJ p (l.drop (i + 1)) (i + 1) := by
 have e : rd l (i : Int) = l[i] := by unfold rd; simp [List.getD, h]
 rw [List.drop_eq_getElem_cons h, findJ, e]
theorem findJ_mono {p q : Int → Option Bool} (h : ∀ c, LeO (p c) (q c)) : ∀ (l : List Int) (i : Nat), LeO (findJ p l i) (findJ q l i)
 | [], _ => LeO.refl _
 | c :: r, i => by
  unfold findJ
  refine LeO.bind (h c) (fun b => ?_)
  refine LeO.ite (LeO.refl _) (findJ_mono h r (i + 1))
set_option maxHeartbeats 4000000 in
set_option maxRecDepth 100000 in
theorem wr_idx (p : Int → Option Bool) (A0 : Option Addr) (c0 : Nat) (l0 : List Int) (q1 : Value) (v : Int) (w : World) (hr0 : Kd.C (Kd.int .i64) w A0 l0.length l0) (hp : ∀ w1 : World, Below w.heap.size w w1 → ∀ (c : Int) (b : Bool), p c = some b → Calls Try.prog 65 #[.int .i64 c, q1] w1 fun e w' => e = .returned (.bool b) ∧ Below w1.heap.size w1 w') (h : findJ p l0 0 = some v) :
  Calls Try.prog 95 #[.slice A0 l0.length c0, .func (.func 65) #[] #[q1]] w fun e w' => e = .returned (.int .i64 v) ∧ Below w.heap.size w w' := by
 have HR0 := Aside0.mk hr0
 have HPP := Aside0.mk hp
 have HV := Aside0.mk h
 have HL := Aside0.mk (show l0.length ≤ 9223372036854775807 from hr0.2.1)
 clear hr0 hp h
 have HB := Aside0.mk (Below.refl w.heap.size w)
 go_enter Try.func95, Try.ntmps95
 go_wp2
 go_loopg [8] l0.length (fun kq v8 w' => ∃ i : Nat, v8 = .int .i64 i ∧ Aside0 (i + kq = l0.length) ∧ Aside0 (findJ p (l0.drop i) i = some v) ∧ Aside0 (Below w.heap.size w w'))
 case atStart => exact ⟨0, rfl, ⟨by omega⟩, ⟨HV.out⟩, ⟨HB.out⟩⟩
 case round =>
  try clear p2
  clear HB
  obtain ⟨i, rfl, HI, HP, HB⟩ := hrel
  by_cases hi : i < l0.length
  rotate_left
  ·have d0 : decide ((i : Int) < (l0.length : Int)) = false := decide_eq_false (by omega)
   have hp := HP.out
   rw [List.drop_of_length_le (by omega)] at hp
   have HP' := Aside0.mk (Option.some.inj (show some (-1 : Int) = some v from hp))
   clear hp HP
   go_wp2_with fail
   go_ret
   exact ⟨by rw [← HP'.out]; rfl, zB9_0⟩
  have HI2 := Aside0.mk hi
  have d0 : decide ((i : Int) < (l0.length : Int)) = true := decide_eq_true (by omega)
  have hp := HP.out
  rw [findJ_drop p l0 i hi] at hp
  obtain ⟨b, hpb, hp⟩ := Option.bind_eq_some_iff.mp hp
  have AP := Aside0.mk hpb
  obtain ⟨ad, e0, hx0⟩ := Kd.at_int HR0.out (i : Int) (by omega) (by omega)
  cases e0
  replace hx0 := (HB.out.cell (World.block_lt_of_cell? w _ hx0)).trans hx0
  simp only [Int.toNat_natCast] at hx0
  have p1 : (0 ≤ (i : Int)) = True := eq_true (by omega)
  have p2' : ((i : Int) < (l0.length : Int)) = True := eq_true (by omega)
  cases b with
  | true =>
   have HP' := Aside0.mk (Option.some.inj hp)
   clear hp HP hpb
   go_wp2_with (first | (go_at_call 65; (refine (HPP.out _ HB.out (rd l0 (i : Int)) true AP.out).mono ?_); rintro e w8 ⟨rfl, hb⟩; have n0_ := Aside0.mk (below_step HB.out hb); clear HB; have HB := n0_; clear n0_; clear hb))
   go_ret
   exact ⟨by rw [← HP'.out]; rfl, zB9_0⟩
  | false =>
   have HP' := Aside0.mk (show findJ p (l0.drop (i + 1)) (i + 1) = some v from hp)
   clear hp HP hpb
   go_wp2_with (first | (go_at_call 65; (refine (HPP.out _ HB.out (rd l0 (i : Int)) false AP.out).mono ?_); rintro e w8 ⟨rfl, hb⟩; have n0_ := Aside0.mk (below_step HB.out hb); clear HB; have HB := n0_; clear n0_; clear hb))
   go_roundg (gk - 1)
   case rel => exact ⟨i + 1, congrArg (Value.int .i64) (by have h1_ := HI2.out; have h2_ := HL.out; show wrap64 ((i : Int) + 1) = ((i + 1 : Nat) : Int); unfold wrap64; omega), ⟨by have := HI.out; have := HI2.out; omega⟩, ⟨HP'.out⟩, ⟨HB.out⟩⟩
   all_goals (have := HI.out; have := HI2.out; omega)
set_option maxHeartbeats 4000000 in
set_option maxRecDepth 100000 in
theorem wr_has (p : Int → Option Bool) (A0 : Option Addr) (c0 : Nat) (l0 : List Int) (q1 : Value) (v : Int) (w : World) (hr0 : Kd.C (Kd.int .i64) w A0 l0.length l0) (hp : ∀ w1 : World, Below w.heap.size w w1 → ∀ (c : Int) (b : Bool), p c = some b → Calls Try.prog 65 #[.int .i64 c, q1] w1 fun e w' => e = .returned (.bool b) ∧ Below w1.heap.size w1 w') (h : findJ p l0 0 = some v) :
  Calls Try.prog 62 #[.slice A0 l0.length c0, .func (.func 65) #[] #[q1]] w fun e w' => e = .returned (.bool (decide (v ≥ 0))) ∧ Below w.heap.size w w' := by
 have HR0 := Aside0.mk hr0
 have HPP := Aside0.mk hp
 have HV := Aside0.mk h
 clear hr0 hp h
 have HB := Aside0.mk (Below.refl w.heap.size w)
 go_enter Try.func62, Try.ntmps62
 go_wp2_with (first
  | (go_at_call 95; (refine (wr_idx p A0 c0 l0 q1 v _ HR0.out HPP.out HV.out).mono ?_); rintro e w8 ⟨rfl, hb⟩; have n0_ := Aside0.mk (below_step HB.out hb); clear HB; have HB := n0_; clear n0_; clear hb))
 go_ret
 exact ⟨rfl, zB9_0⟩
/-- Does the instruction of a cell write. -/
def wrAt (m : List Int) (c : Int) : Option Bool := if 0 ≤ c ∧ c < (m.length : Int) then (impl_Decode.f (rd m c)).bind fun d => some (d.1 == 5 || d.1 == 6) else none
set_option maxHeartbeats 4000000 in
set_option maxRecDepth 100000 in
theorem wrAt_calls (g : Nat) (A0 : Option Addr) (c0 : Nat) (m : List Int) (c : Int) (b : Bool) (w : World) (hc : w.cell? ⟨g, 0, none⟩ = some (.slice A0 m.length c0)) (hr : Kd.C (Kd.int .i64) w A0 m.length m) (h : wrAt m c = some b) :
  Calls Try.prog 65 #[.int .i64 c, .pointer (some ⟨g, 0, none⟩)] w fun e w' => e = .returned (.bool b) ∧ Below w.heap.size w w' := by
 have hu := Try.underlying66
 unfold wrAt at h
 by_cases hi : 0 ≤ c ∧ c < (m.length : Int)
 rotate_left
 ·rw [if_neg hi] at h; cases h
 rw [if_pos hi] at h
 obtain ⟨⟨r1, r2, r3, r4, r5, r6⟩, hd, h⟩ := Option.bind_eq_some_iff.mp h
 have AD := Aside0.mk hd
 have hb_ : (r1 == 5 || r1 == 6) = b := Option.some.inj h
 have HBB := Aside0.mk hb_
 clear hd h hb_
 have HB := Aside0.mk (Below.refl w.heap.size w)
 obtain ⟨ad, e0, hx0⟩ := Kd.at_int hr c hi.1 hi.2
 cases e0
 have p1 : (0 ≤ c) = True := eq_true hi.1
 have p2 : (c < (m.length : Int)) = True := eq_true hi.2
 clear hr hi
 go_enter Try.func65, Try.ntmps65
 by_cases h5 : r1 = 5
 ·subst h5
  obtain rfl : true = b := by rw [← HBB.out]; rfl
  clear HBB
  go_wp2_with (first
   | (go_at_call 57; (refine (impl_Decode.calls (rd m c) 5 r2 r3 r4 r5 r6 _ AD.out).mono ?_); rintro e w8 ⟨rfl, hb⟩; have n0_ := Aside0.mk (below_step HB.out hb); clear HB; have HB := n0_; clear n0_; clear hb)
   | ((with_reducible refine gate_dst (N := 4) rfl ?_); refine box_event ?hg (N := 4) ?hd (cs := #[.int .i64 0, .int .i64 0, .int .i64 0, .int .i64 0, .int .i64 0]) (t := 66) ?hr ?_; (case hd => rfl); (case hg => rfl); (case hr => first | (go_simp; done) | (go_simp; rfl)); intro g1 hg w1 hbox hb; have BK1 := Aside0.mk hbox; have GE1 := Aside0.mk ((by rw [hg]; exact HB.out.size : w.heap.size ≤ g1)); have HB1 := Aside0.mk (below_step HB.out hb); clear hg hb hbox HB; have hz0 : w1.cell? ⟨g1, 0, none⟩ = some (.int .i64 0) := (blk_cell BK1.out 0).trans rfl; have hz1 : w1.cell? ⟨g1, 1, none⟩ = some (.int .i64 0) := (blk_cell BK1.out 1).trans rfl; have hz2 : w1.cell? ⟨g1, 2, none⟩ = some (.int .i64 0) := (blk_cell BK1.out 2).trans rfl; have hz3 : w1.cell? ⟨g1, 3, none⟩ = some (.int .i64 0) := (blk_cell BK1.out 3).trans rfl; have hz4 : w1.cell? ⟨g1, 4, none⟩ = some (.int .i64 0) := (blk_cell BK1.out 4).trans rfl; have hy0 := blk_frozen BK1.out 0; have hy1 := blk_frozen BK1.out 1; have hy2 := blk_frozen BK1.out 2; have hy3 := blk_frozen BK1.out 3; have hy4 := blk_frozen BK1.out 4))
  go_ret
  exact ⟨rfl, zB9_1⟩
 have d5 : (r1 == 5) = false := beq_eq_false_iff_ne.mpr h5
 clear h5
 obtain rfl : (r1 == 6) = b := by rw [← HBB.out, d5]; rfl
 clear HBB
 go_wp2_with (first
  | (go_at_call 57; (refine (impl_Decode.calls (rd m c) r1 r2 r3 r4 r5 r6 _ AD.out).mono ?_); rintro e w8 ⟨rfl, hb⟩; have n0_ := Aside0.mk (below_step HB.out hb); clear HB; have HB := n0_; clear n0_; clear hb)
  | ((with_reducible refine gate_dst (N := 4) rfl ?_); refine box_event ?hg (N := 4) ?hd (cs := #[.int .i64 0, .int .i64 0, .int .i64 0, .int .i64 0, .int .i64 0]) (t := 66) ?hr ?_; (case hd => rfl); (case hg => rfl); (case hr => first | (go_simp; done) | (go_simp; rfl)); intro g1 hg w1 hbox hb; have BK1 := Aside0.mk hbox; have GE1 := Aside0.mk ((by rw [hg]; exact HB.out.size : w.heap.size ≤ g1)); have HB1 := Aside0.mk (below_step HB.out hb); clear hg hb hbox HB; have hz0 : w1.cell? ⟨g1, 0, none⟩ = some (.int .i64 0) := (blk_cell BK1.out 0).trans rfl; have hz1 : w1.cell? ⟨g1, 1, none⟩ = some (.int .i64 0) := (blk_cell BK1.out 1).trans rfl; have hz2 : w1.cell? ⟨g1, 2, none⟩ = some (.int .i64 0) := (blk_cell BK1.out 2).trans rfl; have hz3 : w1.cell? ⟨g1, 3, none⟩ = some (.int .i64 0) := (blk_cell BK1.out 3).trans rfl; have hz4 : w1.cell? ⟨g1, 4, none⟩ = some (.int .i64 0) := (blk_cell BK1.out 4).trans rfl; have hy0 := blk_frozen BK1.out 0; have hy1 := blk_frozen BK1.out 1; have hy2 := blk_frozen BK1.out 2; have hy3 := blk_frozen BK1.out 3; have hy4 := blk_frozen BK1.out 4))
 go_ret
 exact ⟨rfl, zB9_1⟩
def impl_WritesFrom.f (k : Nat) (l0 : List Int) (a1 : Int) : Option Bool := (impl_ReachOf.f k l0 a1).bind fun r => (findJ (wrAt l0) r 0).bind fun v => some (decide (v ≥ 0))
theorem impl_WritesFrom.mono : ∀ a0 a1 k, LeO (impl_WritesFrom.f k a0 a1) (impl_WritesFrom.f (k + 1) a0 a1) := fun a0 a1 k => LeO.bind (impl_ReachOf.mono _ _ _) (fun _ => LeO.refl _)
set_option maxHeartbeats 4000000 in
set_option maxRecDepth 100000 in
theorem impl_WritesFrom.calls (k : Nat) (A0 : Option Addr) (c0 : Nat) (l0 : List Int) (a1 : Int) (r : Bool) (w : World) (hr0 : Kd.C (Kd.int .i64) w A0 l0.length l0) (hc0 : l0.length ≤ c0) (h : impl_WritesFrom.f k l0 a1 = some r) :
  Calls Try.prog 21 #[.slice A0 l0.length c0, .int .i64 a1] w fun e w' => e = .returned (.bool r) ∧ Below w.heap.size w w' := by
 have HR0 := Aside0.mk hr0
 have HC0 := Aside0.mk hc0
 unfold impl_WritesFrom.f at h
 obtain ⟨rs, h1, h⟩ := Option.bind_eq_some_iff.mp h
 obtain ⟨v, h2, h⟩ := Option.bind_eq_some_iff.mp h
 obtain rfl := Option.some.inj h
 have AR := Aside0.mk h1
 have AV := Aside0.mk h2
 clear hr0 hc0 h h1 h2
 have HB := Aside0.mk (Below.refl w.heap.size w)
 go_enter Try.func21, Try.ntmps21
 go_wp2_with (first
  | ((with_reducible refine gate_dst (N := 2) rfl ?_); refine box_event ?hg (N := 2) ?hd (cs := #[.slice A0 l0.length c0]) (t := 24) ?hr ?_; (case hd => rfl); (case hg => rfl); (case hr => first | (go_simp; done) | (go_simp; rfl)); intro g1 hg w1 hbox hb; have BK1 := Aside0.mk ((blk_cell hbox 0).trans rfl : w1.cell? ⟨g1, 0, none⟩ = some (.slice A0 l0.length c0)); have n0_ := Aside0.mk (below_step HB.out hb); clear HB; have HB := n0_; clear n0_; have hcz := BK1.out; clear hg hb hbox)
  | (go_at_call 8; (refine (impl_ReachOf.calls k A0 c0 l0 a1 rs _ (Kd.C_below HR0.out HB.out) HC0.out AR.out).mono ?_); rintro e w8 ⟨v0, rfl, ho, hb⟩; obtain ⟨A1, c1, eo⟩ := Kd.R_slice ho; subst eo; have HO := Aside0.mk (Kd.R_reads' ho).2.2; clear ho; have n1_ := Aside0.mk ((hb.cell (World.block_lt_of_cell? _ _ BK1.out)).trans BK1.out); clear BK1; have BK1 := n1_; clear n1_; have n0_ := Aside0.mk (below_step HB.out hb); clear HB; have HB := n0_; clear n0_; clear hb)
  | (go_at_call 62; (refine (wr_has (wrAt l0) A1 c1 rs _ v _ HO.out (fun w9 hw9 c b hcb => wrAt_calls g1 A0 c0 l0 c b w9 ((hw9.cell (World.block_lt_of_cell? _ _ BK1.out)).trans BK1.out) (Kd.C_below (Kd.C_below HR0.out HB.out) hw9) hcb) AV.out).mono ?_); rintro e w8 ⟨rfl, hb⟩; have n0_ := Aside0.mk (below_step HB.out hb); clear HB; have HB := n0_; clear n0_; clear hb))
 go_ret
 exact ⟨rfl, zB9_0⟩

end Go.Proofs.Ytajhfpeijagpnaa.PFnFlows
