-- made by wip/tools/myprint.py out of the seat's translation
import Derived.Test.YtajhfpeijagpnaaPFnFlowsx0
import Derived.Test.YtajhfpeijagpnaaPFnFlowsx2
import Derived.Test.YtajhfpeijagpnaaPFnFlowsx5
import Derived.Test.YtajhfpeijagpnaaPFnFlowsx6
import Derived.Test.YtajhfpeijagpnaaPFnFlowsx7
namespace Go.Proofs.Ytajhfpeijagpnaa.PFnFlows
open Go.RowKit Go.Proofs.YtajhfpeijagpnaaW.PrintWords Go.Proofs.YtajhfpeijagpnaaW.PrintLast Go.Proofs.YtajhfpeijagpnaaW.PrintMore
attribute [local go_sem] max2_int min2_int max_two min_two max_three min_three max_four min_four   -- for this text's walks alone
set_option linter.unusedVariables false
set_option linter.unusedSimpArgs false
theorem zR8 {p q : Prop} (x : q) (h : q → p := by intro h; (with_reducible repeat (first | apply Kd.R_alloc | apply Kd.R_drewN | apply Kd.R_drew)); exact h) : p := h x
theorem zA8 {p : Prop} [Decidable p] (h : decide p = true := by first | (with_reducible assumption) | assumption) : p := of_decide_eq_true h
theorem zT8 {p : Prop} (h : p := by (try simp only [List.map_toArray, List.map_cons, List.map_nil]); first | done | rfl | (simp only [List.length_drop, List.length_take]; rfl)) : p := h
theorem zC8 {p q : Prop} (x : q) (h : q → p := by intro h; repeat (first | exact h | (with_reducible refine Kd.C_alloc ?_ _) | (with_reducible refine Kd.C_drewN ?_ _) | (with_reducible refine Kd.C_drew ?_))) : p := h x
theorem zE8 {p : Prop} (h : p := by first | rfl | (simp [errW_none, errW_some] <;> rfl) | (simp [*, errW_none, errW_some] <;> rfl)) : p := h
theorem zB8_0 {p : Prop} (h : p := by repeat (first | (with_reducible first | exact HB.out | apply below_alloc | apply pw_below_drewN | apply below_drew1) | exact HB.out)) : p := h

/-! ### spec_ReachOf: function 14 -/
mutual
def spec_ReachOf.j0 : Nat → List Int → Int → List Int → Bool → Option (List Int)
 | 0, _, _, _, _ => none
 | k + 1, x0, x1, x5, x16 => if x16 = true then (some x5) else ((spec_l23Marks.f k x0 (([x1] : List Int))).bind fun t415 => (spec_ReachOf.l0 k x5 t415 0))
def spec_ReachOf.l0 : Nat → List Int → List Bool → Int → Option (List Int)
 | 0, _, _, _ => none
 | k + 1, x5, x6, x7 => if x7 < 24 then (if 0 ≤ x7 then (if x7 < (x6.length : Int) then (if rdOf false x6 x7 = true then (if x5.length < 17592186044416 then (spec_ReachOf.l0 k (x5 ++ [x7]) x6 (wrap64 (x7 + 1))) else (none)) else (spec_ReachOf.l0 k x5 x6 (wrap64 (x7 + 1)))) else (none)) else (none)) else (some x5)
end
def spec_ReachOf.f (k : Nat) (l0 : List Int) (a1 : Int) : Option (List Int) := (some (([] : List Int) : List Int)).bind fun y407 => ((spec_l1Words.f k l0 24).bind fun t410 => (if t410 = true then ((spec_l1In.f a1 0 23).bind fun t411 => (spec_ReachOf.j0 k l0 a1 y407 (!t411))) else (spec_ReachOf.j0 k l0 a1 y407 true)))
theorem spec_ReachOf.mono_l : ∀ k, (∀ y0 y1 y2 y3, LeO (spec_ReachOf.j0 k y0 y1 y2 y3) (spec_ReachOf.j0 (k + 1) y0 y1 y2 y3)) ∧ (∀ y0 y1 y2, LeO (spec_ReachOf.l0 k y0 y1 y2) (spec_ReachOf.l0 (k + 1) y0 y1 y2))
 | 0 => ⟨fun _ _ _ _ r h => by simp [spec_ReachOf.j0] at h, fun _ _ _ r h => by simp [spec_ReachOf.l0] at h⟩
 | k + 1 => by
  obtain ⟨ih0, ih1⟩ := spec_ReachOf.mono_l k
  refine ⟨?_, ?_⟩
  ·intro y0 y1 y2 y3
   unfold spec_ReachOf.j0
   repeat' first
   | (with_reducible exact ih0 _ _ _ _)
   | (with_reducible exact ih1 _ _ _)
   | (with_reducible exact spec_l1Words.mono _ _ _)
   | (with_reducible exact spec_l23Marks.mono _ _ _)
   | (with_reducible exact LeO.refl _)
   | (with_reducible exact LeO.none _)
   | (with_reducible refine LeO.ite ?_ ?_)
   | (with_reducible refine LeO.bind ?_ (fun _ => ?_))
   | exact ih0 _ _ _ _
   | exact ih1 _ _ _
   | exact spec_l1Words.mono _ _ _
   | exact spec_l23Marks.mono _ _ _
   | exact LeO.none _
   | refine LeO.ite ?_ ?_
   | refine LeO.bind ?_ (fun _ => ?_)
  ·intro y0 y1 y2
   unfold spec_ReachOf.l0
   repeat' first
   | (with_reducible exact ih0 _ _ _ _)
   | (with_reducible exact ih1 _ _ _)
   | (with_reducible exact spec_l1Words.mono _ _ _)
   | (with_reducible exact spec_l23Marks.mono _ _ _)
   | (with_reducible exact LeO.refl _)
   | (with_reducible exact LeO.none _)
   | (with_reducible refine LeO.ite ?_ ?_)
   | (with_reducible refine LeO.bind ?_ (fun _ => ?_))
   | exact ih0 _ _ _ _
   | exact ih1 _ _ _
   | exact spec_l1Words.mono _ _ _
   | exact spec_l23Marks.mono _ _ _
   | exact LeO.none _
   | refine LeO.ite ?_ ?_
   | refine LeO.bind ?_ (fun _ => ?_)
theorem spec_ReachOf.mono : ∀ a0 a1 k, LeO (spec_ReachOf.f k a0 a1) (spec_ReachOf.f (k + 1) a0 a1) := by
 intro a0 a1 k
 obtain ⟨ih0, ih1⟩ := spec_ReachOf.mono_l k
 unfold spec_ReachOf.f
 repeat' first
   | (with_reducible exact ih0 _ _ _ _)
   | (with_reducible exact ih1 _ _ _)
   | (with_reducible exact spec_l1Words.mono _ _ _)
   | (with_reducible exact spec_l23Marks.mono _ _ _)
   | (with_reducible exact LeO.refl _)
   | (with_reducible exact LeO.none _)
   | (with_reducible refine LeO.ite ?_ ?_)
   | (with_reducible refine LeO.bind ?_ (fun _ => ?_))
   | exact ih0 _ _ _ _
   | exact ih1 _ _ _
   | exact spec_l1Words.mono _ _ _
   | exact spec_l23Marks.mono _ _ _
   | exact LeO.none _
   | refine LeO.ite ?_ ?_
   | refine LeO.bind ?_ (fun _ => ?_)
set_option maxHeartbeats 8000000 in
set_option maxRecDepth 100000 in
theorem spec_ReachOf.calls (k : Nat) (A0 : Option Addr) (c0 : Nat) (l0 : List Int) (a1 : Int) (r : List Int) (w : World) (hr0 : Kd.C (Kd.int .i64) w A0 l0.length l0) (hc0 : l0.length ≤ c0) (h : spec_ReachOf.f k l0 a1 = some r) :
  Calls Try.prog 14 #[.slice A0 l0.length c0, .int .i64 a1] w fun e w' => ∃ v0_ : Value, e = .returned (v0_) ∧ Kd.R (Kd.int .i64) 3 w' w.heap.size (fun _ => True) v0_ r ∧ Below w.heap.size w w' := by
 have HR0 := Aside0.mk hr0
 have HC0 := Aside0.mk hc0
 clear hr0 hc0
 have HB := Aside0.mk (Below.refl w.heap.size w)
 have H : ((some (([] : List Int) : List Int)).bind fun y407 => ((spec_l1Words.f k l0 24).bind fun t410 => (if t410 = true then ((spec_l1In.f a1 0 23).bind fun t411 => (spec_ReachOf.j0 k l0 a1 y407 (!t411))) else (spec_ReachOf.j0 k l0 a1 y407 true)))) = some r := h
 clear h
 obtain ⟨y407, hy407⟩ : ∃ y_ : List Int, y_ = (([] : List Int)) := ⟨_, rfl⟩
 replace H : ((spec_l1Words.f k l0 24).bind fun t410 => (if t410 = true then ((spec_l1In.f a1 0 23).bind fun t411 => (spec_ReachOf.j0 k l0 a1 y407 (!t411))) else (spec_ReachOf.j0 k l0 a1 y407 true))) = some r := by first | (rw [hy407]; with_reducible exact H) | (have H2_ := (Option.bind_some _ _).symm.trans H; rw [hy407]; with_reducible exact H2_) | (have H2_ := (Option.bind_some _ _).symm.trans H; with_reducible exact H2_) | with_reducible exact H | (rw [hy407]; exact H) | exact H
 have Ny407 := Aside0.mk hy407
 clear hy407
 have HC3 := Aside0.mk H
 clear H
 go_enter Try.func14, Try.ntmps14
 go_upto_region 2 with (first | ((with_reducible refine gate_dst (N := 8) rfl ?_); refine Kd.R_lit (Kd.int .i64) _ 3 ?hg (N := 8) ?hd (xs := ([] : List Int)) (inner := []) (ok := fun _ => True) (okp := fun _ => True) ?hr ?hp (fun _ hk => hk) trivial (Below.refl _ _) (Nat.le_refl _) (by simp) ?_; (case hd => rfl); (case hg => rfl); (case hr => first | (go_simp; done) | (go_simp; rfl)); (case hp => exact (Reps.none _ _)); intro v408 w4 ho5 hb hg_ hnew_; clear hg_ hnew_; (first | rw [← Ny407.out] at ho5 | (simp only [Int.reduceToNat] at ho5; rw [← Ny407.out] at ho5)); have n0_ := Aside0.mk (Kd.R_lower ho5 (below_size (zB8_0))); have n1_ := Aside0.mk (below_step (zB8_0) hb); clear HB; have HO409 := n0_; have HB := n1_; clear n0_ n1_; clear hb ho5))
 (try simp only [Act.put, List.setIfInBounds_toArray, List.set_cons_zero, List.set_cons_succ])
 go_cut [16] (fun v16 wc => ∃ (kq : Nat) (x16_2 : Bool), v16 = .bool x16_2 ∧ Aside0 (spec_ReachOf.j0 kq l0 a1 y407 x16_2 = some r) ∧ Aside0 (kq ≤ k) ∧ Aside0 (Kd.R (Kd.int .i64) 3 wc w.heap.size (fun _ => True) v408 y407) ∧ Aside0 (Below w.heap.size w wc))
 case first =>
  have H := HC3.out
  clear HC3
  replace H := Option.bind_eq_some_iff.mp H
  obtain ⟨t410, A60, H⟩ := H
  replace H : (if t410 = true then ((spec_l1In.f a1 0 23).bind fun t411 => (spec_ReachOf.j0 k l0 a1 y407 (!t411))) else (spec_ReachOf.j0 k l0 a1 y407 true)) = some r := H
  have A6 := Aside0.mk A60
  clear A60
  by_cases c7 : t410 = true
  rotate_left
  ·replace c7 := Bool.eq_false_iff.mpr c7
   subst c7
   have H1 : (spec_ReachOf.j0 k l0 a1 y407 true) = some r := by rw [if_neg (show ¬ (false = true) by decide)] at H; exact H
   clear H
   have H := H1
   clear H1
   have H' := Aside0.mk H
   clear H
   go_wp2_with (first | ((with_reducible refine gate_callee (f := 54) rfl ?_); refine goesL_ (some 10) rfl rfl Try.func54 (by kernel_rfl) rfl #[.slice A0 l0.length c0, .int .i64 24] rfl zT8 ?_; (with_reducible refine (spec_l1Words.calls k _ _ l0 24 false _ ?side1 ?side2 A6.out).mono ?_); (case side1 => exact zC8 (Kd.C_below HR0.out HB.out)); (case side2 => exact HC0.out); rintro e w' ⟨rfl, ⟨nd, rfl⟩⟩; refine ⟨_, rfl, ?_⟩))
   go_meet
   case rel => exact ⟨_, (true), (by first | rfl | (simp; done) | (simp [*]; done)), H', ⟨by first | omega | exact Nat.le_refl _⟩, ⟨zR8 HO409.out⟩, ⟨zB8_0⟩⟩
  subst c7
  have H1 : ((spec_l1In.f a1 0 23).bind fun t411 => (spec_ReachOf.j0 k l0 a1 y407 (!t411))) = some r := by rw [if_pos rfl] at H; exact H
  clear H
  have H := H1
  clear H1
  replace H := Option.bind_eq_some_iff.mp H
  obtain ⟨t411, A80, H⟩ := H
  replace H : (spec_ReachOf.j0 k l0 a1 y407 (!t411)) = some r := H
  have A8 := Aside0.mk A80
  clear A80
  have H' := Aside0.mk H
  clear H
  go_wp2_with (first | ((with_reducible refine gate_callee (f := 54) rfl ?_); refine goesL_ (some 10) rfl rfl Try.func54 (by kernel_rfl) rfl #[.slice A0 l0.length c0, .int .i64 24] rfl zT8 ?_; (with_reducible refine (spec_l1Words.calls k _ _ l0 24 true _ ?side1 ?side2 A6.out).mono ?_); (case side1 => exact zC8 (Kd.C_below HR0.out HB.out)); (case side2 => exact HC0.out); rintro e w' ⟨rfl, ⟨nd, rfl⟩⟩; refine ⟨_, rfl, ?_⟩) | (go_at_call 55; (with_reducible refine (spec_l1In.calls a1 0 23 t411 _ A8.out).mono ?_); rintro e w' ⟨rfl, ⟨nd, rfl⟩⟩))
  go_meet
  case rel => exact ⟨_, (!t411), (by first | rfl | (simp; done) | (simp [*]; done)), H', ⟨by first | omega | exact Nat.le_refl _⟩, ⟨zR8 HO409.out⟩, ⟨zB8_0⟩⟩
 case rest =>
  clear HC3
  try clear c1
  try clear p2
  try clear c5
  try clear c7
  obtain ⟨kq, x16_2, rfl, HA, HJ2, HO_5, HB⟩ := hcut
  cases kq with
  | zero => exact absurd HA.out (by simp [spec_ReachOf.j0])
  | succ kj2 =>
   have H := HA.out
   clear HA
   simp only [spec_ReachOf.j0] at H
   by_cases c9 : x16_2 = true
   ·subst c9
    have H1 : (some y407) = some r := by rw [if_pos rfl] at H; exact H
    clear H
    have H := H1
    clear H1
    obtain rfl := Option.some.inj H
    go_wp2
    go_ret
    exact ⟨_, zE8, zR8 HO_5.out, zB8_0⟩
   replace c9 := Bool.eq_false_iff.mpr c9
   subst c9
   have H1 : ((spec_l23Marks.f kj2 l0 (([a1] : List Int))).bind fun t415 => (spec_ReachOf.l0 kj2 y407 t415 0)) = some r := by rw [if_neg (show ¬ (false = true) by decide)] at H; exact H
   clear H
   have H := H1
   clear H1
   obtain ⟨y412, hy412⟩ : ∃ y_ : List Int, y_ = (([a1] : List Int)) := ⟨_, rfl⟩
   replace H : ((spec_l23Marks.f kj2 l0 y412).bind fun t415 => (spec_ReachOf.l0 kj2 y407 t415 0)) = some r := by first | (rw [hy412]; with_reducible exact H) | (have H2_ := (Option.bind_some _ _).symm.trans H; rw [hy412]; with_reducible exact H2_) | (have H2_ := (Option.bind_some _ _).symm.trans H; with_reducible exact H2_) | with_reducible exact H | (rw [hy412]; exact H) | exact H
   have Ny412 := Aside0.mk hy412
   clear hy412
   replace H := Option.bind_eq_some_iff.mp H
   obtain ⟨t415, A100, H⟩ := H
   replace H : (spec_ReachOf.l0 kj2 y407 t415 0) = some r := H
   have A10 := Aside0.mk A100
   clear A100
   have H' := Aside0.mk H
   clear H
   go_wp2_with (first | ((with_reducible refine gate_dst (N := 20) rfl ?_); refine Kd.R_lit (Kd.int .i64) _ 3 ?hg (N := 20) ?hd (xs := ([a1] : List Int)) (inner := [.int .i64 a1]) (ok := fun _ => True) (okp := fun _ => True) ?hr ?hp (fun _ hk => hk) trivial (Below.refl _ _) (Nat.le_refl _) (by simp) ?_; (case hd => rfl); (case hg => rfl); (case hr => first | (go_simp; done) | (go_simp; rfl)); (case hp => exact (Reps.one (show Kd.M (Kd.int .i64) _ _ _ a1 [.int .i64 a1] from rfl) (Reps.none _ _))); intro v413 w11 ho12 hb hg_ hnew_; clear hg_ hnew_; (first | rw [← Ny412.out] at ho12 | (simp only [Int.reduceToNat] at ho12; rw [← Ny412.out] at ho12)); have n0_ := Aside0.mk (Kd.R_elder' (zR8 HO_5.out) (Kd.R_base ho12) hb); have n1_ := Aside0.mk (Kd.R_lower (Kd.R_new' ho12 (Kd.R_lt (zR8 HO_5.out))) (below_size (zB8_0))); have n2_ := Aside0.mk (below_step (zB8_0) hb); clear HO_5; clear HB; have HO_5 := n0_; have HO414 := n1_; have HB := n2_; clear n0_ n1_ n2_; clear hb ho12; obtain ⟨Ao13, co13, eo13⟩ := Kd.R_slice HO414.out; subst eo13) | ((with_reducible refine gate_callee (f := 56) rfl ?_); refine goesL_ (some 21) rfl rfl Try.func56 (by kernel_rfl) rfl #[.slice A0 l0.length c0, .slice Ao13 y412.length co13] rfl zT8 ?_; (with_reducible refine (spec_l23Marks.calls kj2 _ _ l0 _ _ y412 t415 _ ?side1 ?side2 ?side3 ?side4 A10.out).mono ?_); (case side1 => exact zC8 (Kd.C_below HR0.out HB.out)); (case side2 => exact HC0.out); (case side3 => exact zC8 (Kd.R_reads' HO414.out).2.2); (case side4 => exact (Kd.R_reads' HO414.out).2.1); rintro e w14 ⟨v416, rfl, ho0, hb⟩; refine ⟨_, rfl, ?_⟩; have n0_ := Aside0.mk (Kd.R_below (zR8 HO_5.out) hb); have n1_ := Aside0.mk (Kd.R_below (zR8 HO414.out) hb); have n2_ := Aside0.mk (Kd.R_lower ho0 (below_size (zB8_0))); have n3_ := Aside0.mk (below_step (zB8_0) hb); clear HO_5; clear HO414; clear HB; have HO_5 := n0_; have HO414 := n1_; have HO417 := n2_; have HB := n3_; clear n0_ n1_ n2_ n3_; (try clear hb); (try clear hb2); (try clear hk); (try clear hi); (try clear ho0)))
   go_loopg [5, 7] kj2 (fun kq v5 v7 w' => ∃ (x5_2 : List Int) (x7_2 : Int), v7 = .int .i64 x7_2 ∧ Aside0 (spec_ReachOf.l0 kq x5_2 t415 x7_2 = some r) ∧ Aside0 (kq ≤ kj2) ∧ Aside0 (Kd.R (Kd.int .i64) 3 w' w.heap.size (fun _ => True) v5 x5_2) ∧ Aside0 (Kd.R Kd.bool 4 w' w.heap.size (fun _ => True) v416 t415) ∧ Aside0 (Below w.heap.size w w'))
   case atStart => exact ⟨(y407), (0), (by first | rfl | (simp; done) | (simp [*]; done)), H', ⟨Nat.le_refl _⟩, ⟨by (with_reducible repeat (first | apply Kd.R_alloc | apply Kd.R_drewN | apply Kd.R_drew)); exact Kd.R_mono HO_5.out (fun _ hk => trivial)⟩, ⟨zR8 HO417.out⟩, ⟨zB8_0⟩⟩
   case round =>
    clear H'
    try clear c1
    try clear p2
    try clear c5
    try clear c7
    try clear c9
    try clear c14
    try clear p2
    obtain ⟨x5_2, x7_2, rfl, HA, HK2, HO_5, HO_6, HB⟩ := hrel
    cases gk with
    | zero => exact absurd HA.out (by simp [spec_ReachOf.l0])
    | succ k2 =>
     have H := HA.out
     clear HA
     simp only [spec_ReachOf.l0] at H
     by_cases c15 : x7_2 < 24
     rotate_left
     ·rw [if_neg c15] at H
      have c15b0 : decide (x7_2 < 24) = false := decide_eq_false c15
      clear c15
      obtain rfl := Option.some.inj H
      go_wp2
      go_ret
      exact ⟨_, zE8, zR8 HO_5.out, zB8_0⟩
     rw [if_pos c15] at H
     have c15b0 : decide (x7_2 < 24) = true := decide_eq_true c15
     clear c15
     by_cases c16 : 0 ≤ x7_2
     rotate_left
     ·rw [if_neg c16] at H
      exact absurd H (by simp)
     rw [if_pos c16] at H
     have c16b0 : decide (0 ≤ x7_2) = true := decide_eq_true c16
     clear c16
     by_cases c17 : x7_2 < (t415.length : Int)
     rotate_left
     ·rw [if_neg c17] at H
      exact absurd H (by simp)
     rw [if_pos c17] at H
     have c17b0 : decide (x7_2 < (t415.length : Int)) = true := decide_eq_true c17
     clear c17
     obtain ⟨bq18, hbq18⟩ : ∃ b_ : Bool, b_ = (rdOf false t415 x7_2) := ⟨_, rfl⟩
     replace H : (if bq18 = true then (if x5_2.length < 17592186044416 then (spec_ReachOf.l0 k2 (x5_2 ++ [x7_2]) t415 (wrap64 (x7_2 + 1))) else (none)) else (spec_ReachOf.l0 k2 x5_2 t415 (wrap64 (x7_2 + 1)))) = some r := by rw [← hbq18] at H; exact H
     have Nbq18 := Aside0.mk hbq18
     clear hbq18
     by_cases c19 : bq18 = true
     rotate_left
     ·replace c19 := Bool.eq_false_iff.mpr c19
      subst c19
      have H1 : (spec_ReachOf.l0 k2 x5_2 t415 (wrap64 (x7_2 + 1))) = some r := by rw [if_neg (show ¬ (false = true) by decide)] at H; exact H
      clear H
      have H := H1
      clear H1
      have H' := Aside0.mk H
      clear H
      obtain ⟨Ao23, co23, eo23⟩ := Kd.R_slice HO_6.out
      subst eo23
      have p418 : 0 ≤ (x7_2 : Int) := zA8
      have q418 : x7_2 < (t415.length : Int) := zA8
      obtain ⟨ad418, e418, hx418_0⟩ := Kd.at_bool (Kd.R_reads' HO_6.out).2.2 x7_2 p418 q418
      (try rw [← Nbq18.out] at hx418_0)
      cases e418
      replace p418 := eq_true p418
      replace q418 := eq_true q418
      go_wp2
      go_roundg k2
      case measure => have := HJ2.out; have := HK2.out; omega
      case rel => exact ⟨(x5_2), (wrap64 (x7_2 + 1)), (by first | rfl | (simp; done) | (simp [*]; done)), H', ⟨by have := HJ2.out; have := HK2.out; omega⟩, ⟨zR8 HO_5.out⟩, ⟨zR8 HO_6.out⟩, ⟨zB8_0⟩⟩
     subst c19
     have H1 : (if x5_2.length < 17592186044416 then (spec_ReachOf.l0 k2 (x5_2 ++ [x7_2]) t415 (wrap64 (x7_2 + 1))) else (none)) = some r := by rw [if_pos rfl] at H; exact H
     clear H
     have H := H1
     clear H1
     by_cases c20 : x5_2.length < 17592186044416
     rotate_left
     ·rw [if_neg c20] at H
      exact absurd H (by simp)
     rw [if_pos c20] at H
     have LMc20 := Aside0.mk c20
     clear c20
     obtain ⟨y419, hy419⟩ : ∃ y_ : List Int, y_ = (x5_2 ++ [x7_2]) := ⟨_, rfl⟩
     replace H : (spec_ReachOf.l0 k2 y419 t415 (wrap64 (x7_2 + 1))) = some r := by first | (rw [hy419]; with_reducible exact H) | (have H2_ := (Option.bind_some _ _).symm.trans H; rw [hy419]; with_reducible exact H2_) | (have H2_ := (Option.bind_some _ _).symm.trans H; with_reducible exact H2_) | with_reducible exact H | (rw [hy419]; exact H) | exact H
     have Ny419 := Aside0.mk hy419
     clear hy419
     have H' := Aside0.mk H
     clear H
     obtain ⟨Ao21, co21, eo21⟩ := Kd.R_slice HO_6.out
     subst eo21
     have p418 : 0 ≤ (x7_2 : Int) := zA8
     have q418 : x7_2 < (t415.length : Int) := zA8
     obtain ⟨ad418, e418, hx418_0⟩ := Kd.at_bool (Kd.R_reads' HO_6.out).2.2 x7_2 p418 q418
     (try rw [← Nbq18.out] at hx418_0)
     cases e418
     replace p418 := eq_true p418
     replace q418 := eq_true q418
     go_wp2_with (first | ((with_reducible refine gate_builtin (b := .append) (xs := #[.tmp 30, .tmp 32]) rfl ?_); at_builtin; refine Kd.R_append (Kd.int .i64) (w0 := w) w.heap.size rfl (.tmp 30) (.tmp 32) 24 3 (.int .i64 0) 8 rfl Try.underlying24 info3 rfl (by decide) (by omega) u5 x5_2 x7_2 [.int .i64 x7_2] (fun _ => True) (fun _ => False) rfl rfl ?aP (fun _ hk => hk.elim) ?aF ?aO ?aB ?aS ?aL ?_; (case aP => exact rfl); (case aB => exact (zB8_0)); (case aF => exact (fun _ _ => trivial)); (case aO => exact (zR8 HO_5.out)); (case aS => exact (below_size (zB8_0))); (case aL => have := LMc20.out; omega); intro v420 w22 ho hb hg hat; rw [← Ny419.out] at ho; have n0_ := Aside0.mk (Kd.R_over' (zR8 HO_6.out) (Kd.R_typed (zR8 HO_5.out)) (by decide) hg); have n1_ := Aside0.mk (hb); have n2_ := Aside0.mk (ho); clear HO_6; clear HB; clear HO_5; have HO_6 := n0_; have HB := n1_; have HO421 := n2_; clear n0_ n1_ n2_; clear ho hb hg hat))
     go_roundg k2
     case measure => have := HJ2.out; have := HK2.out; omega
     case rel => exact ⟨(y419), (wrap64 (x7_2 + 1)), (by first | rfl | (simp; done) | (simp [*]; done)), H', ⟨by have := HJ2.out; have := HK2.out; omega⟩, ⟨zR8 HO421.out⟩, ⟨zR8 HO_6.out⟩, ⟨zB8_0⟩⟩

/-! ### impl_LeadsTo: function 17 -/
def impl_LeadsTo.f (k : Nat) (l0 : List Int) (a1 : Int) (a2 : Int) : Option (Bool) := (impl_ReachOf.f k l0 a1).bind fun t422 => ((slices_Contains_int_int.f k t422 a2).bind fun t425 => (some t425))
theorem impl_LeadsTo.mono : ∀ a0 a1 a2 k, LeO (impl_LeadsTo.f k a0 a1 a2) (impl_LeadsTo.f (k + 1) a0 a1 a2) := by
 intro a0 a1 a2 k
 unfold impl_LeadsTo.f
 repeat' first
   | (with_reducible exact impl_ReachOf.mono _ _ _)
   | (with_reducible exact slices_Contains_int_int.mono _ _ _)
   | (with_reducible exact LeO.refl _)
   | (with_reducible exact LeO.none _)
   | (with_reducible refine LeO.ite ?_ ?_)
   | (with_reducible refine LeO.bind ?_ (fun _ => ?_))
   | exact impl_ReachOf.mono _ _ _
   | exact slices_Contains_int_int.mono _ _ _
   | exact LeO.none _
   | refine LeO.ite ?_ ?_
   | refine LeO.bind ?_ (fun _ => ?_)
set_option maxHeartbeats 8000000 in
set_option maxRecDepth 100000 in
theorem impl_LeadsTo.calls (k : Nat) (A0 : Option Addr) (c0 : Nat) (l0 : List Int) (a1 : Int) (a2 : Int) (r : Bool) (w : World) (hr0 : Kd.C (Kd.int .i64) w A0 l0.length l0) (hc0 : l0.length ≤ c0) (h : impl_LeadsTo.f k l0 a1 a2 = some r) :
  Calls Try.prog 17 #[.slice A0 l0.length c0, .int .i64 a1, .int .i64 a2] w fun e w' => e = .returned (.bool r) ∧ Below w.heap.size w w' := by
 have HR0 := Aside0.mk hr0
 have HC0 := Aside0.mk hc0
 clear hr0 hc0
 have HB := Aside0.mk (Below.refl w.heap.size w)
 have H : ((impl_ReachOf.f k l0 a1).bind fun t422 => ((slices_Contains_int_int.f k t422 a2).bind fun t425 => (some t425))) = some r := h
 clear h
 replace H := Option.bind_eq_some_iff.mp H
 obtain ⟨t422, A40, H⟩ := H
 replace H : ((slices_Contains_int_int.f k t422 a2).bind fun t425 => (some t425)) = some r := H
 have A4 := Aside0.mk A40
 clear A40
 replace H := Option.bind_eq_some_iff.mp H
 obtain ⟨t425, A50, H⟩ := H
 replace H : (some t425) = some r := H
 have A5 := Aside0.mk A50
 clear A50
 obtain rfl := Option.some.inj H
 go_enter Try.func17, Try.ntmps17
 go_wp2_with (first | ((with_reducible refine gate_callee (f := 8) rfl ?_); refine goesL_ (some 9) rfl rfl Try.func8 (by kernel_rfl) rfl #[.slice A0 l0.length c0, .int .i64 a1] rfl zT8 ?_; (with_reducible refine (impl_ReachOf.calls k _ _ l0 a1 t422 _ ?side1 ?side2 A4.out).mono ?_); (case side1 => exact zC8 HR0.out); (case side2 => exact HC0.out); rintro e w6 ⟨v423, rfl, ho0, hb⟩; refine ⟨_, rfl, ?_⟩; have n0_ := Aside0.mk (Kd.R_lower ho0 (below_size (zB8_0))); have n1_ := Aside0.mk (below_step (zB8_0) hb); clear HB; have HO424 := n0_; have HB := n1_; clear n0_ n1_; (try clear hb); (try clear hb2); (try clear hk); (try clear hi); (try clear ho0); obtain ⟨Ao7, co7, eo7⟩ := Kd.R_slice HO424.out; subst eo7) | ((with_reducible refine gate_callee (f := 50) rfl ?_); refine goesL_ (some 11) rfl rfl Try.func50 (by kernel_rfl) rfl #[.slice Ao7 t422.length co7, .int .i64 a2] rfl zT8 ?_; (with_reducible refine (slices_Contains_int_int.calls k _ _ t422 a2 t425 _ ?side1 ?side2 A5.out).mono ?_); (case side1 => exact zC8 (Kd.R_reads' HO424.out).2.2); (case side2 => exact (Kd.R_reads' HO424.out).2.1); rintro e w' ⟨rfl, ⟨nd, rfl⟩⟩; refine ⟨_, rfl, ?_⟩))
 go_ret
 exact ⟨zE8, zB8_0⟩

/-! ### spec_LeadsTo: function 18 -/
def spec_LeadsTo.l0 : Nat → Int → List Int → Int → Option (Bool)
 | 0, _, _, _ => none
 | k + 1, x2, x7, x8 => if x8 < (x7.length : Int) then (if 0 ≤ x8 then (if (rd x7 x8) = x2 then (some true) else (spec_LeadsTo.l0 k x2 x7 (wrap64 (x8 + 1)))) else (none)) else (some false)
def spec_LeadsTo.f (k : Nat) (l0 : List Int) (a1 : Int) (a2 : Int) : Option (Bool) := (spec_ReachOf.f k l0 a1).bind fun t426 => (spec_LeadsTo.l0 k a2 t426 0)
theorem spec_LeadsTo.mono_l : ∀ k, (∀ y0 y1 y2, LeO (spec_LeadsTo.l0 k y0 y1 y2) (spec_LeadsTo.l0 (k + 1) y0 y1 y2))
 | 0 => fun _ _ _ r h => by simp [spec_LeadsTo.l0] at h
 | k + 1 => by
  have ih0 := spec_LeadsTo.mono_l k
  ·intro y0 y1 y2
   unfold spec_LeadsTo.l0
   repeat' first
   | (with_reducible exact ih0 _ _ _)
   | (with_reducible exact spec_ReachOf.mono _ _ _)
   | (with_reducible exact LeO.refl _)
   | (with_reducible exact LeO.none _)
   | (with_reducible refine LeO.ite ?_ ?_)
   | (with_reducible refine LeO.bind ?_ (fun _ => ?_))
   | exact ih0 _ _ _
   | exact spec_ReachOf.mono _ _ _
   | exact LeO.none _
   | refine LeO.ite ?_ ?_
   | refine LeO.bind ?_ (fun _ => ?_)
theorem spec_LeadsTo.mono : ∀ a0 a1 a2 k, LeO (spec_LeadsTo.f k a0 a1 a2) (spec_LeadsTo.f (k + 1) a0 a1 a2) := by
 intro a0 a1 a2 k
 have ih0 := spec_LeadsTo.mono_l k
 unfold spec_LeadsTo.f
 repeat' first
   | (with_reducible exact ih0 _ _ _)
   | (with_reducible exact spec_ReachOf.mono _ _ _)
   | (with_reducible exact LeO.refl _)
   | (with_reducible exact LeO.none _)
   | (with_reducible refine LeO.ite ?_ ?_)
   | (with_reducible refine LeO.bind ?_ (fun _ => ?_))
   | exact ih0 _ _ _
   | exact spec_ReachOf.mono _ _ _
   | exact LeO.none _
   | refine LeO.ite ?_ ?_
   | refine LeO.bind ?_ (fun _ => ?_)
set_option maxHeartbeats 8000000 in
set_option maxRecDepth 100000 in
theorem spec_LeadsTo.calls (k : Nat) (A0 : Option Addr) (c0 : Nat) (l0 : List Int) (a1 : Int) (a2 : Int) (r : Bool) (w : World) (hr0 : Kd.C (Kd.int .i64) w A0 l0.length l0) (hc0 : l0.length ≤ c0) (h : spec_LeadsTo.f k l0 a1 a2 = some r) :
  Calls Try.prog 18 #[.slice A0 l0.length c0, .int .i64 a1, .int .i64 a2] w fun e w' => e = .returned (.bool r) ∧ Below w.heap.size w w' := by
 have HR0 := Aside0.mk hr0
 have HC0 := Aside0.mk hc0
 clear hr0 hc0
 have HB := Aside0.mk (Below.refl w.heap.size w)
 have H : ((spec_ReachOf.f k l0 a1).bind fun t426 => (spec_LeadsTo.l0 k a2 t426 0)) = some r := h
 clear h
 replace H := Option.bind_eq_some_iff.mp H
 obtain ⟨t426, A40, H⟩ := H
 replace H : (spec_LeadsTo.l0 k a2 t426 0) = some r := H
 have A4 := Aside0.mk A40
 clear A40
 have H' := Aside0.mk H
 clear H
 go_enter Try.func18, Try.ntmps18
 go_wp2_with (first | ((with_reducible refine gate_callee (f := 14) rfl ?_); refine goesL_ (some 11) rfl rfl Try.func14 (by kernel_rfl) rfl #[.slice A0 l0.length c0, .int .i64 a1] rfl zT8 ?_; (with_reducible refine (spec_ReachOf.calls k _ _ l0 a1 t426 _ ?side1 ?side2 A4.out).mono ?_); (case side1 => exact zC8 HR0.out); (case side2 => exact HC0.out); rintro e w5 ⟨v427, rfl, ho0, hb⟩; refine ⟨_, rfl, ?_⟩; have n0_ := Aside0.mk (Kd.R_lower ho0 (below_size (zB8_0))); have n1_ := Aside0.mk (below_step (zB8_0) hb); clear HB; have HO428 := n0_; have HB := n1_; clear n0_ n1_; (try clear hb); (try clear hb2); (try clear hk); (try clear hi); (try clear ho0)))
 go_loopg [8] k (fun kq v8 w' => ∃ (x8_1 : Int), v8 = .int .i64 x8_1 ∧ Aside0 (spec_LeadsTo.l0 kq a2 t426 x8_1 = some r) ∧ Aside0 (kq ≤ k) ∧ Aside0 (Kd.R (Kd.int .i64) 3 w' w.heap.size (fun _ => True) v427 t426) ∧ Aside0 (Below w.heap.size w w'))
 case atStart => exact ⟨(0), (by first | rfl | (simp; done) | (simp [*]; done)), H', ⟨Nat.le_refl _⟩, ⟨zR8 HO428.out⟩, ⟨zB8_0⟩⟩
 case round =>
  clear H'
  try clear c1
  try clear p2
  obtain ⟨x8_1, rfl, HA, HK1, HO_7, HB⟩ := hrel
  cases gk with
  | zero => exact absurd HA.out (by simp [spec_LeadsTo.l0])
  | succ k1 =>
   have H := HA.out
   clear HA
   simp only [spec_LeadsTo.l0] at H
   by_cases c6 : x8_1 < (t426.length : Int)
   rotate_left
   ·rw [if_neg c6] at H
    have c6b0 : decide (x8_1 < (t426.length : Int)) = false := decide_eq_false c6
    clear c6
    obtain rfl := Option.some.inj H
    obtain ⟨Ao11, co11, eo11⟩ := Kd.R_slice HO_7.out
    subst eo11
    go_wp2
    go_ret
    exact ⟨zE8, zB8_0⟩
   rw [if_pos c6] at H
   have c6b0 : decide (x8_1 < (t426.length : Int)) = true := decide_eq_true c6
   clear c6
   by_cases c7 : 0 ≤ x8_1
   rotate_left
   ·rw [if_neg c7] at H
    exact absurd H (by simp)
   rw [if_pos c7] at H
   have c7b0 : decide (0 ≤ x8_1) = true := decide_eq_true c7
   clear c7
   by_cases c8 : (rd t426 x8_1) = a2
   ·rw [if_pos c8] at H
    have c8b0 : ((rd t426 x8_1) == a2) = true := beq_iff_eq.mpr c8
    have c8b1 : ((rd t426 x8_1) != a2) = false := bne_eq_false_iff_eq.mpr c8
    clear c8
    obtain rfl := Option.some.inj H
    obtain ⟨Ao9, co9, eo9⟩ := Kd.R_slice HO_7.out
    subst eo9
    have p429 : 0 ≤ (x8_1 : Int) := zA8
    have q429 : x8_1 < (t426.length : Int) := zA8
    obtain ⟨ad429, e429, hx429_0⟩ := Kd.at_int (Kd.R_reads' HO_7.out).2.2 x8_1 p429 q429
    cases e429
    replace p429 := eq_true p429
    replace q429 := eq_true q429
    go_wp2
    go_ret
    exact ⟨zE8, zB8_0⟩
   rw [if_neg c8] at H
   have c8b0 : ((rd t426 x8_1) == a2) = false := beq_eq_false_iff_ne.mpr c8
   have c8b1 : ((rd t426 x8_1) != a2) = true := bne_iff_ne.mpr c8
   have H' := Aside0.mk H
   clear H
   obtain ⟨Ao10, co10, eo10⟩ := Kd.R_slice HO_7.out
   subst eo10
   have p429 : 0 ≤ (x8_1 : Int) := zA8
   have q429 : x8_1 < (t426.length : Int) := zA8
   obtain ⟨ad429, e429, hx429_0⟩ := Kd.at_int (Kd.R_reads' HO_7.out).2.2 x8_1 p429 q429
   cases e429
   replace p429 := eq_true p429
   replace q429 := eq_true q429
   go_wp2
   go_roundg k1
   case measure => have := HK1.out; omega
   case rel => exact ⟨(wrap64 (x8_1 + 1)), (by first | rfl | (simp; done) | (simp [*]; done)), H', ⟨by have := HK1.out; omega⟩, ⟨zR8 HO_7.out⟩, ⟨zB8_0⟩⟩

-- NOT PRINTED: function 64 (impl_LoopsFrom_1_1)

-- NOT PRINTED: function 63 (impl_LoopsFrom_1)

/-! ### impl_LoopsFrom: function 19 -/
/-- The first place whose number passes. -/
def findI (p : Int → Option Bool) : List Int → Nat → Option Int
 | [], _ => some (-1)
 | c :: r, i => (p c).bind fun b => if b = true then some (i : Int) else findI p r (i + 1)
theorem findI_drop (p : Int → Option Bool) (l : List Int) (i : Nat) (h : i < l.length) : findI p (l.drop i) i = (p (rd l (i : Int))).bind fun b => if b = true then some (i : Int) else findI p (l.drop (i + 1)) (i + 1) := by
 have e : rd l (i : Int) = l[i] := by unfold rd; simp [List.getD, h]
 rw [List.drop_eq_getElem_cons h, findI, e]
theorem findI_mono {p q : Int → Option Bool} (h : ∀ c, LeO (p c) (q c)) : ∀ (l : List Int) (i : Nat), LeO (findI p l i) (findI q l i)
 | [], _ => LeO.refl _
 | c :: r, i => by
  unfold findI
  refine LeO.bind (h c) (fun b => ?_)
  refine LeO.ite (LeO.refl _) (findI_mono h r (i + 1))
set_option maxHeartbeats 4000000 in
set_option maxRecDepth 100000 in
theorem ld_idx (p : Int → Option Bool) (A0 : Option Addr) (c0 : Nat) (l0 : List Int) (q1 q2 : Value) (v : Int) (w : World) (hr0 : Kd.C (Kd.int .i64) w A0 l0.length l0) (hp : ∀ w1 : World, Below w.heap.size w w1 → ∀ (c : Int) (b : Bool), p c = some b → Calls Try.prog 64 #[.int .i64 c, q1, q2] w1 fun e w' => e = .returned (.bool b) ∧ Below w1.heap.size w1 w') (h : findI p l0 0 = some v) :
  Calls Try.prog 95 #[.slice A0 l0.length c0, .func (.func 64) #[] #[q1, q2]] w fun e w' => e = .returned (.int .i64 v) ∧ Below w.heap.size w w' := by
 have HR0 := Aside0.mk hr0
 have HPP := Aside0.mk hp
 have HV := Aside0.mk h
 have HL := Aside0.mk (show l0.length ≤ 9223372036854775807 from hr0.2.1)
 clear hr0 hp h
 have HB := Aside0.mk (Below.refl w.heap.size w)
 go_enter Try.func95, Try.ntmps95
 go_wp2
 go_loopg [8] l0.length (fun kq v8 w' => ∃ i : Nat, v8 = .int .i64 i ∧ Aside0 (i + kq = l0.length) ∧ Aside0 (findI p (l0.drop i) i = some v) ∧ Aside0 (Below w.heap.size w w'))
 case atStart => exact ⟨0, rfl, ⟨by omega⟩, ⟨HV.out⟩, ⟨HB.out⟩⟩
 case round =>
  try clear p2
  clear HB
  obtain ⟨i, rfl, HI, HP, HB⟩ := hrel
  by_cases hi : i < l0.length
  rotate_left
  ·have d0 : decide ((i : Int) < (l0.length : Int)) = false := decide_eq_false (by omega)
   have hp := HP.out
   rw [List.drop_of_length_le (by omega)] at hp
   have HP' := Aside0.mk (Option.some.inj (show some (-1 : Int) = some v from hp))
   clear hp HP
   go_wp2_with fail
   go_ret
   exact ⟨by rw [← HP'.out]; rfl, zB8_0⟩
  have HI2 := Aside0.mk hi
  have d0 : decide ((i : Int) < (l0.length : Int)) = true := decide_eq_true (by omega)
  have hp := HP.out
  rw [findI_drop p l0 i hi] at hp
  obtain ⟨b, hpb, hp⟩ := Option.bind_eq_some_iff.mp hp
  have AP := Aside0.mk hpb
  obtain ⟨ad, e0, hx0⟩ := Kd.at_int HR0.out (i : Int) (by omega) (by omega)
  cases e0
  replace hx0 := (HB.out.cell (World.block_lt_of_cell? w _ hx0)).trans hx0
  simp only [Int.toNat_natCast] at hx0
  have p1 : (0 ≤ (i : Int)) = True := eq_true (by omega)
  have p2' : ((i : Int) < (l0.length : Int)) = True := eq_true (by omega)
  cases b with
  | true =>
   have HP' := Aside0.mk (Option.some.inj hp)
   clear hp HP hpb
   go_wp2_with (first | (go_at_call 64; (refine (HPP.out _ HB.out (rd l0 (i : Int)) true AP.out).mono ?_); rintro e w8 ⟨rfl, hb⟩; have n0_ := Aside0.mk (below_step HB.out hb); clear HB; have HB := n0_; clear n0_; clear hb))
   go_ret
   exact ⟨by rw [← HP'.out]; rfl, zB8_0⟩
  | false =>
   have HP' := Aside0.mk (show findI p (l0.drop (i + 1)) (i + 1) = some v from hp)
   clear hp HP hpb
   go_wp2_with (first | (go_at_call 64; (refine (HPP.out _ HB.out (rd l0 (i : Int)) false AP.out).mono ?_); rintro e w8 ⟨rfl, hb⟩; have n0_ := Aside0.mk (below_step HB.out hb); clear HB; have HB := n0_; clear n0_; clear hb))
   go_roundg (gk - 1)
   case rel => exact ⟨i + 1, congrArg (Value.int .i64) (by have h1_ := HI2.out; have h2_ := HL.out; show wrap64 ((i : Int) + 1) = ((i + 1 : Nat) : Int); unfold wrap64; omega), ⟨by have := HI.out; have := HI2.out; omega⟩, ⟨HP'.out⟩, ⟨HB.out⟩⟩
   all_goals (have := HI.out; have := HI2.out; omega)
set_option maxHeartbeats 4000000 in
set_option maxRecDepth 100000 in
theorem ld_has (p : Int → Option Bool) (A0 : Option Addr) (c0 : Nat) (l0 : List Int) (q1 q2 : Value) (v : Int) (w : World) (hr0 : Kd.C (Kd.int .i64) w A0 l0.length l0) (hp : ∀ w1 : World, Below w.heap.size w w1 → ∀ (c : Int) (b : Bool), p c = some b → Calls Try.prog 64 #[.int .i64 c, q1, q2] w1 fun e w' => e = .returned (.bool b) ∧ Below w1.heap.size w1 w') (h : findI p l0 0 = some v) :
  Calls Try.prog 62 #[.slice A0 l0.length c0, .func (.func 64) #[] #[q1, q2]] w fun e w' => e = .returned (.bool (decide (v ≥ 0))) ∧ Below w.heap.size w w' := by
 have HR0 := Aside0.mk hr0
 have HPP := Aside0.mk hp
 have HV := Aside0.mk h
 clear hr0 hp h
 have HB := Aside0.mk (Below.refl w.heap.size w)
 go_enter Try.func62, Try.ntmps62
 go_wp2_with (first
  | (go_at_call 95; (refine (ld_idx p A0 c0 l0 q1 q2 v _ HR0.out HPP.out HV.out).mono ?_); rintro e w8 ⟨rfl, hb⟩; have n0_ := Aside0.mk (below_step HB.out hb); clear HB; have HB := n0_; clear n0_; clear hb))
 go_ret
 exact ⟨rfl, zB8_0⟩
set_option maxHeartbeats 4000000 in
set_option maxRecDepth 100000 in
theorem lo_idx (p : Int → Option Bool) (A0 : Option Addr) (c0 : Nat) (l0 : List Int) (q1 : Value) (v : Int) (w : World) (hr0 : Kd.C (Kd.int .i64) w A0 l0.length l0) (hp : ∀ w1 : World, Below w.heap.size w w1 → ∀ (c : Int) (b : Bool), p c = some b → Calls Try.prog 63 #[.int .i64 c, q1] w1 fun e w' => e = .returned (.bool b) ∧ Below w1.heap.size w1 w') (h : findI p l0 0 = some v) :
  Calls Try.prog 95 #[.slice A0 l0.length c0, .func (.func 63) #[] #[q1]] w fun e w' => e = .returned (.int .i64 v) ∧ Below w.heap.size w w' := by
 have HR0 := Aside0.mk hr0
 have HPP := Aside0.mk hp
 have HV := Aside0.mk h
 have HL := Aside0.mk (show l0.length ≤ 9223372036854775807 from hr0.2.1)
 clear hr0 hp h
 have HB := Aside0.mk (Below.refl w.heap.size w)
 go_enter Try.func95, Try.ntmps95
 go_wp2
 go_loopg [8] l0.length (fun kq v8 w' => ∃ i : Nat, v8 = .int .i64 i ∧ Aside0 (i + kq = l0.length) ∧ Aside0 (findI p (l0.drop i) i = some v) ∧ Aside0 (Below w.heap.size w w'))
 case atStart => exact ⟨0, rfl, ⟨by omega⟩, ⟨HV.out⟩, ⟨HB.out⟩⟩
 case round =>
  try clear p2
  clear HB
  obtain ⟨i, rfl, HI, HP, HB⟩ := hrel
  by_cases hi : i < l0.length
  rotate_left
  ·have d0 : decide ((i : Int) < (l0.length : Int)) = false := decide_eq_false (by omega)
   have hp := HP.out
   rw [List.drop_of_length_le (by omega)] at hp
   have HP' := Aside0.mk (Option.some.inj (show some (-1 : Int) = some v from hp))
   clear hp HP
   go_wp2_with fail
   go_ret
   exact ⟨by rw [← HP'.out]; rfl, zB8_0⟩
  have HI2 := Aside0.mk hi
  have d0 : decide ((i : Int) < (l0.length : Int)) = true := decide_eq_true (by omega)
  have hp := HP.out
  rw [findI_drop p l0 i hi] at hp
  obtain ⟨b, hpb, hp⟩ := Option.bind_eq_some_iff.mp hp
  have AP := Aside0.mk hpb
  obtain ⟨ad, e0, hx0⟩ := Kd.at_int HR0.out (i : Int) (by omega) (by omega)
  cases e0
  replace hx0 := (HB.out.cell (World.block_lt_of_cell? w _ hx0)).trans hx0
  simp only [Int.toNat_natCast] at hx0
  have p1 : (0 ≤ (i : Int)) = True := eq_true (by omega)
  have p2' : ((i : Int) < (l0.length : Int)) = True := eq_true (by omega)
  cases b with
  | true =>
   have HP' := Aside0.mk (Option.some.inj hp)
   clear hp HP hpb
   go_wp2_with (first | (go_at_call 63; (refine (HPP.out _ HB.out (rd l0 (i : Int)) true AP.out).mono ?_); rintro e w8 ⟨rfl, hb⟩; have n0_ := Aside0.mk (below_step HB.out hb); clear HB; have HB := n0_; clear n0_; clear hb))
   go_ret
   exact ⟨by rw [← HP'.out]; rfl, zB8_0⟩
  | false =>
   have HP' := Aside0.mk (show findI p (l0.drop (i + 1)) (i + 1) = some v from hp)
   clear hp HP hpb
   go_wp2_with (first | (go_at_call 63; (refine (HPP.out _ HB.out (rd l0 (i : Int)) false AP.out).mono ?_); rintro e w8 ⟨rfl, hb⟩; have n0_ := Aside0.mk (below_step HB.out hb); clear HB; have HB := n0_; clear n0_; clear hb))
   go_roundg (gk - 1)
   case rel => exact ⟨i + 1, congrArg (Value.int .i64) (by have h1_ := HI2.out; have h2_ := HL.out; show wrap64 ((i : Int) + 1) = ((i + 1 : Nat) : Int); unfold wrap64; omega), ⟨by have := HI.out; have := HI2.out; omega⟩, ⟨HP'.out⟩, ⟨HB.out⟩⟩
   all_goals (have := HI.out; have := HI2.out; omega)
set_option maxHeartbeats 4000000 in
set_option maxRecDepth 100000 in
theorem lo_has (p : Int → Option Bool) (A0 : Option Addr) (c0 : Nat) (l0 : List Int) (q1 : Value) (v : Int) (w : World) (hr0 : Kd.C (Kd.int .i64) w A0 l0.length l0) (hp : ∀ w1 : World, Below w.heap.size w w1 → ∀ (c : Int) (b : Bool), p c = some b → Calls Try.prog 63 #[.int .i64 c, q1] w1 fun e w' => e = .returned (.bool b) ∧ Below w1.heap.size w1 w') (h : findI p l0 0 = some v) :
  Calls Try.prog 62 #[.slice A0 l0.length c0, .func (.func 63) #[] #[q1]] w fun e w' => e = .returned (.bool (decide (v ≥ 0))) ∧ Below w.heap.size w w' := by
 have HR0 := Aside0.mk hr0
 have HPP := Aside0.mk hp
 have HV := Aside0.mk h
 clear hr0 hp h
 have HB := Aside0.mk (Below.refl w.heap.size w)
 go_enter Try.func62, Try.ntmps62
 go_wp2_with (first
  | (go_at_call 95; (refine (lo_idx p A0 c0 l0 q1 v _ HR0.out HPP.out HV.out).mono ?_); rintro e w8 ⟨rfl, hb⟩; have n0_ := Aside0.mk (below_step HB.out hb); clear HB; have HB := n0_; clear n0_; clear hb))
 go_ret
 exact ⟨rfl, zB8_0⟩
set_option maxHeartbeats 4000000 in
set_option maxRecDepth 100000 in
theorem ldAt_calls (k : Nat) (g1 g2 : Nat) (A0 : Option Addr) (c0 : Nat) (m : List Int) (c n : Int) (b : Bool) (w : World) (hc1 : w.cell? ⟨g1, 0, none⟩ = some (.slice A0 m.length c0)) (hc2 : w.cell? ⟨g2, 0, none⟩ = some (.int .i64 c)) (hr : Kd.C (Kd.int .i64) w A0 m.length m) (hm : m.length ≤ c0) (h : impl_LeadsTo.f k m n c = some b) :
  Calls Try.prog 64 #[.int .i64 n, .pointer (some ⟨g1, 0, none⟩), .pointer (some ⟨g2, 0, none⟩)] w fun e w' => e = .returned (.bool b) ∧ Below w.heap.size w w' := by
 have HR := Aside0.mk hr
 have HM := Aside0.mk hm
 have AH := Aside0.mk h
 clear hr hm h
 have HB := Aside0.mk (Below.refl w.heap.size w)
 go_enter Try.func64, Try.ntmps64
 go_wp2_with (first
  | (go_at_call 17; (refine (impl_LeadsTo.calls k A0 c0 m n c b _ (Kd.C_below HR.out HB.out) HM.out AH.out).mono ?_); rintro e w8 ⟨rfl, hb⟩; have n0_ := Aside0.mk (below_step HB.out hb); clear HB; have HB := n0_; clear n0_; clear hb))
 go_ret
 exact ⟨rfl, zB8_0⟩
/-- Does a cell lead to itself. -/
def loAt (k : Nat) (m : List Int) (c : Int) : Option Bool := (impl_NextOf.f k m c).bind fun t => (findI (fun n => impl_LeadsTo.f k m n c) t 0).bind fun v => some (decide (v ≥ 0))
theorem loAt_mono (k : Nat) (m : List Int) (c : Int) : LeO (loAt k m c) (loAt (k + 1) m c) := LeO.bind (impl_NextOf.mono _ _ _) (fun _ => LeO.bind (findI_mono (fun n => impl_LeadsTo.mono _ _ _ _) _ _) (fun _ => LeO.refl _))
set_option maxHeartbeats 4000000 in
set_option maxRecDepth 100000 in
theorem loAt_calls (k : Nat) (g : Nat) (A0 : Option Addr) (c0 : Nat) (m : List Int) (c : Int) (b : Bool) (w : World) (hc : w.cell? ⟨g, 0, none⟩ = some (.slice A0 m.length c0)) (hr : Kd.C (Kd.int .i64) w A0 m.length m) (hm : m.length ≤ c0) (h : loAt k m c = some b) :
  Calls Try.prog 63 #[.int .i64 c, .pointer (some ⟨g, 0, none⟩)] w fun e w' => e = .returned (.bool b) ∧ Below w.heap.size w w' := by
 have HR := Aside0.mk hr
 have HM := Aside0.mk hm
 have HC := Aside0.mk hc
 unfold loAt at h
 obtain ⟨ts, h1, h⟩ := Option.bind_eq_some_iff.mp h
 obtain ⟨v, h2, h⟩ := Option.bind_eq_some_iff.mp h
 obtain rfl := Option.some.inj h
 have AR := Aside0.mk h1
 have AV := Aside0.mk h2
 clear hr hm hc h h1 h2
 have HB := Aside0.mk (Below.refl w.heap.size w)
 go_enter Try.func63, Try.ntmps63
 go_wp2_with (first
  | ((with_reducible refine gate_dst (N := 2) rfl ?_); refine box_event ?hg (N := 2) ?hd (cs := #[.int .i64 c]) (t := 3) ?hr ?_; (case hd => rfl); (case hg => rfl); (case hr => first | (go_simp; done) | (go_simp; rfl)); intro g1 hg w1 hbox hb; have BK1 := Aside0.mk ((blk_cell hbox 0).trans rfl : w1.cell? ⟨g1, 0, none⟩ = some (.int .i64 c)); have n0_ := Aside0.mk (below_step HB.out hb); clear HB; have HB := n0_; clear n0_; have hcz := BK1.out; have HC1 := Aside0.mk ((hb.cell (World.block_lt_of_cell? _ _ HC.out)).trans HC.out : w1.cell? ⟨g, 0, none⟩ = some (.slice A0 m.length c0)); have hcn := HC1.out; clear hg hb hbox)
  | (go_at_call 15; (refine (impl_NextOf.calls k A0 c0 m c ts _ (Kd.C_below HR.out HB.out) HM.out AR.out).mono ?_); rintro e w8 ⟨v0, rfl, ho, hb⟩; obtain ⟨A1, c1, eo⟩ := Kd.R_slice ho; subst eo; have HO := Aside0.mk (Kd.R_reads' ho).2.2; clear ho; have n1_ := Aside0.mk ((hb.cell (World.block_lt_of_cell? _ _ BK1.out)).trans BK1.out); clear BK1; have BK1 := n1_; clear n1_; have n1_ := Aside0.mk ((hb.cell (World.block_lt_of_cell? _ _ HC1.out)).trans HC1.out); clear HC1; have HC1 := n1_; clear n1_; have n0_ := Aside0.mk (below_step HB.out hb); clear HB; have HB := n0_; clear n0_; clear hb)
  | (go_at_call 62; (refine (ld_has (fun n => impl_LeadsTo.f k m n c) A1 c1 ts _ _ v _ HO.out (fun w9 hw9 n b hnb => ldAt_calls k g g1 A0 c0 m c n b w9 ((hw9.cell (World.block_lt_of_cell? _ _ HC1.out)).trans HC1.out) ((hw9.cell (World.block_lt_of_cell? _ _ BK1.out)).trans BK1.out) (Kd.C_below (Kd.C_below HR.out HB.out) hw9) HM.out hnb) AV.out).mono ?_); rintro e w8 ⟨rfl, hb⟩; have n0_ := Aside0.mk (below_step HB.out hb); clear HB; have HB := n0_; clear n0_; clear hb))
 go_ret
 exact ⟨rfl, zB8_0⟩
def impl_LoopsFrom.f (k : Nat) (l0 : List Int) (a1 : Int) : Option Bool := (impl_ReachOf.f k l0 a1).bind fun r => (findI (loAt k l0) r 0).bind fun v => some (decide (v ≥ 0))
theorem impl_LoopsFrom.mono : ∀ a0 a1 k, LeO (impl_LoopsFrom.f k a0 a1) (impl_LoopsFrom.f (k + 1) a0 a1) := fun a0 a1 k => LeO.bind (impl_ReachOf.mono _ _ _) (fun _ => LeO.bind (findI_mono (loAt_mono k a0) _ _) (fun _ => LeO.refl _))
set_option maxHeartbeats 4000000 in
set_option maxRecDepth 100000 in
theorem impl_LoopsFrom.calls (k : Nat) (A0 : Option Addr) (c0 : Nat) (l0 : List Int) (a1 : Int) (r : Bool) (w : World) (hr0 : Kd.C (Kd.int .i64) w A0 l0.length l0) (hc0 : l0.length ≤ c0) (h : impl_LoopsFrom.f k l0 a1 = some r) :
  Calls Try.prog 19 #[.slice A0 l0.length c0, .int .i64 a1] w fun e w' => e = .returned (.bool r) ∧ Below w.heap.size w w' := by
 have HR0 := Aside0.mk hr0
 have HC0 := Aside0.mk hc0
 unfold impl_LoopsFrom.f at h
 obtain ⟨rs, h1, h⟩ := Option.bind_eq_some_iff.mp h
 obtain ⟨v, h2, h⟩ := Option.bind_eq_some_iff.mp h
 obtain rfl := Option.some.inj h
 have AR := Aside0.mk h1
 have AV := Aside0.mk h2
 clear hr0 hc0 h h1 h2
 have HB := Aside0.mk (Below.refl w.heap.size w)
 go_enter Try.func19, Try.ntmps19
 go_wp2_with (first
  | ((with_reducible refine gate_dst (N := 2) rfl ?_); refine box_event ?hg (N := 2) ?hd (cs := #[.slice A0 l0.length c0]) (t := 24) ?hr ?_; (case hd => rfl); (case hg => rfl); (case hr => first | (go_simp; done) | (go_simp; rfl)); intro g1 hg w1 hbox hb; have BK1 := Aside0.mk ((blk_cell hbox 0).trans rfl : w1.cell? ⟨g1, 0, none⟩ = some (.slice A0 l0.length c0)); have n0_ := Aside0.mk (below_step HB.out hb); clear HB; have HB := n0_; clear n0_; have hcz := BK1.out; clear hg hb hbox)
  | (go_at_call 8; (refine (impl_ReachOf.calls k A0 c0 l0 a1 rs _ (Kd.C_below HR0.out HB.out) HC0.out AR.out).mono ?_); rintro e w8 ⟨v0, rfl, ho, hb⟩; obtain ⟨A1, c1, eo⟩ := Kd.R_slice ho; subst eo; have HO := Aside0.mk (Kd.R_reads' ho).2.2; clear ho; have n1_ := Aside0.mk ((hb.cell (World.block_lt_of_cell? _ _ BK1.out)).trans BK1.out); clear BK1; have BK1 := n1_; clear n1_; have n0_ := Aside0.mk (below_step HB.out hb); clear HB; have HB := n0_; clear n0_; clear hb)
  | (go_at_call 62; (refine (lo_has (loAt k l0) A1 c1 rs _ v _ HO.out (fun w9 hw9 c b hcb => loAt_calls k g1 A0 c0 l0 c b w9 ((hw9.cell (World.block_lt_of_cell? _ _ BK1.out)).trans BK1.out) (Kd.C_below (Kd.C_below HR0.out HB.out) hw9) HC0.out hcb) AV.out).mono ?_); rintro e w8 ⟨rfl, hb⟩; have n0_ := Aside0.mk (below_step HB.out hb); clear HB; have HB := n0_; clear n0_; clear hb))
 go_ret
 exact ⟨rfl, zB8_0⟩

end Go.Proofs.Ytajhfpeijagpnaa.PFnFlows
