-- made by wip/tools/myprint.py out of the seat's translation
import Derived.Test.YtehgffgpgoopiaaPFnNoLoopEndsx0
import Derived.Test.YtehgffgpgoopiaaPFnNoLoopEndsx2
import Derived.Test.YtehgffgpgoopiaaPFnNoLoopEndsx4
import Derived.Test.YtehgffgpgoopiaaPFnNoLoopEndsx9
namespace Go.Proofs.Ytehgffgpgoopiaa.PFnNoLoopEnds
open Go.RowKit Go.Proofs.YtehgffgpgoopiaaW.PrintWords Go.Proofs.YtehgffgpgoopiaaW.PrintLast Go.Proofs.YtehgffgpgoopiaaW.PrintMore
attribute [local go_sem] max2_int min2_int max_two min_two max_three min_three max_four min_four   -- for this text's walks alone
set_option linter.unusedVariables false
set_option linter.unusedSimpArgs false
abbrev zq10_0 : Array Bool := #[false, false, false, false, false, false, false, false, false, false, false, false, false, false]
abbrev zq10_1 : Array Bool := #[true, false, false, false, false, false, false, false, false, false, false, false, false, false]
abbrev zq10_2 : Array Bool := #[true, true, false, false, false, false, false, false, false, false, false, false, false, false]
abbrev zq10_3 : Array Bool := #[true, true, true, false, false, false, false, false, false, false, false, false, false, false]
abbrev zq10_4 : Array Bool := #[true, true, true, true, false, false, false, false, false, false, false, false, false, false]
abbrev zq10_5 : Array Bool := #[true, true, true, true, true, false, false, false, false, false, false, false, false, false]
abbrev zq10_6 : Array Bool := #[true, true, true, true, true, false, false, false, true, false, false, false, false, false]
abbrev zq10_7 : Array Bool := #[true, true, true, true, true, false, false, false, true, true, false, false, false, false]
abbrev zq10_8 : Array Bool := #[true, true, true, true, true, false, false, false, true, true, true, false, false, false]
abbrev zq10_9 : Array Bool := #[true, true, true, true, true, true, false, false, true, true, true, false, false, false]
abbrev zq10_10 : Array Bool := #[true, true, true, true, true, true, false, false, true, true, true, true, false, false]
abbrev zq10_11 : Array Bool := #[true, true, true, true, true, true, true, false, true, true, true, true, false, false]
abbrev zq10_12 : Array Bool := #[true, true, true, true, true, true, true, true, true, true, true, true, false, false]
abbrev zq10_13 : Array Bool := #[true, true, true, true, true, true, true, true, true, true, true, true, true, false]
abbrev zq10_14 : Array Bool := #[true, true, true, true, true, true, true, true, true, true, true, true, true, true]
theorem zR10 {p q : Prop} (x : q) (h : q → p := by intro h; (with_reducible repeat (first | apply Kd.R_alloc | apply Kd.R_drewN | apply Kd.R_drew)); exact h) : p := h x
theorem zA10 {p : Prop} [Decidable p] (h : decide p = true := by first | (with_reducible assumption) | assumption) : p := of_decide_eq_true h
theorem zT10 {p : Prop} (h : p := by (try simp only [List.map_toArray, List.map_cons, List.map_nil]); first | done | rfl | (simp only [List.length_drop, List.length_take]; rfl)) : p := h
theorem zC10 {p q : Prop} (x : q) (h : q → p := by intro h; repeat (first | exact h | (with_reducible refine Kd.C_alloc ?_ _) | (with_reducible refine Kd.C_drewN ?_ _) | (with_reducible refine Kd.C_drew ?_))) : p := h x
theorem zV10 {a b : Act} (h : a = b := by simp only [Act.put, List.setIfInBounds_toArray, List.set_cons_zero, List.set_cons_succ, i64_w, i32_w]; rfl) : a = b := h
theorem zE10 {p : Prop} (h : p := by first | rfl | (simp [errW_none, errW_some] <;> rfl) | (simp [*, errW_none, errW_some] <;> rfl)) : p := h
theorem zB10_0 {p : Prop} (h : p := by repeat (first | (with_reducible first | exact HB.out | apply below_alloc | apply pw_below_drewN | apply below_drew1) | exact HB.out)) : p := h

/-! ### spec_ReachOf: function 20 -/
mutual
def spec_ReachOf.j0 : Nat → List Int → Int → List Int → Bool → Option (List Int)
 | 0, _, _, _, _ => none
 | k + 1, x0, x1, x5, x16 => if x16 = true then (some x5) else ((spec_l23Marks.f k x0 (([x1] : List Int))).bind fun t470 => (spec_ReachOf.l0 k x5 t470 0))
def spec_ReachOf.l0 : Nat → List Int → List Bool → Int → Option (List Int)
 | 0, _, _, _ => none
 | k + 1, x5, x6, x7 => if x7 < 24 then (if 0 ≤ x7 then (if x7 < (x6.length : Int) then (if rdOf false x6 x7 = true then (if x5.length < 17592186044416 then (spec_ReachOf.l0 k (x5 ++ [x7]) x6 (wrap64 (x7 + 1))) else (none)) else (spec_ReachOf.l0 k x5 x6 (wrap64 (x7 + 1)))) else (none)) else (none)) else (some x5)
end
def spec_ReachOf.f (k : Nat) (l0 : List Int) (a1 : Int) : Option (List Int) := (some (([] : List Int) : List Int)).bind fun y462 => ((spec_l1Words.f k l0 24).bind fun t465 => (if t465 = true then ((spec_l1In.f a1 0 23).bind fun t466 => (spec_ReachOf.j0 k l0 a1 y462 (!t466))) else (spec_ReachOf.j0 k l0 a1 y462 true)))
theorem spec_ReachOf.mono_l : ∀ k, (∀ y0 y1 y2 y3, LeO (spec_ReachOf.j0 k y0 y1 y2 y3) (spec_ReachOf.j0 (k + 1) y0 y1 y2 y3)) ∧ (∀ y0 y1 y2, LeO (spec_ReachOf.l0 k y0 y1 y2) (spec_ReachOf.l0 (k + 1) y0 y1 y2))
 | 0 => ⟨fun _ _ _ _ r h => by simp [spec_ReachOf.j0] at h, fun _ _ _ r h => by simp [spec_ReachOf.l0] at h⟩
 | k + 1 => by
  obtain ⟨ih0, ih1⟩ := spec_ReachOf.mono_l k
  refine ⟨?_, ?_⟩
  ·intro y0 y1 y2 y3
   unfold spec_ReachOf.j0
   repeat' first
   | (with_reducible exact ih0 _ _ _ _)
   | (with_reducible exact ih1 _ _ _)
   | (with_reducible exact spec_l1Words.mono _ _ _)
   | (with_reducible exact spec_l23Marks.mono _ _ _)
   | (with_reducible exact LeO.refl _)
   | (with_reducible exact LeO.none _)
   | (with_reducible refine LeO.ite ?_ ?_)
   | (with_reducible refine LeO.bind ?_ (fun _ => ?_))
   | exact ih0 _ _ _ _
   | exact ih1 _ _ _
   | exact spec_l1Words.mono _ _ _
   | exact spec_l23Marks.mono _ _ _
   | exact LeO.none _
   | refine LeO.ite ?_ ?_
   | refine LeO.bind ?_ (fun _ => ?_)
  ·intro y0 y1 y2
   unfold spec_ReachOf.l0
   repeat' first
   | (with_reducible exact ih0 _ _ _ _)
   | (with_reducible exact ih1 _ _ _)
   | (with_reducible exact spec_l1Words.mono _ _ _)
   | (with_reducible exact spec_l23Marks.mono _ _ _)
   | (with_reducible exact LeO.refl _)
   | (with_reducible exact LeO.none _)
   | (with_reducible refine LeO.ite ?_ ?_)
   | (with_reducible refine LeO.bind ?_ (fun _ => ?_))
   | exact ih0 _ _ _ _
   | exact ih1 _ _ _
   | exact spec_l1Words.mono _ _ _
   | exact spec_l23Marks.mono _ _ _
   | exact LeO.none _
   | refine LeO.ite ?_ ?_
   | refine LeO.bind ?_ (fun _ => ?_)
theorem spec_ReachOf.mono : ∀ a0 a1 k, LeO (spec_ReachOf.f k a0 a1) (spec_ReachOf.f (k + 1) a0 a1) := by
 intro a0 a1 k
 obtain ⟨ih0, ih1⟩ := spec_ReachOf.mono_l k
 unfold spec_ReachOf.f
 repeat' first
   | (with_reducible exact ih0 _ _ _ _)
   | (with_reducible exact ih1 _ _ _)
   | (with_reducible exact spec_l1Words.mono _ _ _)
   | (with_reducible exact spec_l23Marks.mono _ _ _)
   | (with_reducible exact LeO.refl _)
   | (with_reducible exact LeO.none _)
   | (with_reducible refine LeO.ite ?_ ?_)
   | (with_reducible refine LeO.bind ?_ (fun _ => ?_))
   | exact ih0 _ _ _ _
   | exact ih1 _ _ _
   | exact spec_l1Words.mono _ _ _
   | exact spec_l23Marks.mono _ _ _
   | exact LeO.none _
   | refine LeO.ite ?_ ?_
   | refine LeO.bind ?_ (fun _ => ?_)
set_option maxHeartbeats 8000000 in
set_option maxRecDepth 100000 in
theorem spec_ReachOf.calls (k : Nat) (A0 : Option Addr) (c0 : Nat) (l0 : List Int) (a1 : Int) (r : List Int) (w : World) (hr0 : Kd.C (Kd.int .i64) w A0 l0.length l0) (hc0 : l0.length ≤ c0) (h : spec_ReachOf.f k l0 a1 = some r) :
  Calls Try.prog 20 #[.slice A0 l0.length c0, .int .i64 a1] w fun e w' => ∃ v0_ : Value, e = .returned (v0_) ∧ Kd.R (Kd.int .i64) 3 w' w.heap.size (fun _ => True) v0_ r ∧ Below w.heap.size w w' := by
 have HR0 := Aside0.mk hr0
 have HC0 := Aside0.mk hc0
 clear hr0 hc0
 have HB := Aside0.mk (Below.refl w.heap.size w)
 have H : ((some (([] : List Int) : List Int)).bind fun y462 => ((spec_l1Words.f k l0 24).bind fun t465 => (if t465 = true then ((spec_l1In.f a1 0 23).bind fun t466 => (spec_ReachOf.j0 k l0 a1 y462 (!t466))) else (spec_ReachOf.j0 k l0 a1 y462 true)))) = some r := h
 clear h
 obtain ⟨y462, hy462⟩ : ∃ y_ : List Int, y_ = (([] : List Int)) := ⟨_, rfl⟩
 replace H : ((spec_l1Words.f k l0 24).bind fun t465 => (if t465 = true then ((spec_l1In.f a1 0 23).bind fun t466 => (spec_ReachOf.j0 k l0 a1 y462 (!t466))) else (spec_ReachOf.j0 k l0 a1 y462 true))) = some r := by first | (rw [hy462]; with_reducible exact H) | (have H2_ := (Option.bind_some _ _).symm.trans H; rw [hy462]; with_reducible exact H2_) | (have H2_ := (Option.bind_some _ _).symm.trans H; with_reducible exact H2_) | with_reducible exact H | (rw [hy462]; exact H) | exact H
 have Ny462 := Aside0.mk hy462
 clear hy462
 have HC3 := Aside0.mk H
 clear H
 go_enter Try.func20, Try.ntmps20
 go_upto_region 2 with (first | ((with_reducible refine gate_dst (N := 8) rfl ?_); refine Kd.R_lit (Kd.int .i64) _ 3 ?hg (N := 8) ?hd (xs := ([] : List Int)) (inner := []) (ok := fun _ => True) (okp := fun _ => True) ?hr ?hp (fun _ hk => hk) trivial (Below.refl _ _) (Nat.le_refl _) (by simp) ?_; (case hd => rfl); (case hg => rfl); (case hr => first | (go_simp; done) | (go_simp; rfl)); (case hp => exact (Reps.none _ _)); intro v463 w4 ho5 hb hg_ hnew_; clear hg_ hnew_; (first | rw [← Ny462.out] at ho5 | (simp only [Int.reduceToNat] at ho5; rw [← Ny462.out] at ho5)); have n0_ := Aside0.mk (Kd.R_lower ho5 (below_size (zB10_0))); have n1_ := Aside0.mk (below_step (zB10_0) hb); clear HB; have HO464 := n0_; have HB := n1_; clear n0_ n1_; clear hb ho5))
 (try simp only [Act.put, List.setIfInBounds_toArray, List.set_cons_zero, List.set_cons_succ])
 go_cut [16] (fun v16 wc => ∃ (kq : Nat) (x16_2 : Bool), v16 = .bool x16_2 ∧ Aside0 (spec_ReachOf.j0 kq l0 a1 y462 x16_2 = some r) ∧ Aside0 (kq ≤ k) ∧ Aside0 (Kd.R (Kd.int .i64) 3 wc w.heap.size (fun _ => True) v463 y462) ∧ Aside0 (Below w.heap.size w wc))
 case first =>
  have H := HC3.out
  clear HC3
  replace H := Option.bind_eq_some_iff.mp H
  obtain ⟨t465, A60, H⟩ := H
  replace H : (if t465 = true then ((spec_l1In.f a1 0 23).bind fun t466 => (spec_ReachOf.j0 k l0 a1 y462 (!t466))) else (spec_ReachOf.j0 k l0 a1 y462 true)) = some r := H
  have A6 := Aside0.mk A60
  clear A60
  by_cases c7 : t465 = true
  rotate_left
  ·replace c7 := Bool.eq_false_iff.mpr c7
   subst c7
   have H1 : (spec_ReachOf.j0 k l0 a1 y462 true) = some r := by rw [if_neg (show ¬ (false = true) by decide)] at H; exact H
   clear H
   have H := H1
   clear H1
   have H' := Aside0.mk H
   clear H
   go_wp2_with (first | ((with_reducible refine gate_callee (f := 42) rfl ?_); refine goesL_ (some 10) rfl rfl Try.func42 (by kernel_rfl) rfl #[.slice A0 l0.length c0, .int .i64 24] rfl zT10 ?_; (with_reducible refine (spec_l1Words.calls k _ _ l0 24 false _ ?side1 ?side2 A6.out).mono ?_); (case side1 => exact zC10 (Kd.C_below HR0.out HB.out)); (case side2 => exact HC0.out); rintro e w' ⟨rfl, ⟨nd, rfl⟩⟩; refine ⟨_, rfl, ?_⟩))
   go_meet
   case rel => exact ⟨_, (true), (by first | rfl | (simp; done) | (simp [*]; done)), H', ⟨by first | omega | exact Nat.le_refl _⟩, ⟨zR10 HO464.out⟩, ⟨zB10_0⟩⟩
  subst c7
  have H1 : ((spec_l1In.f a1 0 23).bind fun t466 => (spec_ReachOf.j0 k l0 a1 y462 (!t466))) = some r := by rw [if_pos rfl] at H; exact H
  clear H
  have H := H1
  clear H1
  replace H := Option.bind_eq_some_iff.mp H
  obtain ⟨t466, A80, H⟩ := H
  replace H : (spec_ReachOf.j0 k l0 a1 y462 (!t466)) = some r := H
  have A8 := Aside0.mk A80
  clear A80
  have H' := Aside0.mk H
  clear H
  go_wp2_with (first | ((with_reducible refine gate_callee (f := 42) rfl ?_); refine goesL_ (some 10) rfl rfl Try.func42 (by kernel_rfl) rfl #[.slice A0 l0.length c0, .int .i64 24] rfl zT10 ?_; (with_reducible refine (spec_l1Words.calls k _ _ l0 24 true _ ?side1 ?side2 A6.out).mono ?_); (case side1 => exact zC10 (Kd.C_below HR0.out HB.out)); (case side2 => exact HC0.out); rintro e w' ⟨rfl, ⟨nd, rfl⟩⟩; refine ⟨_, rfl, ?_⟩) | (go_at_call 43; (with_reducible refine (spec_l1In.calls a1 0 23 t466 _ A8.out).mono ?_); rintro e w' ⟨rfl, ⟨nd, rfl⟩⟩))
  go_meet
  case rel => exact ⟨_, (!t466), (by first | rfl | (simp; done) | (simp [*]; done)), H', ⟨by first | omega | exact Nat.le_refl _⟩, ⟨zR10 HO464.out⟩, ⟨zB10_0⟩⟩
 case rest =>
  clear HC3
  try clear c2
  try clear p2
  try clear c4
  try clear c7
  obtain ⟨kq, x16_2, rfl, HA, HJ2, HO_5, HB⟩ := hcut
  cases kq with
  | zero => exact absurd HA.out (by simp [spec_ReachOf.j0])
  | succ kj2 =>
   have H := HA.out
   clear HA
   simp only [spec_ReachOf.j0] at H
   by_cases c9 : x16_2 = true
   ·subst c9
    have H1 : (some y462) = some r := by rw [if_pos rfl] at H; exact H
    clear H
    have H := H1
    clear H1
    obtain rfl := Option.some.inj H
    go_wp2
    go_ret
    exact ⟨_, zE10, zR10 HO_5.out, zB10_0⟩
   replace c9 := Bool.eq_false_iff.mpr c9
   subst c9
   have H1 : ((spec_l23Marks.f kj2 l0 (([a1] : List Int))).bind fun t470 => (spec_ReachOf.l0 kj2 y462 t470 0)) = some r := by rw [if_neg (show ¬ (false = true) by decide)] at H; exact H
   clear H
   have H := H1
   clear H1
   obtain ⟨y467, hy467⟩ : ∃ y_ : List Int, y_ = (([a1] : List Int)) := ⟨_, rfl⟩
   replace H : ((spec_l23Marks.f kj2 l0 y467).bind fun t470 => (spec_ReachOf.l0 kj2 y462 t470 0)) = some r := by first | (rw [hy467]; with_reducible exact H) | (have H2_ := (Option.bind_some _ _).symm.trans H; rw [hy467]; with_reducible exact H2_) | (have H2_ := (Option.bind_some _ _).symm.trans H; with_reducible exact H2_) | with_reducible exact H | (rw [hy467]; exact H) | exact H
   have Ny467 := Aside0.mk hy467
   clear hy467
   replace H := Option.bind_eq_some_iff.mp H
   obtain ⟨t470, A100, H⟩ := H
   replace H : (spec_ReachOf.l0 kj2 y462 t470 0) = some r := H
   have A10 := Aside0.mk A100
   clear A100
   have H' := Aside0.mk H
   clear H
   go_wp2_with (first | ((with_reducible refine gate_dst (N := 20) rfl ?_); refine Kd.R_lit (Kd.int .i64) _ 3 ?hg (N := 20) ?hd (xs := ([a1] : List Int)) (inner := [.int .i64 a1]) (ok := fun _ => True) (okp := fun _ => True) ?hr ?hp (fun _ hk => hk) trivial (Below.refl _ _) (Nat.le_refl _) (by simp) ?_; (case hd => rfl); (case hg => rfl); (case hr => first | (go_simp; done) | (go_simp; rfl)); (case hp => exact (Reps.one (show Kd.M (Kd.int .i64) _ _ _ a1 [.int .i64 a1] from rfl) (Reps.none _ _))); intro v468 w11 ho12 hb hg_ hnew_; clear hg_ hnew_; (first | rw [← Ny467.out] at ho12 | (simp only [Int.reduceToNat] at ho12; rw [← Ny467.out] at ho12)); have n0_ := Aside0.mk (Kd.R_elder' (zR10 HO_5.out) (Kd.R_base ho12) hb); have n1_ := Aside0.mk (Kd.R_lower (Kd.R_new' ho12 (Kd.R_lt (zR10 HO_5.out))) (below_size (zB10_0))); have n2_ := Aside0.mk (below_step (zB10_0) hb); clear HO_5; clear HB; have HO_5 := n0_; have HO469 := n1_; have HB := n2_; clear n0_ n1_ n2_; clear hb ho12; obtain ⟨Ao13, co13, eo13⟩ := Kd.R_slice HO469.out; subst eo13) | ((with_reducible refine gate_callee (f := 21) rfl ?_); refine goesL_ (some 21) rfl rfl Try.func21 (by kernel_rfl) rfl #[.slice A0 l0.length c0, .slice Ao13 y467.length co13] rfl zT10 ?_; (with_reducible refine (spec_l23Marks.calls kj2 _ _ l0 _ _ y467 t470 _ ?side1 ?side2 ?side3 ?side4 A10.out).mono ?_); (case side1 => exact zC10 (Kd.C_below HR0.out HB.out)); (case side2 => exact HC0.out); (case side3 => exact zC10 (Kd.R_reads' HO469.out).2.2); (case side4 => exact (Kd.R_reads' HO469.out).2.1); rintro e w14 ⟨v471, rfl, ho0, hb⟩; refine ⟨_, rfl, ?_⟩; have n0_ := Aside0.mk (Kd.R_below (zR10 HO_5.out) hb); have n1_ := Aside0.mk (Kd.R_below (zR10 HO469.out) hb); have n2_ := Aside0.mk (Kd.R_lower ho0 (below_size (zB10_0))); have n3_ := Aside0.mk (below_step (zB10_0) hb); clear HO_5; clear HO469; clear HB; have HO_5 := n0_; have HO469 := n1_; have HO472 := n2_; have HB := n3_; clear n0_ n1_ n2_ n3_; (try clear hb); (try clear hb2); (try clear hk); (try clear hi); (try clear ho0)))
   go_loopg [5, 7] kj2 (fun kq v5 v7 w' => ∃ (x5_2 : List Int) (x7_2 : Int), v7 = .int .i64 x7_2 ∧ Aside0 (spec_ReachOf.l0 kq x5_2 t470 x7_2 = some r) ∧ Aside0 (kq ≤ kj2) ∧ Aside0 (Kd.R (Kd.int .i64) 3 w' w.heap.size (fun _ => True) v5 x5_2) ∧ Aside0 (Kd.R Kd.bool 4 w' w.heap.size (fun _ => True) v471 t470) ∧ Aside0 (Below w.heap.size w w'))
   case atStart => exact ⟨(y462), (0), (by first | rfl | (simp; done) | (simp [*]; done)), H', ⟨Nat.le_refl _⟩, ⟨by (with_reducible repeat (first | apply Kd.R_alloc | apply Kd.R_drewN | apply Kd.R_drew)); exact Kd.R_mono HO_5.out (fun _ hk => trivial)⟩, ⟨zR10 HO472.out⟩, ⟨zB10_0⟩⟩
   case round =>
    clear H'
    try clear c2
    try clear p2
    try clear c4
    try clear c7
    try clear c9
    try clear p2
    obtain ⟨x5_2, x7_2, rfl, HA, HK2, HO_5, HO_6, HB⟩ := hrel
    cases gk with
    | zero => exact absurd HA.out (by simp [spec_ReachOf.l0])
    | succ k2 =>
     have H := HA.out
     clear HA
     simp only [spec_ReachOf.l0] at H
     by_cases c15 : x7_2 < 24
     rotate_left
     ·rw [if_neg c15] at H
      have c15b0 : decide (x7_2 < 24) = false := decide_eq_false c15
      clear c15
      obtain rfl := Option.some.inj H
      go_wp2
      go_ret
      exact ⟨_, zE10, zR10 HO_5.out, zB10_0⟩
     rw [if_pos c15] at H
     have c15b0 : decide (x7_2 < 24) = true := decide_eq_true c15
     clear c15
     by_cases c16 : 0 ≤ x7_2
     rotate_left
     ·rw [if_neg c16] at H
      exact absurd H (by simp)
     rw [if_pos c16] at H
     have c16b0 : decide (0 ≤ x7_2) = true := decide_eq_true c16
     clear c16
     by_cases c17 : x7_2 < (t470.length : Int)
     rotate_left
     ·rw [if_neg c17] at H
      exact absurd H (by simp)
     rw [if_pos c17] at H
     have c17b0 : decide (x7_2 < (t470.length : Int)) = true := decide_eq_true c17
     clear c17
     obtain ⟨bq18, hbq18⟩ : ∃ b_ : Bool, b_ = (rdOf false t470 x7_2) := ⟨_, rfl⟩
     replace H : (if bq18 = true then (if x5_2.length < 17592186044416 then (spec_ReachOf.l0 k2 (x5_2 ++ [x7_2]) t470 (wrap64 (x7_2 + 1))) else (none)) else (spec_ReachOf.l0 k2 x5_2 t470 (wrap64 (x7_2 + 1)))) = some r := by rw [← hbq18] at H; exact H
     have Nbq18 := Aside0.mk hbq18
     clear hbq18
     by_cases c19 : bq18 = true
     rotate_left
     ·replace c19 := Bool.eq_false_iff.mpr c19
      subst c19
      have H1 : (spec_ReachOf.l0 k2 x5_2 t470 (wrap64 (x7_2 + 1))) = some r := by rw [if_neg (show ¬ (false = true) by decide)] at H; exact H
      clear H
      have H := H1
      clear H1
      have H' := Aside0.mk H
      clear H
      obtain ⟨Ao23, co23, eo23⟩ := Kd.R_slice HO_6.out
      subst eo23
      have p473 : 0 ≤ (x7_2 : Int) := zA10
      have q473 : x7_2 < (t470.length : Int) := zA10
      obtain ⟨ad473, e473, hx473_0⟩ := Kd.at_bool (Kd.R_reads' HO_6.out).2.2 x7_2 p473 q473
      (try rw [← Nbq18.out] at hx473_0)
      cases e473
      replace p473 := eq_true p473
      replace q473 := eq_true q473
      go_wp2
      go_roundg k2
      case measure => have := HJ2.out; have := HK2.out; omega
      case rel => exact ⟨(x5_2), (wrap64 (x7_2 + 1)), (by first | rfl | (simp; done) | (simp [*]; done)), H', ⟨by have := HJ2.out; have := HK2.out; omega⟩, ⟨zR10 HO_5.out⟩, ⟨zR10 HO_6.out⟩, ⟨zB10_0⟩⟩
     subst c19
     have H1 : (if x5_2.length < 17592186044416 then (spec_ReachOf.l0 k2 (x5_2 ++ [x7_2]) t470 (wrap64 (x7_2 + 1))) else (none)) = some r := by rw [if_pos rfl] at H; exact H
     clear H
     have H := H1
     clear H1
     by_cases c20 : x5_2.length < 17592186044416
     rotate_left
     ·rw [if_neg c20] at H
      exact absurd H (by simp)
     rw [if_pos c20] at H
     have LMc20 := Aside0.mk c20
     clear c20
     obtain ⟨y474, hy474⟩ : ∃ y_ : List Int, y_ = (x5_2 ++ [x7_2]) := ⟨_, rfl⟩
     replace H : (spec_ReachOf.l0 k2 y474 t470 (wrap64 (x7_2 + 1))) = some r := by first | (rw [hy474]; with_reducible exact H) | (have H2_ := (Option.bind_some _ _).symm.trans H; rw [hy474]; with_reducible exact H2_) | (have H2_ := (Option.bind_some _ _).symm.trans H; with_reducible exact H2_) | with_reducible exact H | (rw [hy474]; exact H) | exact H
     have Ny474 := Aside0.mk hy474
     clear hy474
     have H' := Aside0.mk H
     clear H
     obtain ⟨Ao21, co21, eo21⟩ := Kd.R_slice HO_6.out
     subst eo21
     have p473 : 0 ≤ (x7_2 : Int) := zA10
     have q473 : x7_2 < (t470.length : Int) := zA10
     obtain ⟨ad473, e473, hx473_0⟩ := Kd.at_bool (Kd.R_reads' HO_6.out).2.2 x7_2 p473 q473
     (try rw [← Nbq18.out] at hx473_0)
     cases e473
     replace p473 := eq_true p473
     replace q473 := eq_true q473
     go_wp2_with (first | ((with_reducible refine gate_builtin (b := .append) (xs := #[.tmp 30, .tmp 32]) rfl ?_); at_builtin; refine Kd.R_append (Kd.int .i64) (w0 := w) w.heap.size rfl (.tmp 30) (.tmp 32) 24 3 (.int .i64 0) 8 rfl Try.underlying24 info3 rfl (by decide) (by omega) u5 x5_2 x7_2 [.int .i64 x7_2] (fun _ => True) (fun _ => False) rfl rfl ?aP (fun _ hk => hk.elim) ?aF ?aO ?aB ?aS ?aL ?_; (case aP => exact rfl); (case aB => exact (zB10_0)); (case aF => exact (fun _ _ => trivial)); (case aO => exact (zR10 HO_5.out)); (case aS => exact (below_size (zB10_0))); (case aL => have := LMc20.out; omega); intro v475 w22 ho hb hg hat; rw [← Ny474.out] at ho; have n0_ := Aside0.mk (Kd.R_over' (zR10 HO_6.out) (Kd.R_typed (zR10 HO_5.out)) (by decide) hg); have n1_ := Aside0.mk (hb); have n2_ := Aside0.mk (ho); clear HO_6; clear HB; clear HO_5; have HO_6 := n0_; have HB := n1_; have HO476 := n2_; clear n0_ n1_ n2_; clear ho hb hg hat))
     go_roundg k2
     case measure => have := HJ2.out; have := HK2.out; omega
     case rel => exact ⟨(y474), (wrap64 (x7_2 + 1)), (by first | rfl | (simp; done) | (simp [*]; done)), H', ⟨by have := HJ2.out; have := HK2.out; omega⟩, ⟨zR10 HO476.out⟩, ⟨zR10 HO_6.out⟩, ⟨zB10_0⟩⟩

/-! ### spec_LoopsFrom: function 7 -/
def spec_LoopsFrom.l0 : Nat → List Int → List Int → Int → Option (Bool)
 | 0, _, _, _ => none
 | k + 1, x0, x5, x6 => if x6 < (x5.length : Int) then (if 0 ≤ x6 then ((spec_NextOf.f k x0 (rd x5 x6)).bind fun t481 => ((spec_l23Marks.f k x0 t481).bind fun t484 => (if 0 ≤ (rd x5 x6) then (if (rd x5 x6) < (t484.length : Int) then (if rdOf false t484 (rd x5 x6) = true then (some true) else (spec_LoopsFrom.l0 k x0 x5 (wrap64 (x6 + 1)))) else (none)) else (none)))) else (none)) else (some false)
def spec_LoopsFrom.f (k : Nat) (l0 : List Int) (a1 : Int) : Option (Bool) := (spec_ReachOf.f k l0 a1).bind fun t477 => (spec_LoopsFrom.l0 k l0 t477 0)
theorem spec_LoopsFrom.mono_l : ∀ k, (∀ y0 y1 y2, LeO (spec_LoopsFrom.l0 k y0 y1 y2) (spec_LoopsFrom.l0 (k + 1) y0 y1 y2))
 | 0 => fun _ _ _ r h => by simp [spec_LoopsFrom.l0] at h
 | k + 1 => by
  have ih0 := spec_LoopsFrom.mono_l k
  ·intro y0 y1 y2
   unfold spec_LoopsFrom.l0
   repeat' first
   | (with_reducible exact ih0 _ _ _)
   | (with_reducible exact spec_NextOf.mono _ _ _)
   | (with_reducible exact spec_ReachOf.mono _ _ _)
   | (with_reducible exact spec_l23Marks.mono _ _ _)
   | (with_reducible exact LeO.refl _)
   | (with_reducible exact LeO.none _)
   | (with_reducible refine LeO.ite ?_ ?_)
   | (with_reducible refine LeO.bind ?_ (fun _ => ?_))
   | exact ih0 _ _ _
   | exact spec_NextOf.mono _ _ _
   | exact spec_ReachOf.mono _ _ _
   | exact spec_l23Marks.mono _ _ _
   | exact LeO.none _
   | refine LeO.ite ?_ ?_
   | refine LeO.bind ?_ (fun _ => ?_)
theorem spec_LoopsFrom.mono : ∀ a0 a1 k, LeO (spec_LoopsFrom.f k a0 a1) (spec_LoopsFrom.f (k + 1) a0 a1) := by
 intro a0 a1 k
 have ih0 := spec_LoopsFrom.mono_l k
 unfold spec_LoopsFrom.f
 repeat' first
   | (with_reducible exact ih0 _ _ _)
   | (with_reducible exact spec_NextOf.mono _ _ _)
   | (with_reducible exact spec_ReachOf.mono _ _ _)
   | (with_reducible exact spec_l23Marks.mono _ _ _)
   | (with_reducible exact LeO.refl _)
   | (with_reducible exact LeO.none _)
   | (with_reducible refine LeO.ite ?_ ?_)
   | (with_reducible refine LeO.bind ?_ (fun _ => ?_))
   | exact ih0 _ _ _
   | exact spec_NextOf.mono _ _ _
   | exact spec_ReachOf.mono _ _ _
   | exact spec_l23Marks.mono _ _ _
   | exact LeO.none _
   | refine LeO.ite ?_ ?_
   | refine LeO.bind ?_ (fun _ => ?_)
def spec_LoopsFrom.T5 : Bool × List (List Nat × List Nat) := (true, [([], []), ([], []), ([], []), ([], []), ([2, 3], [2, 3]), ([4], [4]), ([1, 5], [1, 5]), ([0, 6, 6], [0, 6]), ([], []), ([], []), ([8, 9], [8, 9]), ([10], [10]), ([7, 11], [7, 11]), ([12], [12])])
def spec_LoopsFrom.B5 : List Nat := [0, 0, 0, 0, 12, 28, 62, 127, 0, 0, 768, 1792, 4095, 8191]
theorem spec_LoopsFrom.tab5 : rtab .any (opsOf Try.f7 5) = spec_LoopsFrom.T5 := by kernel_rfl
theorem spec_LoopsFrom.bits5 : waitsOk spec_LoopsFrom.T5.2 spec_LoopsFrom.B5 = true := by kernel_rfl
set_option maxHeartbeats 8000000 in
set_option maxRecDepth 100000 in
theorem spec_LoopsFrom.calls (k : Nat) (A0 : Option Addr) (c0 : Nat) (l0 : List Int) (a1 : Int) (r : Bool) (w : World) (hr0 : Kd.C (Kd.int .i64) w A0 l0.length l0) (hc0 : l0.length ≤ c0) (h : spec_LoopsFrom.f k l0 a1 = some r) :
  Calls Try.prog 7 #[.slice A0 l0.length c0, .int .i64 a1] w fun e w' => e = .returned (.bool r) ∧ Below w.heap.size w w' := by
 have HR0 := Aside0.mk hr0
 have HC0 := Aside0.mk hc0
 clear hr0 hc0
 have HB := Aside0.mk (Below.refl w.heap.size w)
 have H : ((spec_ReachOf.f k l0 a1).bind fun t477 => (spec_LoopsFrom.l0 k l0 t477 0)) = some r := h
 clear h
 replace H := Option.bind_eq_some_iff.mp H
 obtain ⟨t477, A30, H⟩ := H
 replace H : (spec_LoopsFrom.l0 k l0 t477 0) = some r := H
 have A3 := Aside0.mk A30
 clear A30
 have H' := Aside0.mk H
 clear H
 go_enter Try.func7, Try.ntmps7
 go_wp2_with (first | ((with_reducible refine gate_callee (f := 20) rfl ?_); refine goesL_ (some 9) rfl rfl Try.func20 (by kernel_rfl) rfl #[.slice A0 l0.length c0, .int .i64 a1] rfl zT10 ?_; (with_reducible refine (spec_ReachOf.calls k _ _ l0 a1 t477 _ ?side1 ?side2 A3.out).mono ?_); (case side1 => exact zC10 HR0.out); (case side2 => exact HC0.out); rintro e w4 ⟨v478, rfl, ho0, hb⟩; refine ⟨_, rfl, ?_⟩; have n0_ := Aside0.mk (Kd.R_lower ho0 (below_size (zB10_0))); have n1_ := Aside0.mk (below_step (zB10_0) hb); clear HB; have HO479 := n0_; have HB := n1_; clear n0_ n1_; (try clear hb); (try clear hb2); (try clear hk); (try clear hi); (try clear ho0)))
 go_loopg [6] k (fun kq v6 w' => ∃ (x6_1 : Int), v6 = .int .i64 x6_1 ∧ Aside0 (spec_LoopsFrom.l0 kq l0 t477 x6_1 = some r) ∧ Aside0 (kq ≤ k) ∧ Aside0 (Kd.R (Kd.int .i64) 3 w' w.heap.size (fun _ => True) v478 t477) ∧ Aside0 (Below w.heap.size w w'))
 case atStart => exact ⟨(0), (by first | rfl | (simp; done) | (simp [*]; done)), H', ⟨Nat.le_refl _⟩, ⟨zR10 HO479.out⟩, ⟨zB10_0⟩⟩
 case round =>
  clear H'
  try clear c2
  try clear p2
  obtain ⟨x6_1, rfl, HA, HK1, HO_5, HB⟩ := hrel
  cases gk with
  | zero => exact absurd HA.out (by simp [spec_LoopsFrom.l0])
  | succ k1 =>
   have H := HA.out
   clear HA
   simp only [spec_LoopsFrom.l0] at H
   by_cases c5 : x6_1 < (t477.length : Int)
   rotate_left
   ·rw [if_neg c5] at H
    have c5b0 : decide (x6_1 < (t477.length : Int)) = false := decide_eq_false c5
    clear c5
    obtain rfl := Option.some.inj H
    obtain ⟨Ao25, co25, eo25⟩ := Kd.R_slice HO_5.out
    subst eo25
    go_wp2
    go_ret
    exact ⟨zE10, zB10_0⟩
   rw [if_pos c5] at H
   have c5b0 : decide (x6_1 < (t477.length : Int)) = true := decide_eq_true c5
   clear c5
   by_cases c6 : 0 ≤ x6_1
   rotate_left
   ·rw [if_neg c6] at H
    exact absurd H (by simp)
   rw [if_pos c6] at H
   have c6b0 : decide (0 ≤ x6_1) = true := decide_eq_true c6
   clear c6
   replace H := Option.bind_eq_some_iff.mp H
   obtain ⟨t481, A70, H⟩ := H
   replace H : ((spec_l23Marks.f k1 l0 t481).bind fun t484 => (if 0 ≤ (rd t477 x6_1) then (if (rd t477 x6_1) < (t484.length : Int) then (if rdOf false t484 (rd t477 x6_1) = true then (some true) else (spec_LoopsFrom.l0 k1 l0 t477 (wrap64 (x6_1 + 1)))) else (none)) else (none))) = some r := H
   have A7 := Aside0.mk A70
   clear A70
   replace H := Option.bind_eq_some_iff.mp H
   obtain ⟨t484, A80, H⟩ := H
   replace H : (if 0 ≤ (rd t477 x6_1) then (if (rd t477 x6_1) < (t484.length : Int) then (if rdOf false t484 (rd t477 x6_1) = true then (some true) else (spec_LoopsFrom.l0 k1 l0 t477 (wrap64 (x6_1 + 1)))) else (none)) else (none)) = some r := H
   have A8 := Aside0.mk A80
   clear A80
   by_cases c9 : 0 ≤ (rd t477 x6_1)
   rotate_left
   ·rw [if_neg c9] at H
    exact absurd H (by simp)
   rw [if_pos c9] at H
   have c9b0 : decide (0 ≤ (rd t477 x6_1)) = true := decide_eq_true c9
   clear c9
   by_cases c10 : (rd t477 x6_1) < (t484.length : Int)
   rotate_left
   ·rw [if_neg c10] at H
    exact absurd H (by simp)
   rw [if_pos c10] at H
   have c10b0 : decide ((rd t477 x6_1) < (t484.length : Int)) = true := decide_eq_true c10
   clear c10
   obtain ⟨bq11, hbq11⟩ : ∃ b_ : Bool, b_ = (rdOf false t484 (rd t477 x6_1)) := ⟨_, rfl⟩
   replace H : (if bq11 = true then (some true) else (spec_LoopsFrom.l0 k1 l0 t477 (wrap64 (x6_1 + 1)))) = some r := by rw [← hbq11] at H; exact H
   have Nbq11 := Aside0.mk hbq11
   clear hbq11
   by_cases c12 : bq11 = true
   ·subst c12
    have H1 : (some true) = some r := by rw [if_pos rfl] at H; exact H
    clear H
    have H := H1
    clear H1
    obtain rfl := Option.some.inj H
    obtain ⟨Ao13, co13, eo13⟩ := Kd.R_slice HO_5.out
    subst eo13
    try go_wp2
    have n0_ := Aside0.mk (Kd.R_drew HO_5.out)
    have n1_ := Aside0.mk (below_drew1 HB.out)
    clear HO_5 HB
    have HO_5 := n0_
    have HB := n1_
    clear n0_ n1_
    have p480 : 0 ≤ (x6_1 : Int) := zA10
    have q480 : x6_1 < (t477.length : Int) := zA10
    obtain ⟨ad480, e480, hx480_0⟩ := Kd.at_int (Kd.R_reads' HO_5.out).2.2 x6_1 p480 q480
    cases e480
    replace p480 := eq_true p480
    replace q480 := eq_true q480
    have p487 : 0 ≤ (x6_1 : Int) := zA10
    have q487 : x6_1 < (t477.length : Int) := zA10
    obtain ⟨ad487, e487, hx487_0⟩ := Kd.at_int (Kd.R_reads' HO_5.out).2.2 x6_1 p487 q487
    obtain rfl : ad480 = ad487 := (by injection e487)
    replace p487 := eq_true p487
    replace q487 := eq_true q487
    refine start_ (n := 14) (S := fun w' => w'.cell? (ad480.add (x6_1).toNat) = some (.int .i64 (rd t477 x6_1)) ∧ w'.cell? (ad480.add (x6_1).toNat) = some (.int .i64 (rd t477 x6_1))) (ds := []) zq10_0 (by kernel_rfl) rfl rfl ⟨hx480_0, hx487_0⟩ (fun hHeld => ?_); refine with_tabW spec_LoopsFrom.tab5 spec_LoopsFrom.bits5 (fun HT_ HW_ => ?_)
    generalize wr.drew = w14 at HO_5 HB hx480_0 hx487_0 hHeld ⊢
    refine pure_ (i := 0) (N := some 16) (v := ?_) (a' := ?_) zq10_1 rfl rfl (any_of HT_.out (by kernel_rfl)) (fun _ _ _ h => h) (Or.inl ⟨by rfl, ?_⟩) ?_ ?_
    rotate_left
    ·intro w'
     go_simp
     with_reducible rfl
    rotate_left
    ·exact zV10
    refine pure_ (i := 1) (N := some 17) (v := ?_) (a' := ?_) zq10_2 rfl rfl (any_of HT_.out (by kernel_rfl)) (fun _ _ _ h => h) (Or.inl ⟨by rfl, ?_⟩) ?_ ?_
    rotate_left
    ·intro w'
     go_simp
     with_reducible rfl
    rotate_left
    ·exact zV10
    refine pure_ (i := 2) (N := some 18) (v := ?_) (a' := ?_) zq10_3 rfl rfl (any_of HT_.out (by kernel_rfl)) (fun _ _ _ h => h) (Or.inl ⟨by rfl, ?_⟩) ?_ ?_
    rotate_left
    ·intro w'
     go_simp
     with_reducible rfl
    rotate_left
    ·exact zV10
    refine pure_ (i := 3) (N := some 19) (v := ?_) (a' := ?_) zq10_4 rfl rfl (any_of HT_.out (by kernel_rfl)) (fun _ _ _ h => h) (Or.inl ⟨by rfl, ?_⟩) ?_ ?_
    rotate_left
    ·intro w'
     go_simp
     with_reducible rfl
    rotate_left
    ·exact zV10
    refine pure_ (i := 4) (N := some 20) (v := ?_) (a' := ?_) zq10_5 rfl rfl (any_of HT_.out (by kernel_rfl)) (fun _ _ _ h => h) (Or.inl ⟨by rfl, ?_⟩) ?_ ?_
    rotate_left
    ·intro w'
     go_simp
     with_reducible rfl
    rotate_left
    ·exact zV10
    refine pure_ (i := 8) (N := some 24) (v := ?_) (a' := ?_) zq10_6 rfl rfl (any_of HT_.out (by kernel_rfl)) (fun _ _ _ h => h) (Or.inl ⟨by rfl, ?_⟩) ?_ ?_
    rotate_left
    ·intro w'
     go_simp
     with_reducible rfl
    rotate_left
    ·exact zV10
    refine pure_ (i := 9) (N := some 25) (v := ?_) (a' := ?_) zq10_7 rfl rfl (any_of HT_.out (by kernel_rfl)) (fun _ _ _ h => h) (Or.inl ⟨by rfl, ?_⟩) ?_ ?_
    rotate_left
    ·intro w'
     go_simp
     with_reducible rfl
    rotate_left
    ·exact zV10
    refine pure_ (i := 10) (N := some 26) (v := ?_) (a' := ?_) zq10_8 rfl rfl (any_of HT_.out (by kernel_rfl)) (fun _ _ _ h => h) (Or.inl ⟨by rfl, ?_⟩) ?_ ?_
    rotate_left
    ·intro w'
     go_simp
     with_reducible rfl
    rotate_left
    ·exact zV10
    refine take_ (i := 5) (N := some 21) (v := ?_) (a' := ?_) zq10_9 rfl rfl (take_ofW HT_.out HW_.out (by kernel_rfl)) (fun _ _ _ h => h) (Or.inl ⟨by rfl, ?_⟩) hHeld ?_ ?_
    rotate_left
    ·rintro w' ⟨s0, s1⟩
     go_simp
     with_reducible rfl
    rotate_left
    ·exact zV10
    refine take_ (i := 11) (N := some 27) (v := ?_) (a' := ?_) zq10_10 rfl rfl (take_ofW HT_.out HW_.out (by kernel_rfl)) (fun _ _ _ h => h) (Or.inl ⟨by rfl, ?_⟩) hHeld ?_ ?_
    rotate_left
    ·rintro w' ⟨s0, s1⟩
     go_simp
     with_reducible rfl
    rotate_left
    ·exact zV10
    refine one_ (i := 6) (N := some 22) zq10_11 rfl rfl (one_of HT_.out (by kernel_rfl)) (by decide) (fun K hK => ?_)
    refine goes_ Try.func22 (by kernel_rfl) rfl #[.slice A0 l0.length c0, .int .i64 (rd t477 x6_1)] (by rfl) rfl rfl zT10 ?_
    with_reducible refine (spec_NextOf.calls k1 _ _ l0 (rd t477 x6_1) t481 _ ?side1 ?side2 A7.out).mono ?_
    (case side1 => exact zC10 (Kd.C_below HR0.out HB.out))
    (case side2 => exact HC0.out)
    rintro e w15 ⟨v482, rfl, ho0, hb⟩
    have HS0_ := (hb.cell (World.block_lt_of_cell? _ _ (hHeld.1))).trans (hHeld.1)
    have HS1_ := (hb.cell (World.block_lt_of_cell? _ _ (hHeld.2))).trans (hHeld.2)
    refine ⟨_, rfl, ?_⟩
    have n0_ := Aside0.mk (Kd.R_elder' (zR10 HO_5.out) (Kd.R_base ho0) hb)
    have n1_ := Aside0.mk (Kd.R_lower (Kd.R_new' ho0 (Kd.R_lt (zR10 HO_5.out))) (below_size (zB10_0)))
    have n2_ := Aside0.mk (below_step (zB10_0) hb)
    clear HO_5 HB
    have HO_5 := n0_
    have HO483 := n1_
    have HB := n2_
    clear n0_ n1_ n2_
    (try clear hb)
    (try clear hb2)
    (try clear hk)
    (try clear hi)
    (try clear ho0)
    obtain ⟨Ao16, co16, eo16⟩ := Kd.R_slice HO483.out
    (first | subst eo16 | (injection eo16 with f1_ f2_ f3_; have f4_ := f1_.symm; have f5_ := f3_.symm; clear f1_ f2_ f3_; subst f4_; subst f5_))
    refine hK.out _ _ ⟨HS0_, HS1_⟩ (fun hHeld => ?_)
    clear hK K
    refine norm_ (a' := ?_) ?_ ?_
    rotate_left
    ·show Act.put _ (some 22) _ = _
     simp only [Act.put, List.setIfInBounds_toArray, List.set_cons_zero, List.set_cons_succ, i64_w, i32_w]
     rfl
    refine one_ (i := 7) (N := some 23) zq10_12 rfl rfl (one_of HT_.out (by kernel_rfl)) (by decide) (fun K hK => ?_)
    refine goes_ Try.func21 (by kernel_rfl) rfl #[.slice A0 l0.length c0, .slice Ao16 t481.length co16] (by rfl) rfl rfl zT10 ?_
    with_reducible refine (spec_l23Marks.calls k1 _ _ l0 _ _ t481 t484 _ ?side1 ?side2 ?side3 ?side4 A8.out).mono ?_
    (case side1 => exact zC10 (Kd.C_below HR0.out HB.out))
    (case side2 => exact HC0.out)
    (case side3 => exact zC10 (Kd.R_reads' HO483.out).2.2)
    (case side4 => exact (Kd.R_reads' HO483.out).2.1)
    rintro e w17 ⟨v485, rfl, ho0, hb⟩
    have HS0_ := (hb.cell (World.block_lt_of_cell? _ _ (hHeld.1))).trans (hHeld.1)
    have HS1_ := (hb.cell (World.block_lt_of_cell? _ _ (hHeld.2))).trans (hHeld.2)
    refine ⟨_, rfl, ?_⟩
    have n0_ := Aside0.mk (Kd.R_below (zR10 HO_5.out) hb)
    have n1_ := Aside0.mk (Kd.R_below (zR10 HO483.out) hb)
    have n2_ := Aside0.mk (Kd.R_lower ho0 (below_size (zB10_0)))
    have n3_ := Aside0.mk (below_step (zB10_0) hb)
    clear HO_5 HO483 HB
    have HO_5 := n0_
    have HO483 := n1_
    have HO486 := n2_
    have HB := n3_
    clear n0_ n1_ n2_ n3_
    (try clear hb)
    (try clear hb2)
    (try clear hk)
    (try clear hi)
    (try clear ho0)
    obtain ⟨Ao18, co18, eo18⟩ := Kd.R_slice HO486.out
    (first | subst eo18 | (injection eo18 with f1_ f2_ f3_; have f4_ := f1_.symm; have f5_ := f3_.symm; clear f1_ f2_ f3_; subst f4_; subst f5_))
    have p488 : 0 ≤ ((rd t477 x6_1) : Int) := zA10
    have q488 : (rd t477 x6_1) < (t484.length : Int) := zA10
    obtain ⟨ad488, e488, hx488_0⟩ := Kd.at_bool (Kd.R_reads' HO486.out).2.2 (rd t477 x6_1) p488 q488
    (try rw [← Nbq11.out] at hx488_0)
    cases e488
    replace p488 := eq_true p488
    replace q488 := eq_true q488
    refine hK.out _ _ ⟨HS0_, HS1_⟩ (fun hHeld => ?_)
    clear hK K
    refine norm_ (a' := ?_) ?_ ?_
    rotate_left
    ·show Act.put _ (some 23) _ = _
     simp only [Act.put, List.setIfInBounds_toArray, List.set_cons_zero, List.set_cons_succ, i64_w, i32_w]
     rfl
    refine pure_ (i := 12) (N := some 28) (v := ?_) (a' := ?_) zq10_13 rfl rfl (any_of HT_.out (by kernel_rfl)) (fun _ _ _ h => h) (Or.inl ⟨by rfl, ?_⟩) ?_ ?_
    rotate_left
    ·intro w'
     go_simp
     with_reducible rfl
    rotate_left
    ·exact zV10
    refine one_ (i := 13) (N := some 29) zq10_14 rfl rfl (one_of HT_.out (by kernel_rfl)) (by decide) (fun K hK => ?_)
    rw [if_pos (by rfl)]
    go_simp
    refine hK.out _ _ ⟨hHeld.1, hHeld.2⟩ (fun hHeld => ?_)
    clear hK K
    refine done_ (done_of HT_.out (by kernel_rfl)) ?_
    try go_wp2
    go_ret
    exact ⟨zE10, zB10_0⟩
   replace c12 := Bool.eq_false_iff.mpr c12
   subst c12
   have H1 : (spec_LoopsFrom.l0 k1 l0 t477 (wrap64 (x6_1 + 1))) = some r := by rw [if_neg (show ¬ (false = true) by decide)] at H; exact H
   clear H
   have H := H1
   clear H1
   have H' := Aside0.mk H
   clear H
   obtain ⟨Ao19, co19, eo19⟩ := Kd.R_slice HO_5.out
   subst eo19
   try go_wp2
   have n0_ := Aside0.mk (Kd.R_drew HO_5.out)
   have n1_ := Aside0.mk (below_drew1 HB.out)
   clear HO_5 HB
   have HO_5 := n0_
   have HB := n1_
   clear n0_ n1_
   have p480 : 0 ≤ (x6_1 : Int) := zA10
   have q480 : x6_1 < (t477.length : Int) := zA10
   obtain ⟨ad480, e480, hx480_0⟩ := Kd.at_int (Kd.R_reads' HO_5.out).2.2 x6_1 p480 q480
   cases e480
   replace p480 := eq_true p480
   replace q480 := eq_true q480
   have p487 : 0 ≤ (x6_1 : Int) := zA10
   have q487 : x6_1 < (t477.length : Int) := zA10
   obtain ⟨ad487, e487, hx487_0⟩ := Kd.at_int (Kd.R_reads' HO_5.out).2.2 x6_1 p487 q487
   obtain rfl : ad480 = ad487 := (by injection e487)
   replace p487 := eq_true p487
   replace q487 := eq_true q487
   refine start_ (n := 14) (S := fun w' => w'.cell? (ad480.add (x6_1).toNat) = some (.int .i64 (rd t477 x6_1)) ∧ w'.cell? (ad480.add (x6_1).toNat) = some (.int .i64 (rd t477 x6_1))) (ds := []) zq10_0 (by kernel_rfl) rfl rfl ⟨hx480_0, hx487_0⟩ (fun hHeld => ?_); refine with_tabW spec_LoopsFrom.tab5 spec_LoopsFrom.bits5 (fun HT_ HW_ => ?_)
   generalize wr.drew = w20 at HO_5 HB hx480_0 hx487_0 hHeld ⊢
   refine pure_ (i := 0) (N := some 16) (v := ?_) (a' := ?_) zq10_1 rfl rfl (any_of HT_.out (by kernel_rfl)) (fun _ _ _ h => h) (Or.inl ⟨by rfl, ?_⟩) ?_ ?_
   rotate_left
   ·intro w'
    go_simp
    with_reducible rfl
   rotate_left
   ·exact zV10
   refine pure_ (i := 1) (N := some 17) (v := ?_) (a' := ?_) zq10_2 rfl rfl (any_of HT_.out (by kernel_rfl)) (fun _ _ _ h => h) (Or.inl ⟨by rfl, ?_⟩) ?_ ?_
   rotate_left
   ·intro w'
    go_simp
    with_reducible rfl
   rotate_left
   ·exact zV10
   refine pure_ (i := 2) (N := some 18) (v := ?_) (a' := ?_) zq10_3 rfl rfl (any_of HT_.out (by kernel_rfl)) (fun _ _ _ h => h) (Or.inl ⟨by rfl, ?_⟩) ?_ ?_
   rotate_left
   ·intro w'
    go_simp
    with_reducible rfl
   rotate_left
   ·exact zV10
   refine pure_ (i := 3) (N := some 19) (v := ?_) (a' := ?_) zq10_4 rfl rfl (any_of HT_.out (by kernel_rfl)) (fun _ _ _ h => h) (Or.inl ⟨by rfl, ?_⟩) ?_ ?_
   rotate_left
   ·intro w'
    go_simp
    with_reducible rfl
   rotate_left
   ·exact zV10
   refine pure_ (i := 4) (N := some 20) (v := ?_) (a' := ?_) zq10_5 rfl rfl (any_of HT_.out (by kernel_rfl)) (fun _ _ _ h => h) (Or.inl ⟨by rfl, ?_⟩) ?_ ?_
   rotate_left
   ·intro w'
    go_simp
    with_reducible rfl
   rotate_left
   ·exact zV10
   refine pure_ (i := 8) (N := some 24) (v := ?_) (a' := ?_) zq10_6 rfl rfl (any_of HT_.out (by kernel_rfl)) (fun _ _ _ h => h) (Or.inl ⟨by rfl, ?_⟩) ?_ ?_
   rotate_left
   ·intro w'
    go_simp
    with_reducible rfl
   rotate_left
   ·exact zV10
   refine pure_ (i := 9) (N := some 25) (v := ?_) (a' := ?_) zq10_7 rfl rfl (any_of HT_.out (by kernel_rfl)) (fun _ _ _ h => h) (Or.inl ⟨by rfl, ?_⟩) ?_ ?_
   rotate_left
   ·intro w'
    go_simp
    with_reducible rfl
   rotate_left
   ·exact zV10
   refine pure_ (i := 10) (N := some 26) (v := ?_) (a' := ?_) zq10_8 rfl rfl (any_of HT_.out (by kernel_rfl)) (fun _ _ _ h => h) (Or.inl ⟨by rfl, ?_⟩) ?_ ?_
   rotate_left
   ·intro w'
    go_simp
    with_reducible rfl
   rotate_left
   ·exact zV10
   refine take_ (i := 5) (N := some 21) (v := ?_) (a' := ?_) zq10_9 rfl rfl (take_ofW HT_.out HW_.out (by kernel_rfl)) (fun _ _ _ h => h) (Or.inl ⟨by rfl, ?_⟩) hHeld ?_ ?_
   rotate_left
   ·rintro w' ⟨s0, s1⟩
    go_simp
    with_reducible rfl
   rotate_left
   ·exact zV10
   refine take_ (i := 11) (N := some 27) (v := ?_) (a' := ?_) zq10_10 rfl rfl (take_ofW HT_.out HW_.out (by kernel_rfl)) (fun _ _ _ h => h) (Or.inl ⟨by rfl, ?_⟩) hHeld ?_ ?_
   rotate_left
   ·rintro w' ⟨s0, s1⟩
    go_simp
    with_reducible rfl
   rotate_left
   ·exact zV10
   refine one_ (i := 6) (N := some 22) zq10_11 rfl rfl (one_of HT_.out (by kernel_rfl)) (by decide) (fun K hK => ?_)
   refine goes_ Try.func22 (by kernel_rfl) rfl #[.slice A0 l0.length c0, .int .i64 (rd t477 x6_1)] (by rfl) rfl rfl zT10 ?_
   with_reducible refine (spec_NextOf.calls k1 _ _ l0 (rd t477 x6_1) t481 _ ?side1 ?side2 A7.out).mono ?_
   (case side1 => exact zC10 (Kd.C_below HR0.out HB.out))
   (case side2 => exact HC0.out)
   rintro e w21 ⟨v482, rfl, ho0, hb⟩
   have HS0_ := (hb.cell (World.block_lt_of_cell? _ _ (hHeld.1))).trans (hHeld.1)
   have HS1_ := (hb.cell (World.block_lt_of_cell? _ _ (hHeld.2))).trans (hHeld.2)
   refine ⟨_, rfl, ?_⟩
   have n0_ := Aside0.mk (Kd.R_elder' (zR10 HO_5.out) (Kd.R_base ho0) hb)
   have n1_ := Aside0.mk (Kd.R_lower (Kd.R_new' ho0 (Kd.R_lt (zR10 HO_5.out))) (below_size (zB10_0)))
   have n2_ := Aside0.mk (below_step (zB10_0) hb)
   clear HO_5 HB
   have HO_5 := n0_
   have HO483 := n1_
   have HB := n2_
   clear n0_ n1_ n2_
   (try clear hb)
   (try clear hb2)
   (try clear hk)
   (try clear hi)
   (try clear ho0)
   obtain ⟨Ao22, co22, eo22⟩ := Kd.R_slice HO483.out
   (first | subst eo22 | (injection eo22 with f1_ f2_ f3_; have f4_ := f1_.symm; have f5_ := f3_.symm; clear f1_ f2_ f3_; subst f4_; subst f5_))
   refine hK.out _ _ ⟨HS0_, HS1_⟩ (fun hHeld => ?_)
   clear hK K
   refine norm_ (a' := ?_) ?_ ?_
   rotate_left
   ·show Act.put _ (some 22) _ = _
    simp only [Act.put, List.setIfInBounds_toArray, List.set_cons_zero, List.set_cons_succ, i64_w, i32_w]
    rfl
   refine one_ (i := 7) (N := some 23) zq10_12 rfl rfl (one_of HT_.out (by kernel_rfl)) (by decide) (fun K hK => ?_)
   refine goes_ Try.func21 (by kernel_rfl) rfl #[.slice A0 l0.length c0, .slice Ao22 t481.length co22] (by rfl) rfl rfl zT10 ?_
   with_reducible refine (spec_l23Marks.calls k1 _ _ l0 _ _ t481 t484 _ ?side1 ?side2 ?side3 ?side4 A8.out).mono ?_
   (case side1 => exact zC10 (Kd.C_below HR0.out HB.out))
   (case side2 => exact HC0.out)
   (case side3 => exact zC10 (Kd.R_reads' HO483.out).2.2)
   (case side4 => exact (Kd.R_reads' HO483.out).2.1)
   rintro e w23 ⟨v485, rfl, ho0, hb⟩
   have HS0_ := (hb.cell (World.block_lt_of_cell? _ _ (hHeld.1))).trans (hHeld.1)
   have HS1_ := (hb.cell (World.block_lt_of_cell? _ _ (hHeld.2))).trans (hHeld.2)
   refine ⟨_, rfl, ?_⟩
   have n0_ := Aside0.mk (Kd.R_below (zR10 HO_5.out) hb)
   have n1_ := Aside0.mk (Kd.R_below (zR10 HO483.out) hb)
   have n2_ := Aside0.mk (Kd.R_lower ho0 (below_size (zB10_0)))
   have n3_ := Aside0.mk (below_step (zB10_0) hb)
   clear HO_5 HO483 HB
   have HO_5 := n0_
   have HO483 := n1_
   have HO486 := n2_
   have HB := n3_
   clear n0_ n1_ n2_ n3_
   (try clear hb)
   (try clear hb2)
   (try clear hk)
   (try clear hi)
   (try clear ho0)
   obtain ⟨Ao24, co24, eo24⟩ := Kd.R_slice HO486.out
   (first | subst eo24 | (injection eo24 with f1_ f2_ f3_; have f4_ := f1_.symm; have f5_ := f3_.symm; clear f1_ f2_ f3_; subst f4_; subst f5_))
   have p488 : 0 ≤ ((rd t477 x6_1) : Int) := zA10
   have q488 : (rd t477 x6_1) < (t484.length : Int) := zA10
   obtain ⟨ad488, e488, hx488_0⟩ := Kd.at_bool (Kd.R_reads' HO486.out).2.2 (rd t477 x6_1) p488 q488
   (try rw [← Nbq11.out] at hx488_0)
   cases e488
   replace p488 := eq_true p488
   replace q488 := eq_true q488
   refine hK.out _ _ ⟨HS0_, HS1_⟩ (fun hHeld => ?_)
   clear hK K
   refine norm_ (a' := ?_) ?_ ?_
   rotate_left
   ·show Act.put _ (some 23) _ = _
    simp only [Act.put, List.setIfInBounds_toArray, List.set_cons_zero, List.set_cons_succ, i64_w, i32_w]
    rfl
   refine pure_ (i := 12) (N := some 28) (v := ?_) (a' := ?_) zq10_13 rfl rfl (any_of HT_.out (by kernel_rfl)) (fun _ _ _ h => h) (Or.inl ⟨by rfl, ?_⟩) ?_ ?_
   rotate_left
   ·intro w'
    go_simp
    with_reducible rfl
   rotate_left
   ·exact zV10
   refine one_ (i := 13) (N := some 29) zq10_14 rfl rfl (one_of HT_.out (by kernel_rfl)) (by decide) (fun K hK => ?_)
   rw [if_pos (by rfl)]
   go_simp
   refine hK.out _ _ ⟨hHeld.1, hHeld.2⟩ (fun hHeld => ?_)
   clear hK K
   refine done_ (done_of HT_.out (by kernel_rfl)) ?_
   try go_wp2
   go_roundg k1
   case measure => have := HK1.out; omega
   case rel => exact ⟨(wrap64 (x6_1 + 1)), (by first | rfl | (simp; done) | (simp [*]; done)), H', ⟨by have := HK1.out; omega⟩, ⟨by (with_reducible repeat (first | apply Kd.R_alloc | apply Kd.R_drewN | apply Kd.R_drew)); exact Kd.R_mono HO_5.out (fun _ hk => trivial)⟩, ⟨zB10_0⟩⟩

-- NOT PRINTED: function 23 (impl_WritesFrom_1)

end Go.Proofs.Ytehgffgpgoopiaa.PFnNoLoopEnds
