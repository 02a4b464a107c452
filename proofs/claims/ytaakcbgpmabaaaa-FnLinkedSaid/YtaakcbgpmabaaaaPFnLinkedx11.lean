-- made by wip/tools/myprint.py out of the seat's translation
import Derived.Test.YtaakcbgpmabaaaaPFnLinkedx0
import Derived.Test.YtaakcbgpmabaaaaPFnLinkedx10
namespace Go.Proofs.Ytaakcbgpmabaaaa.PFnLinked
open Go.RowKit Go.Proofs.YtaakcbgpmabaaaaW.PrintWords Go.Proofs.YtaakcbgpmabaaaaW.PrintLast Go.Proofs.YtaakcbgpmabaaaaW.PrintMore
attribute [local go_sem] max2_int min2_int max_two min_two max_three min_three max_four min_four   -- for this text's walks alone
set_option linter.unusedVariables false
set_option linter.unusedSimpArgs false
set_option maxHeartbeats 8000000
set_option maxRecDepth 100000

/-! ### spec_PartAt: function 29 -/
def spec_PartAt.l0 : Nat → List (S49) → ByteArray → Int → Option (Int)
 | 0, _, _, _ => none
 | k + 1, x0, x1, x5 => if x5 < (x0.length : Int) then (if 0 ≤ x5 then (if ((rd_T49 x0 x5).f0).toList = x1.toList then (some x5) else (spec_PartAt.l0 k x0 x1 (wrap64 (x5 + 1)))) else (none)) else (some (-1))
def spec_PartAt.f (k : Nat) (l0 : List (S49)) (a1 : ByteArray) : Option (Int) := spec_PartAt.l0 k l0 a1 0
theorem spec_PartAt.mono_l : ∀ k, (∀ y0 y1 y2, LeO (spec_PartAt.l0 k y0 y1 y2) (spec_PartAt.l0 (k + 1) y0 y1 y2))
 | 0 => fun _ _ _ r h => by simp [spec_PartAt.l0] at h
 | k + 1 => by
  have ih0 := spec_PartAt.mono_l k
  ·intros
   unfold spec_PartAt.l0
   exact zL
theorem spec_PartAt.mono : ∀ a0 a1 k, LeO (spec_PartAt.f k a0 a1) (spec_PartAt.f (k + 1) a0 a1) := by
 intro a0 a1 k
 have ih0 := spec_PartAt.mono_l k
 unfold spec_PartAt.f
 exact zL
theorem spec_PartAt.calls (k : Nat) (A0 : Option Addr) (c0 : Nat) (l0 : List (S49)) (a1 : ByteArray) (r : Int) (w : World) (hr0 : Kd.C k49 w A0 l0.length l0) (hc0 : l0.length ≤ c0) (h : spec_PartAt.f k l0 a1 = some r) :
  Calls Try.prog 29 #[.slice A0 l0.length c0, .string a1] w fun e w' => e = .returned (.int .i64 r) ∧ Drawn0 w w' := by
 have HR0 := zM hr0
 have HC0 := zM hc0
 clear hr0 hc0
 unfold spec_PartAt.f at h
 have H := h
 clear h
 have H' := zM H
 clear H
 go_enter Try.func29, Try.ntmps29
 go_wp2
 go_loopg [5] k (fun kq v5 w' => ∃ (x5_1 : Int), v5 = .int .i64 x5_1 ∧ Aside0 (spec_PartAt.l0 kq l0 a1 x5_1 = some r) ∧ Aside0 (kq ≤ k) ∧ Drawn0 w w')
 case atStart => exact ⟨(0), zJJ, H', ⟨Nat.le_refl _⟩, zDD⟩
 case round =>
  clear H'
  obtain ⟨x5_1, rfl, HA, HK1, ⟨m1, rfl⟩⟩ := hrel
  cases gk with
  | zero => exact absurd HA.1 (by simp [spec_PartAt.l0])
  | succ k1 =>
   have H := HA.1
   clear HA
   simp only [spec_PartAt.l0] at H
   by_cases c3 : x5_1 < (l0.length : Int)
   rotate_left
   ·rw [if_neg c3] at H
    have c3b0 := decide_eq_false c3
    clear c3
    obtain rfl := Option.some.inj H
    go_wp2
    go_ret
    exact ⟨zJJ, zDD⟩
   rw [if_pos c3] at H
   have c3b0 := decide_eq_true c3
   clear c3
   replace H := zIt H
   obtain ⟨c4b0, H⟩ := H
   by_cases c5 : ((rd_T49 l0 x5_1).f0).toList = a1.toList
   ·rw [if_pos c5] at H
    have c5b0 : (((rd_T49 l0 x5_1).f0).toList == a1.toList) = true := beq_iff_eq.mpr c5
    have c5b1 : (((rd_T49 l0 x5_1).f0).toList != a1.toList) = false := bne_eq_false_iff_eq.mpr c5
    clear c5
    obtain rfl := Option.some.inj H
    obtain ⟨p387, q387, ad387, A387_1, c387_1, A387_2, c387_2, e387, hx387_0, hx387_1, hx387_2, hl387_1, hi387_1, hl387_2, hi387_2⟩ := zRd (at_T49 HR0.1 x5_1)
    cases e387
    have HR387_1 := zM hi387_1
    have HC387_1 := zM hl387_1
    clear hi387_1 hl387_1
    have HR387_2 := zM hi387_2
    have HC387_2 := zM hl387_2
    clear hi387_2 hl387_2
    go_wp2
    go_ret
    exact ⟨zJJ, zDD⟩
   rw [if_neg c5] at H
   have c5b0 : (((rd_T49 l0 x5_1).f0).toList == a1.toList) = false := beq_eq_false_iff_ne.mpr c5
   have c5b1 : (((rd_T49 l0 x5_1).f0).toList != a1.toList) = true := bne_iff_ne.mpr c5
   have H' := zM H
   clear H
   obtain ⟨p387, q387, ad387, A387_1, c387_1, A387_2, c387_2, e387, hx387_0, hx387_1, hx387_2, hl387_1, hi387_1, hl387_2, hi387_2⟩ := zRd (at_T49 HR0.1 x5_1)
   cases e387
   have HR387_1 := zM hi387_1
   have HC387_1 := zM hl387_1
   clear hi387_1 hl387_1
   have HR387_2 := zM hi387_2
   have HC387_2 := zM hl387_2
   clear hi387_2 hl387_2
   go_wp2
   go_roundg k1
   case measure => have := HK1.1; omega
   case rel => exact ⟨(wrap64 (x5_1 + 1)), zJJ, H', ⟨by have := HK1.1; omega⟩, zDD⟩

/-! ### spec_Layout: function 22 -/
def spec_Layout.l0 : Nat → List (S49) → List Int → Int → Int → Option (List Int × Bool)
 | 0, _, _, _, _ => none
 | k + 1, x0, x4, x5, x6 => if x6 < (x0.length : Int) then (if 0 ≤ x6 then ((spec_PartOk.f k ((rd_T49 x0 x6).f0) ((rd_T49 x0 x6).f1) ((rd_T49 x0 x6).f2)).bind fun t395 => (if t395 = true then ((spec_PartAt.f k x0 ((rd_T49 x0 x6).f0)).bind fun t397 => (if t397 = x6 then (if (x0.length : Int) > 4 then (some ((([] : List Int)), false)) else (if x4.length < 17592186044416 then (spec_Layout.l0 k x0 (x4 ++ [x5]) (wrap64 (x5 + (((rd_T49 x0 x6).f1).length : Int))) (wrap64 (x6 + 1))) else (none))) else (some ((([] : List Int)), false)))) else (some ((([] : List Int)), false)))) else (none)) else (if x5 > 24 then (some ((([] : List Int)), false)) else (some (x4, true)))
def spec_Layout.f (k : Nat) (l0 : List (S49)) : Option (List Int × Bool) := spec_Layout.l0 k l0 (([] : List Int)) 0 0
theorem spec_Layout.mono_l : ∀ k, (∀ y0 y1 y2 y3, LeO (spec_Layout.l0 k y0 y1 y2 y3) (spec_Layout.l0 (k + 1) y0 y1 y2 y3))
 | 0 => fun _ _ _ _ r h => by simp [spec_Layout.l0] at h
 | k + 1 => by
  have ih0 := spec_Layout.mono_l k
  ·intros
   unfold spec_Layout.l0
   have mo0 := @spec_PartAt.mono
   have mo1 := @spec_PartOk.mono
   exact zL
theorem spec_Layout.mono : ∀ a0 k, LeO (spec_Layout.f k a0) (spec_Layout.f (k + 1) a0) := by
 intro a0 k
 have ih0 := spec_Layout.mono_l k
 unfold spec_Layout.f
 have mo0 := @spec_PartAt.mono
 have mo1 := @spec_PartOk.mono
 exact zL
theorem spec_Layout.calls (k : Nat) (A0 : Option Addr) (c0 : Nat) (l0 : List (S49)) (r1 : List Int) (r2 : Bool) (w : World) (hr0 : Kd.C k49 w A0 l0.length l0) (hc0 : l0.length ≤ c0) (h : spec_Layout.f k l0 = some (r1, r2)) :
  Calls Try.prog 22 #[.slice A0 l0.length c0] w fun e w' => ∃ v0_ : Value, e = .returned (.tuple #[v0_, .bool r2]) ∧ Kd.R (Kd.int .i64) 3 w' w.heap.size (fun _ => True) v0_ r1 ∧ Below w.heap.size w w' := by
 have hu49 := Try.underlying49
 have HR0 := zM hr0
 have HC0 := zM hc0
 clear hr0 hc0
 have HB := zM (Below.refl w.heap.size w)
 unfold spec_Layout.f at h
 have H := h
 clear h
 generalize hy388 : ((([] : List Int)) : List Int) = y388 at H
 have Ny388 := zM hy388.symm
 clear hy388
 have H' := zM H
 clear H
 go_enter Try.func22, Try.ntmps22
 go_wp2_with (first | ((with_reducible refine gate_dst (N := 7) rfl ?_); (try (refine gate_guard (by rfl) ?_; dsimp only)); refine Kd.R_lit (Kd.int .i64) _ 3 ?hg (N := 7) ?hd (xs := ([] : List Int)) (inner := []) (ok := fun _ => True) (okp := fun _ => True) ?hr ?hp (fun _ hk => hk) trivial (Below.refl _ _) (Nat.le_refl _) (by simp) ?_; (case hd => rfl); (case hg => rfl); (case hr => exact zHH); (case hp => exact (Reps.none _ _)); intro v389 w2 ho3 hb hg_ hnew_; clear hg_ hnew_; (first | rw [← Ny388.1] at ho3 | (simp only [Int.reduceToNat] at ho3; rw [← Ny388.1] at ho3)); have HO390 := zM (Kd.R_lower ho3 (below_size zB0)); replace HB := zM (below_step zB0 hb); clear hb ho3))
 go_loopg [4, 5, 6] k (fun kq v4 v5 v6 w' => ∃ (x4_1 : List Int) (x5_1 : Int) (x6_1 : Int), v5 = .int .i64 x5_1 ∧ v6 = .int .i64 x6_1 ∧ Aside0 (spec_Layout.l0 kq l0 x4_1 x5_1 x6_1 = some (r1, r2)) ∧ Aside0 (kq ≤ k) ∧ Aside0 (Kd.R (Kd.int .i64) 3 w' w.heap.size (fun _ => True) v4 x4_1) ∧ Aside0 (Below w.heap.size w w'))
 case atStart => exact ⟨(y388), (0), (0), zJJ, zJJ, H', ⟨Nat.le_refl _⟩, ⟨zR HO390.1⟩, ⟨zB0⟩⟩
 case round =>
  clear H'
  obtain ⟨x4_1, x5_1, x6_1, rfl, rfl, HA, HK1, HO_4, HB⟩ := hrel
  cases gk with
  | zero => exact absurd HA.1 (by simp [spec_Layout.l0])
  | succ k1 =>
   have H := HA.1
   clear HA
   simp only [spec_Layout.l0] at H
   by_cases c4 : x6_1 < (l0.length : Int)
   rotate_left
   ·rw [if_neg c4] at H
    have c4b0 := decide_eq_false c4
    clear c4
    by_cases c23 : x5_1 > 24
    rotate_left
    ·rw [if_neg c23] at H
     have c23b0 := decide_eq_false c23
     clear c23
     simp only [Option.some.injEq, Prod.mk.injEq] at H
     obtain ⟨rfl, rfl⟩ := H
     go_wp2
     go_ret2
     exact ⟨_, zE, zR HO_4.1, zB0⟩
    rw [if_pos c23] at H
    have c23b0 := decide_eq_true c23
    clear c23
    generalize hy391 : ((([] : List Int)) : List Int) = y391 at H
    have Ny391 := zM hy391.symm
    clear hy391
    simp only [Option.some.injEq, Prod.mk.injEq] at H
    obtain ⟨rfl, rfl⟩ := H
    go_wp2_with (first | ((with_reducible refine gate_dst (N := 51) rfl ?_); (try (refine gate_guard (by rfl) ?_; dsimp only)); refine Kd.R_lit (Kd.int .i64) _ 3 ?hg (N := 51) ?hd (xs := ([] : List Int)) (inner := []) (ok := fun _ => True) (okp := fun _ => True) ?hr ?hp (fun _ hk => hk) trivial (Below.refl _ _) (Nat.le_refl _) (by simp) ?_; (case hd => rfl); (case hg => rfl); (case hr => exact zHH); (case hp => exact (Reps.none _ _)); intro v392 w24 ho25 hb hg_ hnew_; clear hg_ hnew_; (first | rw [← Ny391.1] at ho25 | (simp only [Int.reduceToNat] at ho25; rw [← Ny391.1] at ho25)); have HO393 := zM (Kd.R_lower (Kd.R_new' ho25 (Kd.R_lt (zR HO_4.1))) (below_size zB0)); replace HO_4 := zM (Kd.R_elder' (zR HO_4.1) (Kd.R_base ho25) hb); replace HB := zM (below_step zB0 hb); clear hb ho25))
    go_ret2
    exact ⟨_, zE, by refine zrR ?_; exact Kd.R_mono HO393.1 (fun _ hk => trivial), zB0⟩
   rw [if_pos c4] at H
   have c4b0 := decide_eq_true c4
   clear c4
   replace H := zIt H
   obtain ⟨c5b0, H⟩ := H
   replace H := zO H
   obtain ⟨t395, A6, H⟩ := H
   by_cases c7 : t395 = true
   rotate_left
   ·replace c7 := Bool.eq_false_iff.mpr c7
    subst c7
    rw [if_neg zF] at H
    generalize hy408 : ((([] : List Int)) : List Int) = y408 at H
    have Ny408 := zM hy408.symm
    clear hy408
    simp only [Option.some.injEq, Prod.mk.injEq] at H
    obtain ⟨rfl, rfl⟩ := H
    obtain ⟨p394, q394, ad394, A394_1, c394_1, A394_2, c394_2, e394, hx394_0, hx394_1, hx394_2, hl394_1, hi394_1, hl394_2, hi394_2⟩ := zRd (at_T49 HR0.1 x6_1)
    cases e394
    replace hx394_0 := zHx HB.1 hx394_0
    replace hx394_1 := zHx HB.1 hx394_1
    replace hx394_2 := zHx HB.1 hx394_2
    have HR394_1 := zM hi394_1
    have HC394_1 := zM hl394_1
    clear hi394_1 hl394_1
    have HR394_2 := zM hi394_2
    have HC394_2 := zM hl394_2
    clear hi394_2 hl394_2
    go_wp2_with (first | ((with_reducible refine zG Try.func27 18 #[.agg #[.string ((rd_T49 l0 x6_1).f0), .slice A394_1 ((rd_T49 l0 x6_1).f1).length c394_1, .slice A394_2 ((rd_T49 l0 x6_1).f2).length c394_2]] ?_); (with_reducible refine (spec_PartOk.calls k1 ((rd_T49 l0 x6_1).f0) _ _ ((rd_T49 l0 x6_1).f1) _ _ ((rd_T49 l0 x6_1).f2) false _ ?side1 ?side2 ?side3 ?side4 A6.1).mono ?_); (case side1 => exact zC (Kd.C_below HR394_1.1 HB.1)); (case side2 => exact HC394_1.1); (case side3 => exact zC (Kd.C_below HR394_2.1 HB.1)); (case side4 => exact HC394_2.1); rintro e w20 ⟨rfl, hb⟩; refine ⟨_, rfl, ?_⟩; replace HO_4 := zM (Kd.R_below (zR HO_4.1) hb); replace HB := zM (below_step zB0 hb); clear hb) | ((with_reducible refine gate_dst (N := 36) rfl ?_); (try (refine gate_guard (by rfl) ?_; dsimp only)); refine Kd.R_lit (Kd.int .i64) _ 3 ?hg (N := 36) ?hd (xs := ([] : List Int)) (inner := []) (ok := fun _ => True) (okp := fun _ => True) ?hr ?hp (fun _ hk => hk) trivial (Below.refl _ _) (Nat.le_refl _) (by simp) ?_; (case hd => rfl); (case hg => rfl); (case hr => exact zHH); (case hp => exact (Reps.none _ _)); intro v409 w21 ho22 hb hg_ hnew_; clear hg_ hnew_; (first | rw [← Ny408.1] at ho22 | (simp only [Int.reduceToNat] at ho22; rw [← Ny408.1] at ho22)); have HO410 := zM (Kd.R_lower (Kd.R_new' ho22 (Kd.R_lt (zR HO_4.1))) (below_size zB0)); replace HO_4 := zM (Kd.R_elder' (zR HO_4.1) (Kd.R_base ho22) hb); replace HB := zM (below_step zB0 hb); clear hb ho22))
    go_ret2
    exact ⟨_, zE, by refine zrR ?_; exact Kd.R_mono HO410.1 (fun _ hk => trivial), zB0⟩
   subst c7
   rw [if_pos rfl] at H
   replace H := zO H
   obtain ⟨t397, A8, H⟩ := H
   by_cases c9 : t397 = x6_1
   rotate_left
   ·rw [if_neg c9] at H
    have c9b0 : (t397 == x6_1) = false := beq_eq_false_iff_ne.mpr c9
    have c9b1 : (t397 != x6_1) = true := bne_iff_ne.mpr c9
    generalize hy405 : ((([] : List Int)) : List Int) = y405 at H
    have Ny405 := zM hy405.symm
    clear hy405
    simp only [Option.some.injEq, Prod.mk.injEq] at H
    obtain ⟨rfl, rfl⟩ := H
    obtain ⟨p394, q394, ad394, A394_1, c394_1, A394_2, c394_2, e394, hx394_0, hx394_1, hx394_2, hl394_1, hi394_1, hl394_2, hi394_2⟩ := zRd (at_T49 HR0.1 x6_1)
    cases e394
    replace hx394_0 := zHx HB.1 hx394_0
    replace hx394_1 := zHx HB.1 hx394_1
    replace hx394_2 := zHx HB.1 hx394_2
    have HR394_1 := zM hi394_1
    have HC394_1 := zM hl394_1
    clear hi394_1 hl394_1
    have HR394_2 := zM hi394_2
    have HC394_2 := zM hl394_2
    clear hi394_2 hl394_2
    go_wp2_with (first | ((with_reducible refine zG Try.func27 18 #[.agg #[.string ((rd_T49 l0 x6_1).f0), .slice A394_1 ((rd_T49 l0 x6_1).f1).length c394_1, .slice A394_2 ((rd_T49 l0 x6_1).f2).length c394_2]] ?_); (with_reducible refine (spec_PartOk.calls k1 ((rd_T49 l0 x6_1).f0) _ _ ((rd_T49 l0 x6_1).f1) _ _ ((rd_T49 l0 x6_1).f2) true _ ?side1 ?side2 ?side3 ?side4 A6.1).mono ?_); (case side1 => exact zC (Kd.C_below HR394_1.1 HB.1)); (case side2 => exact HC394_1.1); (case side3 => exact zC (Kd.C_below HR394_2.1 HB.1)); (case side4 => exact HC394_2.1); rintro e w17 ⟨rfl, hb⟩; refine ⟨_, rfl, ?_⟩; replace HO_4 := zM (Kd.R_below (zR HO_4.1) hb); replace HB := zM (below_step zB0 hb); clear hb; have p396 : 0 ≤ (x6_1 : Int) := zA; have q396 : x6_1 < (l0.length : Int) := zA; obtain ⟨ad396, A396_1, c396_1, A396_2, c396_2, e396, hx396_0, hx396_1, hx396_2, hl396_1, hi396_1, hl396_2, hi396_2⟩ := at_T49 HR0.1 x6_1 p396 q396; obtain rfl : ad394 = ad396 := (by injection e396); replace hx396_0 := zHx HB.1 hx396_0; replace hx396_1 := zHx HB.1 hx396_1; replace hx396_2 := zHx HB.1 hx396_2; have HR396_1 := zM hi396_1; have HC396_1 := zM hl396_1; clear hi396_1 hl396_1; have HR396_2 := zM hi396_2; have HC396_2 := zM hl396_2; clear hi396_2 hl396_2; replace p396 := eq_true p396; replace q396 := eq_true q396) | (go_at_call 29; (with_reducible refine (spec_PartAt.calls k1 _ _ l0 ((rd_T49 l0 x6_1).f0) t397 _ ?side1 ?side2 A8.1).mono ?_); (case side1 => exact zC (Kd.C_below HR0.1 HB.1)); (case side2 => exact HC0.1); rintro e w' ⟨rfl, ⟨nd, rfl⟩⟩) | ((with_reducible refine gate_dst (N := 36) rfl ?_); (try (refine gate_guard (by rfl) ?_; dsimp only)); refine Kd.R_lit (Kd.int .i64) _ 3 ?hg (N := 36) ?hd (xs := ([] : List Int)) (inner := []) (ok := fun _ => True) (okp := fun _ => True) ?hr ?hp (fun _ hk => hk) trivial (Below.refl _ _) (Nat.le_refl _) (by simp) ?_; (case hd => rfl); (case hg => rfl); (case hr => exact zHH); (case hp => exact (Reps.none _ _)); intro v406 w18 ho19 hb hg_ hnew_; clear hg_ hnew_; (first | rw [← Ny405.1] at ho19 | (simp only [Int.reduceToNat] at ho19; rw [← Ny405.1] at ho19)); have HO407 := zM (Kd.R_lower (Kd.R_new' ho19 (Kd.R_lt (zR HO_4.1))) (below_size zB0)); replace HO_4 := zM (Kd.R_elder' (zR HO_4.1) (Kd.R_base ho19) hb); replace HB := zM (below_step zB0 hb); clear hb ho19))
    go_ret2
    exact ⟨_, zE, by refine zrR ?_; exact Kd.R_mono HO407.1 (fun _ hk => trivial), zB0⟩
   rw [if_pos c9] at H
   have c9b0 : (t397 == x6_1) = true := beq_iff_eq.mpr c9
   have c9b1 : (t397 != x6_1) = false := bne_eq_false_iff_eq.mpr c9
   clear c9
   by_cases c10 : (l0.length : Int) > 4
   ·rw [if_pos c10] at H
    have c10b0 := decide_eq_true c10
    have c10b1 : decide (4 < l0.length) = true := decide_eq_true (by omega)
    clear c10
    generalize hy398 : ((([] : List Int)) : List Int) = y398 at H
    have Ny398 := zM hy398.symm
    clear hy398
    simp only [Option.some.injEq, Prod.mk.injEq] at H
    obtain ⟨rfl, rfl⟩ := H
    obtain ⟨p394, q394, ad394, A394_1, c394_1, A394_2, c394_2, e394, hx394_0, hx394_1, hx394_2, hl394_1, hi394_1, hl394_2, hi394_2⟩ := zRd (at_T49 HR0.1 x6_1)
    cases e394
    replace hx394_0 := zHx HB.1 hx394_0
    replace hx394_1 := zHx HB.1 hx394_1
    replace hx394_2 := zHx HB.1 hx394_2
    have HR394_1 := zM hi394_1
    have HC394_1 := zM hl394_1
    clear hi394_1 hl394_1
    have HR394_2 := zM hi394_2
    have HC394_2 := zM hl394_2
    clear hi394_2 hl394_2
    go_wp2_with (first | ((with_reducible refine zG Try.func27 18 #[.agg #[.string ((rd_T49 l0 x6_1).f0), .slice A394_1 ((rd_T49 l0 x6_1).f1).length c394_1, .slice A394_2 ((rd_T49 l0 x6_1).f2).length c394_2]] ?_); (with_reducible refine (spec_PartOk.calls k1 ((rd_T49 l0 x6_1).f0) _ _ ((rd_T49 l0 x6_1).f1) _ _ ((rd_T49 l0 x6_1).f2) true _ ?side1 ?side2 ?side3 ?side4 A6.1).mono ?_); (case side1 => exact zC (Kd.C_below HR394_1.1 HB.1)); (case side2 => exact HC394_1.1); (case side3 => exact zC (Kd.C_below HR394_2.1 HB.1)); (case side4 => exact HC394_2.1); rintro e w11 ⟨rfl, hb⟩; refine ⟨_, rfl, ?_⟩; replace HO_4 := zM (Kd.R_below (zR HO_4.1) hb); replace HB := zM (below_step zB0 hb); clear hb; have p396 : 0 ≤ (x6_1 : Int) := zA; have q396 : x6_1 < (l0.length : Int) := zA; obtain ⟨ad396, A396_1, c396_1, A396_2, c396_2, e396, hx396_0, hx396_1, hx396_2, hl396_1, hi396_1, hl396_2, hi396_2⟩ := at_T49 HR0.1 x6_1 p396 q396; obtain rfl : ad394 = ad396 := (by injection e396); replace hx396_0 := zHx HB.1 hx396_0; replace hx396_1 := zHx HB.1 hx396_1; replace hx396_2 := zHx HB.1 hx396_2; have HR396_1 := zM hi396_1; have HC396_1 := zM hl396_1; clear hi396_1 hl396_1; have HR396_2 := zM hi396_2; have HC396_2 := zM hl396_2; clear hi396_2 hl396_2; replace p396 := eq_true p396; replace q396 := eq_true q396) | (go_at_call 29; (with_reducible refine (spec_PartAt.calls k1 _ _ l0 ((rd_T49 l0 x6_1).f0) t397 _ ?side1 ?side2 A8.1).mono ?_); (case side1 => exact zC (Kd.C_below HR0.1 HB.1)); (case side2 => exact HC0.1); rintro e w' ⟨rfl, ⟨nd, rfl⟩⟩) | ((with_reducible refine gate_dst (N := 36) rfl ?_); (try (refine gate_guard (by rfl) ?_; dsimp only)); refine Kd.R_lit (Kd.int .i64) _ 3 ?hg (N := 36) ?hd (xs := ([] : List Int)) (inner := []) (ok := fun _ => True) (okp := fun _ => True) ?hr ?hp (fun _ hk => hk) trivial (Below.refl _ _) (Nat.le_refl _) (by simp) ?_; (case hd => rfl); (case hg => rfl); (case hr => exact zHH); (case hp => exact (Reps.none _ _)); intro v399 w12 ho13 hb hg_ hnew_; clear hg_ hnew_; (first | rw [← Ny398.1] at ho13 | (simp only [Int.reduceToNat] at ho13; rw [← Ny398.1] at ho13)); have HO400 := zM (Kd.R_lower (Kd.R_new' ho13 (Kd.R_lt (zR HO_4.1))) (below_size zB0)); replace HO_4 := zM (Kd.R_elder' (zR HO_4.1) (Kd.R_base ho13) hb); replace HB := zM (below_step zB0 hb); clear hb ho13))
    go_ret2
    exact ⟨_, zE, by refine zrR ?_; exact Kd.R_mono HO400.1 (fun _ hk => trivial), zB0⟩
   rw [if_neg c10] at H
   have c10b0 := decide_eq_false c10
   have c10b1 : decide (4 < l0.length) = false := decide_eq_false (by omega)
   clear c10
   replace H := zIn H
   obtain ⟨LMc14, H⟩ := H
   generalize hy401 : ((x4_1 ++ [x5_1]) : List Int) = y401 at H
   have Ny401 := zM hy401.symm
   clear hy401
   have H' := zM H
   clear H
   obtain ⟨p394, q394, ad394, A394_1, c394_1, A394_2, c394_2, e394, hx394_0, hx394_1, hx394_2, hl394_1, hi394_1, hl394_2, hi394_2⟩ := zRd (at_T49 HR0.1 x6_1)
   cases e394
   replace hx394_0 := zHx HB.1 hx394_0
   replace hx394_1 := zHx HB.1 hx394_1
   replace hx394_2 := zHx HB.1 hx394_2
   have HR394_1 := zM hi394_1
   have HC394_1 := zM hl394_1
   clear hi394_1 hl394_1
   have HR394_2 := zM hi394_2
   have HC394_2 := zM hl394_2
   clear hi394_2 hl394_2
   go_wp2_with (first | ((with_reducible refine zG Try.func27 18 #[.agg #[.string ((rd_T49 l0 x6_1).f0), .slice A394_1 ((rd_T49 l0 x6_1).f1).length c394_1, .slice A394_2 ((rd_T49 l0 x6_1).f2).length c394_2]] ?_); (with_reducible refine (spec_PartOk.calls k1 ((rd_T49 l0 x6_1).f0) _ _ ((rd_T49 l0 x6_1).f1) _ _ ((rd_T49 l0 x6_1).f2) true _ ?side1 ?side2 ?side3 ?side4 A6.1).mono ?_); (case side1 => exact zC (Kd.C_below HR394_1.1 HB.1)); (case side2 => exact HC394_1.1); (case side3 => exact zC (Kd.C_below HR394_2.1 HB.1)); (case side4 => exact HC394_2.1); rintro e w15 ⟨rfl, hb⟩; refine ⟨_, rfl, ?_⟩; replace HO_4 := zM (Kd.R_below (zR HO_4.1) hb); replace HB := zM (below_step zB0 hb); clear hb; have p396 : 0 ≤ (x6_1 : Int) := zA; have q396 : x6_1 < (l0.length : Int) := zA; obtain ⟨ad396, A396_1, c396_1, A396_2, c396_2, e396, hx396_0, hx396_1, hx396_2, hl396_1, hi396_1, hl396_2, hi396_2⟩ := at_T49 HR0.1 x6_1 p396 q396; obtain rfl : ad394 = ad396 := (by injection e396); replace hx396_0 := zHx HB.1 hx396_0; replace hx396_1 := zHx HB.1 hx396_1; replace hx396_2 := zHx HB.1 hx396_2; have HR396_1 := zM hi396_1; have HC396_1 := zM hl396_1; clear hi396_1 hl396_1; have HR396_2 := zM hi396_2; have HC396_2 := zM hl396_2; clear hi396_2 hl396_2; replace p396 := eq_true p396; replace q396 := eq_true q396) | (go_at_call 29; (with_reducible refine (spec_PartAt.calls k1 _ _ l0 ((rd_T49 l0 x6_1).f0) t397 _ ?side1 ?side2 A8.1).mono ?_); (case side1 => exact zC (Kd.C_below HR0.1 HB.1)); (case side2 => exact HC0.1); rintro e w' ⟨rfl, ⟨nd, rfl⟩⟩) | ((with_reducible refine gate_builtin (b := .append) (xs := #[.tmp 37, .tmp 39]) rfl ?_); (try (refine gate_guard (by rfl) ?_; dsimp only)); at_builtin; refine Kd.R_append (Kd.int .i64) (w0 := w) w.heap.size rfl (.tmp 37) (.tmp 39) 24 3 (.int .i64 0) 8 rfl Try.underlying24 info3 rfl (by decide) (by omega) u4 x4_1 x5_1 [.int .i64 x5_1] (fun _ => True) (fun _ => False) rfl rfl ?aP (fun _ hk => hk.elim) ?aF ?aO ?aB ?aS ?aL ?_; (case aP => exact rfl); (case aB => exact zB0); (case aF => exact (fun _ _ => trivial)); (case aO => exact (zR HO_4.1)); (case aS => exact (below_size zB0)); (case aL => have := LMc14.out; omega); intro v402 w16 ho hb hg hat; rw [← Ny401.1] at ho; replace HB := zM hb; have HO403 := zM ho; clear HO_4; clear ho hb hg hat; have p404 : 0 ≤ (x6_1 : Int) := zA; have q404 : x6_1 < (l0.length : Int) := zA; obtain ⟨ad404, A404_1, c404_1, A404_2, c404_2, e404, hx404_0, hx404_1, hx404_2, hl404_1, hi404_1, hl404_2, hi404_2⟩ := at_T49 HR0.1 x6_1 p404 q404; obtain rfl : ad394 = ad404 := (by injection e404); replace hx404_0 := zHx HB.1 hx404_0; replace hx404_1 := zHx HB.1 hx404_1; replace hx404_2 := zHx HB.1 hx404_2; have HR404_1 := zM hi404_1; have HC404_1 := zM hl404_1; clear hi404_1 hl404_1; have HR404_2 := zM hi404_2; have HC404_2 := zM hl404_2; clear hi404_2 hl404_2; replace p404 := eq_true p404; replace q404 := eq_true q404))
   go_roundg k1
   case measure => have := HK1.1; omega
   case rel => exact ⟨(y401), (wrap64 (x5_1 + (((rd_T49 l0 x6_1).f1).length : Int))), (wrap64 (x6_1 + 1)), zJJ, zJJ, H', ⟨by have := HK1.1; omega⟩, ⟨zR HO403.1⟩, ⟨zB0⟩⟩

/-! ### spec_Code: function 57 -/
def spec_Code.f (a0_0 : Int) (a0_1 : Int) (a0_2 : Int) (a0_3 : Int) (a0_4 : Int) : Option (Int × Bool) := (spec_InsOk.f a0_0 a0_1 a0_2 a0_3 a0_4).bind fun t412 => (if t412 = true then (some (wrap64 ((wrap64 ((wrap64 ((wrap64 (a0_0 + (wrap64 (16 * a0_1)))) + (wrap64 (64 * a0_2)))) + (wrap64 (256 * a0_3)))) + (wrap64 (1024 * a0_4))), true)) else (some (0, false)))
theorem spec_Code.calls (a0_0 : Int) (a0_1 : Int) (a0_2 : Int) (a0_3 : Int) (a0_4 : Int) (r1 : Int) (r2 : Bool) (w : World) (h : spec_Code.f a0_0 a0_1 a0_2 a0_3 a0_4 = some (r1, r2)) :
  Calls Try.prog 57 #[.agg #[.int .i64 a0_0, .int .i64 a0_1, .int .i64 a0_2, .int .i64 a0_3, .int .i64 a0_4]] w fun e w' => e = .returned (.tuple #[.int .i64 r1, .bool r2]) ∧ Below w.heap.size w w' := by
 have hu57 := Try.underlying57
 have HB := zM (Below.refl w.heap.size w)
 unfold spec_Code.f at h
 have H := h
 clear h
 replace H := zO H
 obtain ⟨t412, A2, H⟩ := H
 by_cases c3 : t412 = true
 rotate_left
 ·replace c3 := Bool.eq_false_iff.mpr c3
  subst c3
  rw [if_neg zF] at H
  simp only [Option.some.injEq, Prod.mk.injEq] at H
  obtain ⟨rfl, rfl⟩ := H
  go_enter Try.func57, Try.ntmps57
  go_wp2_with (first | ((with_reducible refine zBx 1 57 #[.int .i64 a0_0, .int .i64 a0_1, .int .i64 a0_2, .int .i64 a0_3, .int .i64 a0_4] ?_); intro gb411 hg w8 hbox hb; have BK411 := zM hbox; have GW411 := zM (zW hg (below_size zB0)); have GE411 := zM (zW hg (below_size zB0)); replace HB := zM (below_step zB0 hb); clear hb hbox hg; have hcz9 := zc_5 (w := w8) BK411.1) | ((with_reducible refine zG Try.func66 5 #[.agg #[.int .i64 a0_0, .int .i64 a0_1, .int .i64 a0_2, .int .i64 a0_3, .int .i64 a0_4]] ?_); (with_reducible refine (spec_InsOk.calls a0_0 a0_1 a0_2 a0_3 a0_4 false _ A2.1).mono ?_); rintro e w10 ⟨rfl, hb⟩; refine ⟨_, rfl, ?_⟩; replace BK411 := zM (zb BK411.1 hb); replace HB := zM (below_step zB0 hb); clear hb))
  go_ret2
  exact ⟨zE, zB0⟩
 subst c3
 rw [if_pos rfl] at H
 simp only [Option.some.injEq, Prod.mk.injEq] at H
 obtain ⟨rfl, rfl⟩ := H
 go_enter Try.func57, Try.ntmps57
 go_wp2_with (first | ((with_reducible refine zBx 1 57 #[.int .i64 a0_0, .int .i64 a0_1, .int .i64 a0_2, .int .i64 a0_3, .int .i64 a0_4] ?_); intro gb411 hg w4 hbox hb; have BK411 := zM hbox; have GW411 := zM (zW hg (below_size zB0)); have GE411 := zM (zW hg (below_size zB0)); replace HB := zM (below_step zB0 hb); clear hb hbox hg; have hcz5 := zc_5 (w := w4) BK411.1) | ((with_reducible refine zG Try.func66 5 #[.agg #[.int .i64 a0_0, .int .i64 a0_1, .int .i64 a0_2, .int .i64 a0_3, .int .i64 a0_4]] ?_); (with_reducible refine (spec_InsOk.calls a0_0 a0_1 a0_2 a0_3 a0_4 true _ A2.1).mono ?_); rintro e w6 ⟨rfl, hb⟩; refine ⟨_, rfl, ?_⟩; replace BK411 := zM (zb BK411.1 hb); replace HB := zM (below_step zB0 hb); clear hb; have hcz7 := zc_5 (w := w6) BK411.1))
 go_ret2
 exact ⟨zE, zB0⟩

end Go.Proofs.Ytaakcbgpmabaaaa.PFnLinked
