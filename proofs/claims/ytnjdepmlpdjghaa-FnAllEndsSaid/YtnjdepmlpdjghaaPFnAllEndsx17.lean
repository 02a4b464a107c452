-- made by wip/tools/myprint.py out of the seat's translation
import Derived.Test.YtnjdepmlpdjghaaPFnAllEndsx0
import Derived.Test.YtnjdepmlpdjghaaPFnAllEndsx6
import Derived.Test.YtnjdepmlpdjghaaPFnAllEndsx7
import Derived.Test.YtnjdepmlpdjghaaPFnAllEndsx10
import Derived.Test.YtnjdepmlpdjghaaPFnAllEndsx16
namespace Go.Proofs.Ytnjdepmlpdjghaa.PFnAllEnds
open Go.RowKit Go.Proofs.YtnjdepmlpdjghaaW.PrintWords Go.Proofs.YtnjdepmlpdjghaaW.PrintLast Go.Proofs.YtnjdepmlpdjghaaW.PrintMore
attribute [local go_sem] max2_int min2_int max_two min_two max_three min_three max_four min_four   -- for this text's walks alone
set_option linter.unusedVariables false
set_option linter.unusedSimpArgs false
set_option maxHeartbeats 8000000
set_option maxRecDepth 100000

/-! ### impl_FlatRun: function 33 -/
mutual
def impl_FlatRun.j0 : Nat → List Int → List (S29) → List Int → Bool → Option (List Int × (List (S29)))
 | 0, _, _, _, _ => none
 | k + 1, x0, x1, x2, x21 => if x21 = true then (some (x0, x1)) else (impl_FlatRun.l0 k x0 x1 x2 (x2.length : Int) 0)
def impl_FlatRun.l0 : Nat → List Int → List (S29) → List Int → Int → Int → Option (List Int × (List (S29)))
 | 0, _, _, _, _, _ => none
 | k + 1, x0, x1, x24, x25, x26 => if x26 < x25 then (if 0 ≤ x26 then (if x26 < (x24.length : Int) then ((impl_from.f (rd x24 x26) 0 (wrap64 ((x1.length : Int) - 1))).bind fun t645 => (if t645 = true then (if 0 ≤ (rd x24 x26) then (if (rd x24 x26) < (x1.length : Int) then ((impl_goes.f k ((rd_T29 x1 (rd x24 x26)).f0) ((rd_T29 x1 (rd x24 x26)).f1) ((rd_T29 x1 (rd x24 x26)).f2)).bind fun t647 => (if t647 = true then ((impl_step.f k x0 ((rd_T29 x1 (rd x24 x26)).f0) ((rd_T29 x1 (rd x24 x26)).f1) ((rd_T29 x1 (rd x24 x26)).f2)).bind fun bt649 => (impl_FlatRun.l0 k bt649.2.2.2 (x1.set ((rd x24 x26) : Int).toNat (⟨bt649.1, bt649.2.1, bt649.2.2.1⟩ : S29)) x24 x25 (wrap64 (x26 + 1)))) else (impl_FlatRun.l0 k x0 x1 x24 x25 (wrap64 (x26 + 1))))) else (none)) else (none)) else (impl_FlatRun.l0 k x0 x1 x24 x25 (wrap64 (x26 + 1))))) else (none)) else (none)) else (some (x0, x1))
end
def impl_FlatRun.f (k : Nat) (l0 : List Int) (l1 : List (S29)) (l2 : List Int) : Option (List Int × (List (S29))) := (slices_Clone_int_int.f l0).bind fun t637 => ((impl_copyHarts.f k l1).bind fun t640 => (if (l2.length : Int) > 2000 then (impl_FlatRun.j0 k t637 t640 l2 true) else ((impl_memOk.f k t637).bind fun t643 => (impl_FlatRun.j0 k t637 t640 l2 (!t643)))))
theorem impl_FlatRun.mono_l : ∀ k, (∀ y0 y1 y2 y3, LeO (impl_FlatRun.j0 k y0 y1 y2 y3) (impl_FlatRun.j0 (k + 1) y0 y1 y2 y3)) ∧ (∀ y0 y1 y2 y3 y4, LeO (impl_FlatRun.l0 k y0 y1 y2 y3 y4) (impl_FlatRun.l0 (k + 1) y0 y1 y2 y3 y4))
 | 0 => ⟨fun _ _ _ _ r h => by simp [impl_FlatRun.j0] at h, fun _ _ _ _ _ r h => by simp [impl_FlatRun.l0] at h⟩
 | k + 1 => by
  obtain ⟨ih0, ih1⟩ := impl_FlatRun.mono_l k
  refine ⟨?_, ?_⟩
  ·intros
   unfold impl_FlatRun.j0
   have mo0 := @impl_copyHarts.mono
   have mo1 := @impl_goes.mono
   have mo2 := @impl_memOk.mono
   have mo3 := @impl_step.mono
   exact zL
  ·intros
   unfold impl_FlatRun.l0
   have mo0 := @impl_copyHarts.mono
   have mo1 := @impl_goes.mono
   have mo2 := @impl_memOk.mono
   have mo3 := @impl_step.mono
   exact zL
theorem impl_FlatRun.mono : ∀ a0 a1 a2 k, LeO (impl_FlatRun.f k a0 a1 a2) (impl_FlatRun.f (k + 1) a0 a1 a2) := by
 intro a0 a1 a2 k
 obtain ⟨ih0, ih1⟩ := impl_FlatRun.mono_l k
 unfold impl_FlatRun.f
 have mo0 := @impl_copyHarts.mono
 have mo1 := @impl_goes.mono
 have mo2 := @impl_memOk.mono
 have mo3 := @impl_step.mono
 exact zL
theorem impl_FlatRun.calls (k : Nat) (A0 : Option Addr) (c0 : Nat) (l0 : List Int) (A1 : Option Addr) (c1 : Nat) (l1 : List (S29)) (A2 : Option Addr) (c2 : Nat) (l2 : List Int) (r1 : List Int) (r2 : List (S29)) (w : World) (hr0 : Kd.C (Kd.int .i64) w A0 l0.length l0) (hc0 : l0.length ≤ c0) (hr1 : Kd.C k29 w A1 l1.length l1) (hc1 : l1.length ≤ c1) (hr2 : Kd.C (Kd.int .i64) w A2 l2.length l2) (hc2 : l2.length ≤ c2) (h : impl_FlatRun.f k l0 l1 l2 = some (r1, r2)) :
  Calls Try.prog 33 #[.slice A0 l0.length c0, .slice A1 l1.length c1, .slice A2 l2.length c2] w fun e w' => ∃ v0_ v1_ : Value, e = .returned (.tuple #[v0_, v1_]) ∧ Kd.R (Kd.int .i64) 3 w' w.heap.size (fun _ => True) v0_ r1 ∧ Kd.S k29 29 w' w.heap.size (fun k_ => some k_ ≠ (v0_ : Value).ownBlock) v1_ r2 ∧ Below w.heap.size w w' := by
 have hu29 := Try.underlying29
 have HR0 := zM hr0
 have HC0 := zM hc0
 clear hr0 hc0
 have HR1 := zM hr1
 have HC1 := zM hc1
 clear hr1 hc1
 have HR2 := zM hr2
 have HC2 := zM hc2
 clear hr2 hc2
 have HB := zM (Below.refl w.heap.size w)
 unfold impl_FlatRun.f at h
 have H := h
 clear h
 replace H := zO H
 obtain ⟨t637, A4, H⟩ := H
 replace H := zO H
 obtain ⟨t640, A5, H⟩ := H
 have HC6 := zM H
 clear H
 go_enter Try.func33, Try.ntmps33
 go_upto_region 3 with (first | ((with_reducible refine zG Try.func41 11 #[.slice A0 l0.length c0] ?_); (with_reducible refine (slices_Clone_int_int.calls _ _ l0 t637 _ ?side1 ?side2 A4.1).mono ?_); (case side1 => exact zC HR0.1); (case side2 => exact HC0.1); rintro e w7 ⟨v638, rfl, ho0, hb⟩; refine ⟨_, rfl, ?_⟩; have HO639 := zM (Kd.R_lower ho0 (below_size zB0)); replace HB := zM (below_step zB0 hb); clear hb ho0) | ((with_reducible refine zG Try.func63 13 #[.slice A1 l1.length c1] ?_); (with_reducible refine (impl_copyHarts.calls k _ _ l1 t640 _ ?side1 ?side2 A5.1).mono ?_); (case side1 => exact zC (Kd.C_below HR1.1 HB.1)); (case side2 => exact HC1.1); rintro e w8 ⟨v641, rfl, ho0, hb⟩; refine ⟨_, rfl, ?_⟩; have HO642 := zM (Kd.S_lower (Kd.S_new' ho0 (Kd.R_lt (zR HO639.1))) (below_size zB0)); replace HO639 := zM (Kd.R_below (zR HO639.1) hb); replace HB := zM (below_step zB0 hb); clear hb ho0))
 (try simp only [Act.put, List.setIfInBounds_toArray, List.set_cons_zero, List.set_cons_succ])
 go_cut [21] (fun v21 wc => ∃ (kq : Nat) (x21_5 : Bool), v21 = .bool x21_5 ∧ Aside0 (impl_FlatRun.j0 kq t637 t640 l2 x21_5 = some (r1, r2)) ∧ Aside0 (kq ≤ k) ∧ Aside0 (Kd.R (Kd.int .i64) 3 wc w.heap.size (fun _ => True) v638 t637) ∧ Aside0 (Kd.S k29 29 wc w.heap.size (fun k_ => some k_ ≠ (v638 : Value).ownBlock) v641 t640) ∧ Aside0 (Below w.heap.size w wc))
 case first =>
  have H := HC6.1
  clear HC6
  by_cases c9 : (l2.length : Int) > 2000
  ·rw [if_pos c9] at H
   have c9b0 := decide_eq_true c9
   have c9b1 : decide (2000 < l2.length) = true := decide_eq_true (by omega)
   clear c9
   (first | rw [c9b0] | (simp only [i64_w, i32_w]; rw [c9b0]) | skip)
   have H' := zM H
   clear H
   go_wp2
   go_meet
   case rel => exact ⟨_, (true), zJJ, H', ⟨by first | omega | exact Nat.le_refl _⟩, ⟨zR HO639.1⟩, ⟨by refine zrS ?_; exact Kd.S_mono HO642.1 (fun _ hk => hk.2)⟩, ⟨zB0⟩⟩
  rw [if_neg c9] at H
  have c9b0 := decide_eq_false c9
  have c9b1 : decide (2000 < l2.length) = false := decide_eq_false (by omega)
  clear c9
  (first | rw [c9b0] | (simp only [i64_w, i32_w]; rw [c9b0]) | skip)
  replace H := zO H
  obtain ⟨t643, A10, H⟩ := H
  have H' := zM H
  clear H
  obtain ⟨Ao11, co11, eo11⟩ := Kd.R_slice HO639.1
  subst eo11
  go_wp2_with (first | (go_at_call 42; (with_reducible refine (impl_memOk.calls k _ _ t637 t643 _ ?side1 ?side2 A10.1).mono ?_); (case side1 => exact zC (Kd.R_reads' HO639.1).2.2); (case side2 => exact (Kd.R_reads' HO639.1).2.1); rintro e w' ⟨rfl, ⟨nd, rfl⟩⟩))
  go_meet
  case rel => exact ⟨_, (!t643), zJJ, H', ⟨by first | omega | exact Nat.le_refl _⟩, ⟨zR HO639.1⟩, ⟨by refine zrS ?_; exact Kd.S_mono HO642.1 (fun _ hk => hk.2)⟩, ⟨zB0⟩⟩
 case rest =>
  clear HC6
  obtain ⟨kq, x21_5, rfl, HA, HJ5, HO_0, HO_1, HB⟩ := hcut
  cases kq with
  | zero => exact absurd HA.1 (by simp [impl_FlatRun.j0])
  | succ kj5 =>
   have H := HA.1
   clear HA
   simp only [impl_FlatRun.j0] at H
   by_cases c12 : x21_5 = true
   ·subst c12
    rw [if_pos rfl] at H
    simp only [Option.some.injEq, Prod.mk.injEq] at H
    obtain ⟨rfl, rfl⟩ := H
    go_wp2
    go_ret2
    exact ⟨_, _, zE, zR HO_0.1, zS HO_1.1, zB0⟩
   replace c12 := Bool.eq_false_iff.mpr c12
   subst c12
   rw [if_neg zF] at H
   have H' := zM H
   clear H
   go_wp2
   go_loopg [26] kj5 (fun kq v26 w' => ∃ (x0_2 : List Int) (x1_2 : List (S29)) (x26_2 : Int), v26 = .int .i64 x26_2 ∧ Aside0 (impl_FlatRun.l0 kq x0_2 x1_2 l2 (l2.length : Int) x26_2 = some (r1, r2)) ∧ Aside0 (kq ≤ kj5) ∧ Aside0 (Kd.R (Kd.int .i64) 3 w' w.heap.size (fun _ => True) v638 x0_2) ∧ Aside0 (Kd.S k29 29 w' w.heap.size (fun k_ => some k_ ≠ (v638 : Value).ownBlock) v641 x1_2) ∧ Aside0 (Below w.heap.size w w'))
   case atStart => exact ⟨(t637), (t640), (0), zJJ, H', ⟨Nat.le_refl _⟩, ⟨zR HO_0.1⟩, ⟨zS HO_1.1⟩, ⟨zB0⟩⟩
   case round =>
    clear H'
    obtain ⟨x0_2, x1_2, x26_2, rfl, HA, HK2, HO_0, HO_1, HB⟩ := hrel
    cases gk with
    | zero => exact absurd HA.1 (by simp [impl_FlatRun.l0])
    | succ k2 =>
     have H := HA.1
     clear HA
     simp only [impl_FlatRun.l0] at H
     by_cases c13 : x26_2 < (l2.length : Int)
     rotate_left
     ·rw [if_neg c13] at H
      have c13b0 := decide_eq_false c13
      clear c13
      simp only [Option.some.injEq, Prod.mk.injEq] at H
      obtain ⟨rfl, rfl⟩ := H
      go_wp2
      go_ret2
      exact ⟨_, _, zE, zR HO_0.1, zS HO_1.1, zB0⟩
     rw [if_pos c13] at H
     have c13b0 := decide_eq_true c13
     clear c13
     replace H := zIt H
     obtain ⟨c14b0, H⟩ := H
     replace H := zIt H
     obtain ⟨c15b0, H⟩ := H
     replace H := zO H
     obtain ⟨t645, A16, H⟩ := H
     by_cases c17 : t645 = true
     rotate_left
     ·replace c17 := Bool.eq_false_iff.mpr c17
      subst c17
      rw [if_neg zF] at H
      have H' := zM H
      clear H
      obtain ⟨p644, q644, ad644, e644, hx644_0⟩ := zRd (Kd.at_int HR2.1 x26_2)
      cases e644
      replace hx644_0 := zHx HB.1 hx644_0
      obtain ⟨Ao33, co33, eo33⟩ := Kd.S_slice HO_1.1
      subst eo33
      go_wp2_with (first | ((with_reducible refine zG Try.func43 34 #[.int .i64 (rd l2 x26_2), .int .i64 0, .int .i64 (wrap64 ((x1_2.length : Int) - 1))] ?_); (with_reducible refine (impl_from.calls (rd l2 x26_2) 0 (wrap64 ((x1_2.length : Int) - 1)) false _ A16.1).mono ?_); rintro e w' ⟨rfl, ⟨nd, rfl⟩⟩; refine ⟨_, rfl, ?_⟩))
      go_roundg k2
      case measure => have := HJ5.1; have := HK2.1; omega
      case rel => exact ⟨(x0_2), (x1_2), (wrap64 (x26_2 + 1)), zJJ, H', ⟨by have := HJ5.1; have := HK2.1; omega⟩, ⟨zR HO_0.1⟩, ⟨zS HO_1.1⟩, ⟨zB0⟩⟩
     subst c17
     rw [if_pos rfl] at H
     replace H := zIt H
     obtain ⟨c18b0, H⟩ := H
     replace H := zIt H
     obtain ⟨c19b0, H⟩ := H
     replace H := zO H
     obtain ⟨t647, A20, H⟩ := H
     by_cases c21 : t647 = true
     rotate_left
     ·replace c21 := Bool.eq_false_iff.mpr c21
      subst c21
      rw [if_neg zF] at H
      have H' := zM H
      clear H
      obtain ⟨p644, q644, ad644, e644, hx644_0⟩ := zRd (Kd.at_int HR2.1 x26_2)
      cases e644
      replace hx644_0 := zHx HB.1 hx644_0
      obtain ⟨Ao31, co31, eo31⟩ := Kd.S_slice HO_1.1
      subst eo31
      go_wp2_with (first | ((with_reducible refine zG Try.func43 34 #[.int .i64 (rd l2 x26_2), .int .i64 0, .int .i64 (wrap64 ((x1_2.length : Int) - 1))] ?_); (with_reducible refine (impl_from.calls (rd l2 x26_2) 0 (wrap64 ((x1_2.length : Int) - 1)) true _ A16.1).mono ?_); rintro e w' ⟨rfl, ⟨nd, rfl⟩⟩; refine ⟨_, rfl, ?_⟩; have p646 : 0 ≤ ((rd l2 x26_2) : Int) := zA; have q646 : (rd l2 x26_2) < (x1_2.length : Int) := zA; obtain ⟨ad646, A646_0, c646_0, e646, hx646_0, hx646_1, hx646_2, hl646_0, hi646_0⟩ := at_T29 (Kd.S_reads' HO_1.1).2.2 (rd l2 x26_2) p646 q646; cases e646; obtain ⟨ce646, hce646, hMe646, hcc646⟩ := Kd.S_get HO_1.1 z29 (rd l2 x26_2) p646 (by first | exact q646 | exact zA | (have e_ := (Kd.S_reads' HO_1.1).1; omega)); obtain ⟨ve646_0, rfl, ge646_0⟩ := k29_openM hMe646; have hv646_0 := hcc646 0 _ rfl; rw [Nat.add_zero] at hv646_0; replace hv646_0 := Option.some.inj (hv646_0.symm.trans hx646_0); rw [hv646_0] at ge646_0; have HL646_0 := zM (show Kd.R (Kd.int .i64) 3 _ _ _ _ ((rd_T29 x1_2 (rd l2 x26_2)).f0) from ge646_0); clear hv646_0 ge646_0; clear hcc646 hce646; have HR646_0 := zM hi646_0; have HC646_0 := zM hl646_0; clear hi646_0 hl646_0; replace p646 := eq_true p646; replace q646 := eq_true q646) | (go_at_call 64; (with_reducible refine (impl_goes.calls k2 _ _ ((rd_T29 x1_2 (rd l2 x26_2)).f0) ((rd_T29 x1_2 (rd l2 x26_2)).f1) ((rd_T29 x1_2 (rd l2 x26_2)).f2) false _ ?side1 ?side2 A20.1).mono ?_); (case side1 => exact zC HR646_0.1); (case side2 => exact HC646_0.1); rintro e w32 ⟨rfl, hb⟩; replace HO_0 := zM (Kd.R_below (zR HO_0.1) hb); replace HO_1 := zM (Kd.S_below (zS HO_1.1) hb); replace HL646_0 := zM (Kd.R_below (zR HL646_0.1) hb); replace HR646_0 := zM (Kd.C_below (zC HR646_0.1) hb); replace HB := zM (below_step zB0 hb); clear hb))
      go_roundg k2
      case measure => have := HJ5.1; have := HK2.1; omega
      case rel => exact ⟨(x0_2), (x1_2), (wrap64 (x26_2 + 1)), zJJ, H', ⟨by have := HJ5.1; have := HK2.1; omega⟩, ⟨zR HO_0.1⟩, ⟨zS HO_1.1⟩, ⟨zB0⟩⟩
     subst c21
     rw [if_pos rfl] at H
     replace H := zO H
     obtain ⟨⟨t649, t652, t653, t654⟩, A22, H⟩ := H
     try dsimp only at H
     generalize hy655 : ((x1_2.set ((rd l2 x26_2) : Int).toNat (⟨t649, t652, t653⟩ : S29)) : List (S29)) = y655 at H
     have Ny655 := zM hy655.symm
     clear hy655
     have H' := zM H
     clear H
     obtain ⟨p644, q644, ad644, e644, hx644_0⟩ := zRd (Kd.at_int HR2.1 x26_2)
     cases e644
     replace hx644_0 := zHx HB.1 hx644_0
     obtain ⟨Ao24, co24, eo24⟩ := Kd.S_slice HO_1.1
     subst eo24
     go_wp2_with (first | ((with_reducible refine zG Try.func43 34 #[.int .i64 (rd l2 x26_2), .int .i64 0, .int .i64 (wrap64 ((x1_2.length : Int) - 1))] ?_); (with_reducible refine (impl_from.calls (rd l2 x26_2) 0 (wrap64 ((x1_2.length : Int) - 1)) true _ A16.1).mono ?_); rintro e w' ⟨rfl, ⟨nd, rfl⟩⟩; refine ⟨_, rfl, ?_⟩; (try (rw [drewN_self wr]; generalize hq_ : World.drewN wr _ = wr; have n0_ : Aside0 (Kd.R (Kd.int .i64) 3 wr w.heap.size (fun _ => True) v638 x0_2) := ⟨by rw [← hq_]; exact (zR HO_0.1)⟩; have n1_ : Aside0 (Kd.S k29 29 wr w.heap.size (fun k_ => some k_ ≠ (v638 : Value).ownBlock) (.slice Ao24 x1_2.length co24) x1_2) := ⟨by rw [← hq_]; exact (zS HO_1.1)⟩; have n2_ : Aside0 (Below w.heap.size w wr) := ⟨by rw [← hq_]; exact zB0⟩; clear HO_0 HO_1 HB hq_; have HO_0 := n0_; have HO_1 := n1_; have HB := n2_; clear n0_ n1_ n2_)); have p646 : 0 ≤ ((rd l2 x26_2) : Int) := zA; have q646 : (rd l2 x26_2) < (x1_2.length : Int) := zA; obtain ⟨ad646, A646_0, c646_0, e646, hx646_0, hx646_1, hx646_2, hl646_0, hi646_0⟩ := at_T29 (Kd.S_reads' HO_1.1).2.2 (rd l2 x26_2) p646 q646; cases e646; obtain ⟨ce646, hce646, hMe646, hcc646⟩ := Kd.S_get HO_1.1 z29 (rd l2 x26_2) p646 (by first | exact q646 | exact zA | (have e_ := (Kd.S_reads' HO_1.1).1; omega)); obtain ⟨ve646_0, rfl, ge646_0⟩ := k29_openM hMe646; have hv646_0 := hcc646 0 _ rfl; rw [Nat.add_zero] at hv646_0; replace hv646_0 := Option.some.inj (hv646_0.symm.trans hx646_0); rw [hv646_0] at ge646_0; have HL646_0 := zM (show Kd.R (Kd.int .i64) 3 _ _ _ _ ((rd_T29 x1_2 (rd l2 x26_2)).f0) from ge646_0); clear hv646_0 ge646_0; clear hcc646 hce646; have HR646_0 := zM hi646_0; have HC646_0 := zM hl646_0; clear hi646_0 hl646_0; replace p646 := eq_true p646; replace q646 := eq_true q646) | (go_at_call 64; (with_reducible refine (impl_goes.calls k2 _ _ ((rd_T29 x1_2 (rd l2 x26_2)).f0) ((rd_T29 x1_2 (rd l2 x26_2)).f1) ((rd_T29 x1_2 (rd l2 x26_2)).f2) true _ ?side1 ?side2 A20.1).mono ?_); (case side1 => exact zC HR646_0.1); (case side2 => exact HC646_0.1); rintro e w25 ⟨rfl, hb⟩; have n0_ := zM (Kd.R_below (zR HO_0.1) hb); have n1_ := zM (Kd.S_below (zS HO_1.1) hb); have n2_ := zM (Kd.R_below (zR HL646_0.1) hb); have n4_ := zM (below_step zB0 hb); clear HO_0; clear HO_1; clear HL646_0; clear HB; have HO_0 := n0_; have HO_1 := n1_; have HL646_0 := n2_; have HB := n4_; clear n0_ n1_ n2_ n4_; clear hb; have p648 : 0 ≤ ((rd l2 x26_2) : Int) := zA; have q648 : (rd l2 x26_2) < (x1_2.length : Int) := zA; obtain ⟨ad648, A648_0, c648_0, e648, hx648_0, hx648_1, hx648_2, hl648_0, hi648_0⟩ := at_T29 (Kd.S_reads' HO_1.1).2.2 (rd l2 x26_2) p648 q648; obtain rfl : ad646 = ad648 := (by injection e648); obtain ⟨ce648, hce648, hMe648, hcc648⟩ := Kd.S_get HO_1.1 z29 (rd l2 x26_2) p648 (by first | exact q648 | exact zA | (have e_ := (Kd.S_reads' HO_1.1).1; omega)); obtain ⟨ve648_0, rfl, ge648_0⟩ := k29_openM hMe648; have hv648_0 := hcc648 0 _ rfl; rw [Nat.add_zero] at hv648_0; replace hv648_0 := Option.some.inj (hv648_0.symm.trans hx648_0); rw [hv648_0] at ge648_0; have HL648_0 := zM (show Kd.R (Kd.int .i64) 3 _ _ _ _ ((rd_T29 x1_2 (rd l2 x26_2)).f0) from ge648_0); clear hv648_0 ge648_0; clear hcc648 hce648; have HR648_0 := zM hi648_0; have HC648_0 := zM hl648_0; clear hi648_0 hl648_0; replace p648 := eq_true p648; replace q648 := eq_true q648; obtain ⟨Ao26, co26, eo26⟩ := Kd.R_slice HO_0.1; subst eo26) | ((with_reducible refine zG Try.func65 49 #[.slice Ao26 x0_2.length co26, .agg #[.slice A648_0 ((rd_T29 x1_2 (rd l2 x26_2)).f0).length c648_0, .int .i64 ((rd_T29 x1_2 (rd l2 x26_2)).f1), .int .i64 ((rd_T29 x1_2 (rd l2 x26_2)).f2)]] ?_); (with_reducible refine (impl_step.calls k2 (fun k_ => some k_ = (.slice Ao26 x0_2.length co26 : Value).ownBlock) (.slice Ao26 x0_2.length co26) x0_2 _ _ ((rd_T29 x1_2 (rd l2 x26_2)).f0) ((rd_T29 x1_2 (rd l2 x26_2)).f1) ((rd_T29 x1_2 (rd l2 x26_2)).f2) t649 t652 t653 t654 w _ ?side1 ?side2 ?side3 ?side4 A22.1).mono ?_); (case side1 => exact zB0); (case side2 => exact Kd.R_tight rfl HO_0.1); (case side3 => exact Kd.C_kept_own (HL648_0.1) (fun k_ hk_ hs_ => (hk_.1) hs_)); (case side4 => exact HC648_0.1); rintro e w27 ⟨v650, rfl, ho0, hy0, hb, hkp⟩; refine ⟨_, rfl, ?_⟩; replace HO_0 := zM (Kd.R_reok rfl hy0 (fun k_ e_ => HO_0.1.1 k_ e_)); replace HO_1 := zM (Kd.S_mono (ok' := fun k_ => some k_ ≠ (.slice Ao26 x0_2.length co26 : Value).ownBlock ∧ some k_ ≠ (v650 : Value).ownBlock) (Kd.S_keptB (HO_1.1) hkp (fun k_ hk_ hs_ => (hk_) hs_)) (fun k_ hk_ => ⟨hk_.1, fun e_ => Or.elim (ho0.1 k_ e_.symm).1 (fun hs_ => hk_.2.1 hs_) (fun hn_ => Nat.not_le.2 hk_.2.2 hn_)⟩)); have HO651 := zM (Kd.R_mono (ok' := fun k_ => some k_ ≠ (.slice Ao26 x0_2.length co26 : Value).ownBlock) ho0 (fun k_ hk_ => hk_.2)); replace HB := zM hb; clear HL646_0 HL648_0; clear hb hkp ho0 hy0; have p23 : 0 ≤ ((rd l2 x26_2) : Int) := zA; have q23 : ((rd l2 x26_2) : Int) < ((x1_2.length : Int) : Int) := zA; obtain ⟨go23, co23, eo23, gb23, gl23, cl23, HG23⟩ := Kd.S_form HO_1.1 (by omega); (first | cases eo23 | (injection eo23 with ea_ en_ ec_; (first | subst ea_ | (injection ea_ with ea_; subst ea_)); subst ec_; clear en_)); have GB23 := zM gb23; have GG23 := zM HG23; clear gb23 gl23 HG23; (first | simp only [add_plain] at hx646_0 | skip); (first | simp only [add_plain] at hx646_1 | skip); (first | simp only [add_plain] at hx646_2 | skip); (first | simp only [add_plain] at hx648_0 | skip); (first | simp only [add_plain] at hx648_1 | skip); (first | simp only [add_plain] at hx648_2 | skip); obtain ⟨_, ce23, hcl23, hM23, hcc23, hfr23, _, _⟩ := Kd.S_elem HO_1.1 z29 ((rd l2 x26_2) : Int) p23 q23; obtain ⟨ve23_0, rfl, ge23_0⟩ := k29_openM hM23; have hx23_0 : w27.cell? ⟨go23, ((rd l2 x26_2) : Int).toNat * 3, none⟩ = some (ve23_0) := hcc23 0 _ rfl; have hx23_1 : w27.cell? ⟨go23, ((rd l2 x26_2) : Int).toNat * 3 + 1, none⟩ = some (.int .i64 ((rd_T29 x1_2 (rd l2 x26_2)).f1)) := hcc23 1 _ rfl; have hx23_2 : w27.cell? ⟨go23, ((rd l2 x26_2) : Int).toNat * 3 + 2, none⟩ = some (.int .i64 ((rd_T29 x1_2 (rd l2 x26_2)).f2)) := hcc23 2 _ rfl; have hf23_0 : w27.frozen? ⟨go23, ((rd l2 x26_2) : Int).toNat * 3, none⟩ = false := hfr23 0; have hf23_1 : w27.frozen? ⟨go23, ((rd l2 x26_2) : Int).toNat * 3 + 1, none⟩ = false := hfr23 1; have hf23_2 : w27.frozen? ⟨go23, ((rd l2 x26_2) : Int).toNat * 3 + 2, none⟩ = false := hfr23 2; clear hcl23 hcc23 hfr23 hM23; replace p23 := eq_true p23; replace q23 := eq_true q23; obtain ⟨Ao28, co28, eo28⟩ := Kd.R_slice HO651.1; subst eo28; have HX29 := zM (show Kd.S k29 29 w27 w.heap.size (fun k_ => ((fun k_ => some k_ ≠ (.slice Ao26 x0_2.length co26 : Value).ownBlock)) k_ ∧ ¬ ((fun k_ => some k_ = (.slice Ao28 t649.length co28 : Value).ownBlock)) k_) (.slice (some ⟨go23, 0, none⟩) x1_2.length co24) x1_2 from (by refine zrS ?_; exact Kd.S_mono HO_1.1 (fun k_ hk => ⟨hk.1, fun e_ => hk.2 e_⟩))); obtain ⟨oki29, ce29, hcl29, hM29, hcc29, hfr29, hoki29, hH29⟩ := Kd.S_elem HX29.out z29 ((rd l2 x26_2) : Int) zA (by have h_ : ((rd l2 x26_2) : Int) < ((x1_2.length : Int) : Int) := zA; first | exact h_ | (have e_ := (Kd.S_reads' HO_1.1).1; omega) | simpa using h_); obtain ⟨ve29_0, rfl, ge29_0⟩ := k29_openM hM29; have HP29 := Kd.S_seg hH29 zA (by have h_ : ((rd l2 x26_2) : Int) < ((x1_2.length : Int) : Int) := zA; first | exact h_ | (have e_ := (Kd.S_reads' HO_1.1).1; omega) | simpa using h_) (seg := [.slice Ao28 t649.length co28, .int .i64 t652, .int .i64 t653]) (j := 0) (show 3 ≤ 3 from by decide) (x' := (⟨t649, t652, t653⟩ : S29)) (k29_mkM _ _ _ (⟨t649, t652, t653⟩ : S29) (Kd.R_mono (Kd.R_tight rfl (Kd.R_mono (ok' := fun k_ => ((fun k_ => some k_ ≠ (.slice Ao26 x0_2.length co26 : Value).ownBlock)) k_ ∧ k_ ≠ go23) (Kd.R_apart' (HO651.1) (Kd.S_typed HO_1.1) (by decide)) (fun k_ hk => ⟨hk.1, fun e_ => (hk.2) (by rw [e_]; rfl)⟩))) (fun _ h_ => Or.inr (h_)))) (fun _ hk => hk) (fun k_ hk_ => ((Kd.R_mono (ok' := fun k_ => ((fun k_ => some k_ ≠ (.slice Ao26 x0_2.length co26 : Value).ownBlock)) k_ ∧ k_ ≠ go23) (Kd.R_apart' (HO651.1) (Kd.S_typed HO_1.1) (by decide)) (fun k_ hk => ⟨hk.1, fun e_ => (hk.2) (by rw [e_]; rfl)⟩))).1 k_ hk_.symm); have hx29_0 := hcc29 0 _ rfl; (try simp only [show (k29).sz = 3 from rfl, Nat.mul_one, Nat.add_zero] at hx29_0); have hf29_0 := hfr29 0; (try simp only [show (k29).sz = 3 from rfl, Nat.mul_one, Nat.add_zero] at hf29_0); have hx29_1 := hcc29 1 _ rfl; (try simp only [show (k29).sz = 3 from rfl, Nat.mul_one, Nat.add_zero] at hx29_1); have hf29_1 := hfr29 1; (try simp only [show (k29).sz = 3 from rfl, Nat.mul_one, Nat.add_zero] at hf29_1); have hx29_2 := hcc29 2 _ rfl; (try simp only [show (k29).sz = 3 from rfl, Nat.mul_one, Nat.add_zero] at hx29_2); have hf29_2 := hfr29 2; (try simp only [show (k29).sz = 3 from rfl, Nat.mul_one, Nat.add_zero] at hf29_2); clear hcl29 hcc29 hfr29 hM29 hoki29 hH29) | ((with_reducible refine gate_store (t := 29) (p := 50) rfl ?_); refine store_event (t := 29) (p := 50) (v := ?vo_w30) (w1 := (((w27.setCell ⟨go23, ((rd l2 x26_2) : Int).toNat * 3, none⟩ (.slice Ao28 t649.length co28)).setCell ⟨go23, ((rd l2 x26_2) : Int).toNat * 3 + 1, none⟩ (.int .i64 t652)).setCell ⟨go23, ((rd l2 x26_2) : Int).toNat * 3 + 2, none⟩ (.int .i64 t653))) ?hg ?ho ?hn ?hr ?_; (case ho => rfl); (case hg => rfl); (case hn => rfl); (case hr => exact zHH); intro w30 hw; have hg : w27.grownBy w30 (some go23) := (by rw [hw]; exact HP29.2); have hp_ : Kd.S k29 29 w30 w.heap.size (fun k_ => some k_ ≠ (.slice Ao26 x0_2.length co26 : Value).ownBlock) (.slice (some ⟨go23, 0, none⟩) x1_2.length co24) y655 := (by rw [hw, Ny655.1]; exact HP29.1); clear HP29; replace HO_0 := zM (Kd.R_over' (v := (.slice (some ⟨go23, 0, none⟩) x1_2.length co24)) (zR HO_0.1) (Kd.S_typed HO_1.1) (by decide) hg); replace HO_1 := zM hp_; replace HB := zM ((by rw [hw]; exact below_set (below_set (below_set (HB.1) GB23.1) GB23.1) GB23.1 : Below w.heap.size w w30)); clear HO651; clear hg hw hp_))
     go_roundg k2
     case measure => have := HJ5.1; have := HK2.1; omega
     case rel => exact ⟨(t654), (y655), (wrap64 (x26_2 + 1)), zJJ, H', ⟨by have := HJ5.1; have := HK2.1; omega⟩, ⟨zR HO_0.1⟩, ⟨zS HO_1.1⟩, ⟨zB0⟩⟩

end Go.Proofs.Ytnjdepmlpdjghaa.PFnAllEnds
