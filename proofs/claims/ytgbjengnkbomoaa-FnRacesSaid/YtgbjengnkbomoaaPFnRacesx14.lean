-- made by wip/tools/myprint.py out of the seat's translation
import Derived.Test.YtgbjengnkbomoaaPFnRacesx0
import Derived.Test.YtgbjengnkbomoaaPFnRacesx12
import Derived.Test.YtgbjengnkbomoaaPFnRacesx13
namespace Go.Proofs.Ytgbjengnkbomoaa.PFnRaces
open Go.RowKit Go.Proofs.YtgbjengnkbomoaaW.PrintWords Go.Proofs.YtgbjengnkbomoaaW.PrintLast Go.Proofs.YtgbjengnkbomoaaW.PrintMore
attribute [local go_sem] max2_int min2_int max_two min_two max_three min_three max_four min_four   -- for this text's walks alone
set_option linter.unusedVariables false
set_option linter.unusedSimpArgs false
set_option maxHeartbeats 8000000
set_option maxRecDepth 100000
abbrev zq14_0 : Array Bool := #[false, false, false, false, false, false, false, false, false, false, false]
abbrev zq14_11 : Array Bool := #[true, true, true, true, true, true, true, true, true, true, true]

/-! ### spec_Clocks: function 13 -/
mutual
def spec_Clocks.l0 : Nat → Int → List (S31) → List (List Int) → List (List Int) → Int → Option ((List (List Int)))
 | 0, _, _, _, _, _ => none
 | k + 1, x0, x1, x5, x6, x7 => if x7 < x0 then ((spec_ClockNew.f x0).bind fun t686 => (if x6.length < 5864062014805 then (spec_Clocks.l0 k x0 x1 x5 (x6 ++ [t686]) (wrap64 (x7 + 1))) else (none))) else (spec_Clocks.l1 k x1 x5 x6 (([] : List Int)) 0)
def spec_Clocks.l1 : Nat → List (S31) → List (List Int) → List (List Int) → List Int → Int → Option ((List (List Int)))
 | 0, _, _, _, _, _ => none
 | k + 1, x1, x5, x6, x8, x9 => if x9 < (x1.length : Int) then (if 0 ≤ x9 then ((some (([] : List Int) : List Int)).bind fun y697 => (if 0 ≤ ((rd_T31 x1 x9).f0) then (if ((rd_T31 x1 x9).f0) < (x6.length : Int) then (if y697.length + (rd_L3 x6 ((rd_T31 x1 x9).f0)).length < 17592186044416 then (spec_Clocks.l2 k x1 x5 x6 x8 x9 (y697 ++ (rd_L3 x6 ((rd_T31 x1 x9).f0))) 0 ((rd_T31 x1 x9).f0) ((rd_T31 x1 x9).f1) ((rd_T31 x1 x9).f2) ((rd_T31 x1 x9).f3) ((rd_T31 x1 x9).f4)) else (none)) else (none)) else (none))) else (none)) else (some x5)
def spec_Clocks.l2 : Nat → List (S31) → List (List Int) → List (List Int) → List Int → Int → List Int → Int → Int → Int → Int → Int → Int → Option ((List (List Int)))
 | 0, _, _, _, _, _, _, _, _, _, _, _, _ => none
 | k + 1, x1, x5, x6, x8, x9, x11, x12, x697000, x697001, x697002, x697003, x697004 => if x12 < (x8.length : Int) then ((spec_l20Swap.f x697000 x697001 x697002 x697003 x697004).bind fun t704 => (spec_Clocks.j3 k x1 x5 x6 x8 x9 x11 x12 t704 x697000 x697001 x697002 x697003 x697004)) else (spec_Clocks.j3 k x1 x5 x6 x8 x9 x11 x12 false x697000 x697001 x697002 x697003 x697004)
def spec_Clocks.j3 : Nat → List (S31) → List (List Int) → List (List Int) → List Int → Int → List Int → Int → Bool → Int → Int → Int → Int → Int → Option ((List (List Int)))
 | 0, _, _, _, _, _, _, _, _, _, _, _, _, _ => none
 | k + 1, x1, x5, x6, x8, x9, x11, x12, x55, x697000, x697001, x697002, x697003, x697004 => if x55 = true then (if 0 ≤ x12 then (if x12 < (x8.length : Int) then (if 0 ≤ (rd x8 x12) then (if (rd x8 x12) < (x1.length : Int) then (if ((rd_T31 x1 (rd x8 x12)).f2) = x697002 then (if (rd x8 x12) < (x5.length : Int) then ((spec_ClockJoin.f k x11 (rd_L3 x5 (rd x8 x12))).bind fun t709 => (spec_Clocks.l2 k x1 x5 x6 x8 x9 t709 (wrap64 (x12 + 1)) x697000 x697001 x697002 x697003 x697004)) else (none)) else (spec_Clocks.l2 k x1 x5 x6 x8 x9 x11 (wrap64 (x12 + 1)) x697000 x697001 x697002 x697003 x697004)) else (none)) else (none)) else (none)) else (none)) else (if 0 ≤ x697000 then (if x697000 < (x11.length : Int) then ((some (x11.set (x697000 : Int).toNat (wrap64 ((rd x11 x697000) + 1)) : List Int)).bind fun y713 => ((spec_l20Swap.f x697000 x697001 x697002 x697003 x697004).bind fun t714 => (if t714 = true then (if x8.length < 17592186044416 then (if x697000 < (x6.length : Int) then ((some (x6.set (x697000 : Int).toNat y713 : List (List Int))).bind fun y718 => ((some (([] : List Int) : List Int)).bind fun y719 => (if y719.length + (rd_L3 y718 x697000).length < 17592186044416 then (if x5.length < 5864062014805 then (spec_Clocks.l1 k x1 (x5 ++ [(y719 ++ (rd_L3 y718 x697000))]) y718 (x8 ++ [x9]) (wrap64 (x9 + 1))) else (none)) else (none)))) else (none)) else (none)) else (if x697000 < (x6.length : Int) then ((some (x6.set (x697000 : Int).toNat y713 : List (List Int))).bind fun y729 => ((some (([] : List Int) : List Int)).bind fun y730 => (if y730.length + (rd_L3 y729 x697000).length < 17592186044416 then (if x5.length < 5864062014805 then (spec_Clocks.l1 k x1 (x5 ++ [(y730 ++ (rd_L3 y729 x697000))]) y729 x8 (wrap64 (x9 + 1))) else (none)) else (none)))) else (none))))) else (none)) else (none))
end
def spec_Clocks.f (k : Nat) (a0 : Int) (l1 : List (S31)) : Option ((List (List Int))) := (some (([] : List (List Int)) : List (List Int))).bind fun y679 => ((spec_l20Whos.f k a0 l1).bind fun t682 => (if t682 = true then (spec_Clocks.l0 k a0 l1 y679 (([] : List (List Int))) 0) else (some y679)))
theorem spec_Clocks.mono_l : ∀ k, (∀ y0 y1 y2 y3 y4, LeO (spec_Clocks.l0 k y0 y1 y2 y3 y4) (spec_Clocks.l0 (k + 1) y0 y1 y2 y3 y4)) ∧ (∀ y0 y1 y2 y3 y4, LeO (spec_Clocks.l1 k y0 y1 y2 y3 y4) (spec_Clocks.l1 (k + 1) y0 y1 y2 y3 y4)) ∧ (∀ y0 y1 y2 y3 y4 y5 y6 y7 y8 y9 y10 y11, LeO (spec_Clocks.l2 k y0 y1 y2 y3 y4 y5 y6 y7 y8 y9 y10 y11) (spec_Clocks.l2 (k + 1) y0 y1 y2 y3 y4 y5 y6 y7 y8 y9 y10 y11)) ∧ (∀ y0 y1 y2 y3 y4 y5 y6 y7 y8 y9 y10 y11 y12, LeO (spec_Clocks.j3 k y0 y1 y2 y3 y4 y5 y6 y7 y8 y9 y10 y11 y12) (spec_Clocks.j3 (k + 1) y0 y1 y2 y3 y4 y5 y6 y7 y8 y9 y10 y11 y12))
 | 0 => ⟨fun _ _ _ _ _ r h => by simp [spec_Clocks.l0] at h, fun _ _ _ _ _ r h => by simp [spec_Clocks.l1] at h, fun _ _ _ _ _ _ _ _ _ _ _ _ r h => by simp [spec_Clocks.l2] at h, fun _ _ _ _ _ _ _ _ _ _ _ _ _ r h => by simp [spec_Clocks.j3] at h⟩
 | k + 1 => by
  obtain ⟨ih0, ih1, ih2, ih3⟩ := spec_Clocks.mono_l k
  refine ⟨?_, ?_, ?_, ?_⟩
  ·intros
   unfold spec_Clocks.l0
   have mo0 := @spec_ClockJoin.mono
   have mo1 := @spec_l20Whos.mono
   exact zL
  ·intros
   unfold spec_Clocks.l1
   have mo0 := @spec_ClockJoin.mono
   have mo1 := @spec_l20Whos.mono
   exact zL
  ·intros
   unfold spec_Clocks.l2
   have mo0 := @spec_ClockJoin.mono
   have mo1 := @spec_l20Whos.mono
   exact zL
  ·intros
   unfold spec_Clocks.j3
   have mo0 := @spec_ClockJoin.mono
   have mo1 := @spec_l20Whos.mono
   exact zL
theorem spec_Clocks.mono : ∀ a0 a1 k, LeO (spec_Clocks.f k a0 a1) (spec_Clocks.f (k + 1) a0 a1) := by
 intro a0 a1 k
 obtain ⟨ih0, ih1, ih2, ih3⟩ := spec_Clocks.mono_l k
 unfold spec_Clocks.f
 have mo0 := @spec_ClockJoin.mono
 have mo1 := @spec_l20Whos.mono
 exact zL
def spec_Clocks.T18 : Bool × List (List Nat × List Nat) := (true, [([], []), ([], []), ([], []), ([1, 2], [1, 2]), ([3], [3]), ([0, 4], [0, 4]), ([5], [5]), ([6], [6]), ([], []), ([8], [8]), ([7, 9], [7, 9])])
def spec_Clocks.B18 : List Nat := [0, 0, 0, 6, 14, 31, 63, 127, 0, 256, 1023]
theorem spec_Clocks.tab18 : rtab .any (opsOf Try.f13 18) = spec_Clocks.T18 := by kernel_rfl
theorem spec_Clocks.bits18 : waitsOk spec_Clocks.T18.2 spec_Clocks.B18 = true := by kernel_rfl
def spec_Clocks.T20 : Bool × List (List Nat × List Nat) := (true, [([], []), ([], []), ([1], [1]), ([], []), ([], []), ([4], [4]), ([3, 5], [3, 5]), ([6], [6]), ([7], [7]), ([0, 2, 0, 1, 2, 3, 4, 5, 6, 7, 8], [0, 2]), ([9, 8, 0, 1, 2, 3, 4, 5, 6, 7, 8], [8, 9])])
def spec_Clocks.B20 : List Nat := [0, 0, 2, 0, 0, 16, 56, 120, 248, 511, 1023]
theorem spec_Clocks.tab20 : rtab .any (opsOf Try.f13 20) = spec_Clocks.T20 := by kernel_rfl
theorem spec_Clocks.bits20 : waitsOk spec_Clocks.T20.2 spec_Clocks.B20 = true := by kernel_rfl
theorem spec_Clocks.calls (k : Nat) (a0 : Int) (A1 : Option Addr) (c1 : Nat) (l1 : List (S31)) (r : List (List Int)) (w : World) (hr1 : Kd.C k31 w A1 l1.length l1) (hc1 : l1.length ≤ c1) (h : spec_Clocks.f k a0 l1 = some r) :
  Calls Try.prog 13 #[.int .i64 a0, .slice A1 l1.length c1] w fun e w' => ∃ v0_ : Value, e = .returned (v0_) ∧ Kd.S (Kd.slice 3 (Kd.int .i64)) 29 w' w.heap.size (fun _ => True) v0_ r ∧ Below w.heap.size w w' := by
 have hu31 := Try.underlying31
 have HR1 := zM hr1
 have HC1 := zM hc1
 clear hr1 hc1
 have HB := zM (Below.refl w.heap.size w)
 unfold spec_Clocks.f at h
 have H := h
 clear h
 replace H := zY H
 obtain ⟨y679, Ny679, H⟩ := H
 replace H := zO H
 obtain ⟨t682, A3, H⟩ := H
 by_cases c4 : t682 = true
 rotate_left
 ·replace c4 := Bool.eq_false_iff.mpr c4
  subst c4
  rw [if_neg zF] at H
  obtain rfl := Option.some.inj H
  go_enter Try.func13, Try.ntmps13
  go_wp2_with (first | ((with_reducible refine gate_dst (N := 13) rfl ?_); refine Kd.S_lit (Kd.slice 3 (Kd.int .i64)) _ 29 ?hg (N := 13) ?hd (xs := ([] : List (List Int))) (inner := []) (ok := fun _ => True) (okp := fun _ => True) ?hr ?hp (fun _ hk => hk) trivial (Below.refl _ _) (Nat.le_refl _) (by simp) ?_; (case hd => rfl); (case hg => rfl); (case hr => exact zHH); (case hp => exact (Reps.none _ _)); intro v680 w94 ho95 hb hg_ hnew_; clear hg_ hnew_; (first | rw [← Ny679.1] at ho95 | (simp only [Int.reduceToNat] at ho95; rw [← Ny679.1] at ho95)); have HO681 := zM (Kd.S_lower ho95 (below_size zB1)); replace HB := zM (below_step zB1 hb); clear hb ho95) | ((with_reducible refine zG Try.func38 16 #[.int .i64 a0, .slice A1 l1.length c1] ?_); (with_reducible refine (spec_l20Whos.calls k a0 _ _ l1 false _ ?side1 ?side2 A3.1).mono ?_); (case side1 => exact zC (Kd.C_below HR1.1 HB.1)); (case side2 => exact HC1.1); rintro e w' ⟨rfl, ⟨nd, rfl⟩⟩; refine ⟨_, rfl, ?_⟩))
  go_ret
  exact ⟨_, zE, zS HO681.1, zB1⟩
 subst c4
 rw [if_pos rfl] at H
 generalize hy683 : ((([] : List (List Int))) : List (List Int)) = y683 at H
 have Ny683 := zM hy683.symm
 clear hy683
 have H' := zM H
 clear H
 go_enter Try.func13, Try.ntmps13
 go_wp2_with (first | ((with_reducible refine gate_dst (N := 13) rfl ?_); refine Kd.S_lit (Kd.slice 3 (Kd.int .i64)) _ 29 ?hg (N := 13) ?hd (xs := ([] : List (List Int))) (inner := []) (ok := fun _ => True) (okp := fun _ => True) ?hr ?hp (fun _ hk => hk) trivial (Below.refl _ _) (Nat.le_refl _) (by simp) ?_; (case hd => rfl); (case hg => rfl); (case hr => exact zHH); (case hp => exact (Reps.none _ _)); intro v680 w5 ho6 hb hg_ hnew_; clear hg_ hnew_; (first | rw [← Ny679.1] at ho6 | (simp only [Int.reduceToNat] at ho6; rw [← Ny679.1] at ho6)); have HO681 := zM (Kd.S_lower ho6 (below_size zB1)); replace HB := zM (below_step zB1 hb); clear hb ho6) | ((with_reducible refine zG Try.func38 16 #[.int .i64 a0, .slice A1 l1.length c1] ?_); (with_reducible refine (spec_l20Whos.calls k a0 _ _ l1 true _ ?side1 ?side2 A3.1).mono ?_); (case side1 => exact zC (Kd.C_below HR1.1 HB.1)); (case side2 => exact HC1.1); rintro e w' ⟨rfl, ⟨nd, rfl⟩⟩; refine ⟨_, rfl, ?_⟩) | ((with_reducible refine gate_dst (N := 19) rfl ?_); refine Kd.S_lit (Kd.slice 3 (Kd.int .i64)) _ 29 ?hg (N := 19) ?hd (xs := ([] : List (List Int))) (inner := []) (ok := fun _ => True) (okp := fun _ => True) ?hr ?hp (fun _ hk => hk) trivial (Below.refl _ _) (Nat.le_refl _) (by simp) ?_; (case hd => rfl); (case hg => rfl); (case hr => exact zHH); (case hp => exact (Reps.none _ _)); intro v684 w7 ho8 hb hg_ hnew_; clear hg_ hnew_; (first | rw [← Ny683.1] at ho8 | (simp only [Int.reduceToNat] at ho8; rw [← Ny683.1] at ho8)); have HO685 := zM (Kd.S_lower (Kd.S_new' ho8 (Kd.S_lt (zS HO681.1))) (below_size zB1)); replace HO681 := zM (Kd.S_elder' (zS HO681.1) (Kd.S_base ho8) hb); replace HB := zM (below_step zB1 hb); clear hb ho8))
 go_loopg [6, 7] k (fun kq v6 v7 w' => ∃ (x6_1 : List (List Int)) (x7_1 : Int), v7 = .int .i64 x7_1 ∧ Aside0 (spec_Clocks.l0 kq a0 l1 y679 x6_1 x7_1 = some r) ∧ Aside0 (kq ≤ k) ∧ Aside0 (Kd.S (Kd.slice 3 (Kd.int .i64)) 29 w' w.heap.size (fun k_ => some k_ ≠ (v6 : Value).ownBlock) v680 y679) ∧ Aside0 (Kd.S (Kd.slice 3 (Kd.int .i64)) 29 w' w.heap.size (fun k_ => some k_ ≠ (v680 : Value).ownBlock) v6 x6_1) ∧ Aside0 (Below w.heap.size w w'))
 case atStart => exact ⟨(y683), (0), zJJ, H', ⟨Nat.le_refl _⟩, ⟨by refine zrS ?_; exact Kd.S_mono HO681.1 (fun _ hk => hk.2)⟩, ⟨by refine zrS ?_; exact Kd.S_mono HO685.1 (fun _ hk => hk.2)⟩, ⟨zB1⟩⟩
 case round =>
  clear H'
  obtain ⟨x6_1, x7_1, rfl, HA, HK1, HO_5, HO_6, HB⟩ := hrel
  cases gk with
  | zero => exact absurd HA.1 (by simp [spec_Clocks.l0])
  | succ k1 =>
   have H := HA.1
   clear HA
   simp only [spec_Clocks.l0] at H
   by_cases c9 : x7_1 < a0
   ·rw [if_pos c9] at H
    have c9b0 := decide_eq_true c9
    clear c9
    replace H := zO H
    obtain ⟨t686, A10, H⟩ := H
    replace H := zIn H
    obtain ⟨LMc11, H⟩ := H
    generalize hy689 : ((x6_1 ++ [t686]) : List (List Int)) = y689 at H
    have Ny689 := zM hy689.symm
    clear hy689
    have H' := zM H
    clear H
    go_wp2_with (first | ((with_reducible refine zG Try.func39 27 #[.int .i64 a0] ?_); (with_reducible refine (spec_ClockNew.calls a0 t686 _ A10.1).mono ?_); rintro e w12 ⟨v687, rfl, ho0, hb⟩; refine ⟨_, rfl, ?_⟩; replace HO_5 := zM (Kd.S_elder' (zS HO_5.1) (Kd.R_base ho0) hb); replace HO_6 := zM (Kd.S_elder' (zS HO_6.1) (Kd.R_base ho0) hb); have HO688 := zM (Kd.R_lower ho0 (below_size zB1)); replace HB := zM (below_step zB1 hb); clear hb ho0; obtain ⟨Ao14, co14, eo14⟩ := Kd.R_slice HO688.1; subst eo14) | ((with_reducible refine gate_builtin (b := .append) (xs := #[.tmp 25, .tmp 28]) rfl ?_); at_builtin; refine Kd.S_append (Kd.slice 3 (Kd.int .i64)) (w0 := w) w.heap.size rfl (.tmp 25) (.tmp 28) 35 29 (.slice none 0 0) 24 rfl Try.underlying35 info29 rfl (by decide) (by omega) u6 x6_1 t686 [.slice Ao14 t686.length co14] (fun k_ => some k_ ≠ (v680 : Value).ownBlock) (fun k_ => some k_ = (.slice Ao14 t686.length co14 : Value).ownBlock) rfl rfl ?aP (fun k_ hk_ => ((Kd.R_mono (ok' := fun k_ => ((fun k_ => some k_ ≠ (v680 : Value).ownBlock)) k_ ∧ some k_ ≠ (u6 : Value).ownBlock) (Kd.R_apart' (Kd.R_apart' (HO688.1) (Kd.S_typed HO_5.1) (by decide)) (Kd.S_typed HO_6.1) (by decide)) (fun k_ hk => ⟨hk.1.2, hk.2⟩))).1 k_ hk_.symm) ?aF ?aO ?aB ?aS ?aL ?_; (case aP => exact Kd.M_row (Kd.R_mono (Kd.R_tight rfl (Kd.R_mono (ok' := fun k_ => ((fun k_ => some k_ ≠ (v680 : Value).ownBlock)) k_ ∧ some k_ ≠ (u6 : Value).ownBlock) (Kd.R_apart' (Kd.R_apart' (HO688.1) (Kd.S_typed HO_5.1) (by decide)) (Kd.S_typed HO_6.1) (by decide)) (fun k_ hk => ⟨hk.1.2, hk.2⟩))) (fun _ h_ => h_))); (case aB => exact zB1); (case aF => exact (fun k_ hk => Kd.fresh' (Kd.S_lt (zS HO_5.1)) k_ hk)); (case aO => exact (by refine zrS ?_; exact Kd.S_mono HO_6.1 (fun k_ hk => ⟨hk.1, fun e_ => hk.2 e_⟩))); (case aS => exact (below_size zB1)); (case aL => have := LMc11.out; omega); intro v690 w13 ho hb hg hat; rw [← Ny689.1] at ho; replace HO_5 := zM (Kd.S_after (ok := (fun k_ => some k_ ≠ (.slice Ao14 t686.length co14 : Value).ownBlock)) (by refine zrS ?_; exact Kd.S_mono HO_5.1 (fun _ hk => ⟨hk.2, hk.1⟩)) hg hat); replace HB := zM hb; have HO691 := zM ho; clear HO_6 HO688; clear ho hb hg hat))
    go_roundg k1
    case measure => have := HK1.1; omega
    case rel => exact ⟨(y689), (wrap64 (x7_1 + 1)), zJJ, H', ⟨by have := HK1.1; omega⟩, ⟨by refine zrS ?_; exact Kd.S_mono HO_5.1 (fun _ hk => hk.2)⟩, ⟨zS HO691.1⟩, ⟨zB1⟩⟩
   rw [if_neg c9] at H
   have c9b0 := decide_eq_false c9
   clear c9
   generalize hy692 : ((([] : List Int)) : List Int) = y692 at H
   have Ny692 := zM hy692.symm
   clear hy692
   have H' := zM H
   clear H
   go_wp2_with (first | ((with_reducible refine gate_dst (N := 30) rfl ?_); refine Kd.R_lit (Kd.int .i64) _ 3 ?hg (N := 30) ?hd (xs := ([] : List Int)) (inner := []) (ok := fun _ => True) (okp := fun _ => True) ?hr ?hp (fun _ hk => hk) trivial (Below.refl _ _) (Nat.le_refl _) (by simp) ?_; (case hd => rfl); (case hg => rfl); (case hr => exact zHH); (case hp => exact (Reps.none _ _)); intro v693 w15 ho16 hb hg_ hnew_; clear hg_ hnew_; (first | rw [← Ny692.1] at ho16 | (simp only [Int.reduceToNat] at ho16; rw [← Ny692.1] at ho16)); replace HO_5 := zM (Kd.S_elder' (zS HO_5.1) (Kd.R_base ho16) hb); replace HO_6 := zM (Kd.S_elder' (zS HO_6.1) (Kd.R_base ho16) hb); have HO694 := zM (Kd.R_lower ho16 (below_size zB1)); replace HB := zM (below_step zB1 hb); clear hb ho16))
   go_loopg [5, 8, 9] k1 (fun kq v5 v8 v9 w' => ∃ (x5_2 : List (List Int)) (x6_2 : List (List Int)) (x8_2 : List Int) (x9_2 : Int), v9 = .int .i64 x9_2 ∧ Aside0 (spec_Clocks.l1 kq l1 x5_2 x6_2 x8_2 x9_2 = some r) ∧ Aside0 (kq ≤ k1) ∧ Aside0 (Kd.S (Kd.slice 3 (Kd.int .i64)) 29 w' w.heap.size (fun k_ => some k_ ≠ (u6 : Value).ownBlock ∧ some k_ ≠ (v8 : Value).ownBlock) v5 x5_2) ∧ Aside0 (Kd.S (Kd.slice 3 (Kd.int .i64)) 29 w' w.heap.size (fun k_ => some k_ ≠ (v5 : Value).ownBlock ∧ some k_ ≠ (v8 : Value).ownBlock) u6 x6_2) ∧ Aside0 (Kd.R (Kd.int .i64) 3 w' w.heap.size (fun _ => True) v8 x8_2) ∧ Aside0 (Below w.heap.size w w'))
   case atStart => exact ⟨(y679), (x6_1), (y692), (0), zJJ, H', ⟨Nat.le_refl _⟩, ⟨zS HO_5.1⟩, ⟨zS HO_6.1⟩, ⟨zR HO694.1⟩, ⟨zB1⟩⟩
   case round =>
    clear H'
    obtain ⟨x5_2, x6_2, x8_2, x9_2, rfl, HA, HK2, HO_5, HO_6, HO_8, HB⟩ := hrel
    cases gk with
    | zero => exact absurd HA.1 (by simp [spec_Clocks.l1])
    | succ k2 =>
     have H := HA.1
     clear HA
     simp only [spec_Clocks.l1] at H
     by_cases c17 : x9_2 < (l1.length : Int)
     rotate_left
     ·rw [if_neg c17] at H
      have c17b0 := decide_eq_false c17
      clear c17
      obtain rfl := Option.some.inj H
      go_wp2
      go_ret
      exact ⟨_, zE, by refine zrS ?_; exact Kd.S_mono HO_5.1 (fun _ hk => trivial), zB1⟩
     rw [if_pos c17] at H
     have c17b0 := decide_eq_true c17
     clear c17
     replace H := zIt H
     obtain ⟨c18b0, H⟩ := H
     replace H := zY H
     obtain ⟨y697, Ny697, H⟩ := H
     replace H := zIt H
     obtain ⟨c19b0, H⟩ := H
     replace H := zIt H
     obtain ⟨c20b0, H⟩ := H
     replace H := zIn H
     obtain ⟨LMc21, H⟩ := H
     generalize hy701 : ((y697 ++ (rd_L3 x6_2 ((rd_T31 l1 x9_2).f0))) : List Int) = y701 at H
     have Ny701 := zM hy701.symm
     clear hy701
     have H' := zM H
     clear H
     obtain ⟨p695, q695, ad695, e695, hx695_0, hx695_1, hx695_2, hx695_3, hx695_4⟩ := zRd (at_T31 HR1.1 x9_2)
     cases e695
     replace hx695_0 := zHx HB.1 hx695_0
     replace hx695_1 := zHx HB.1 hx695_1
     replace hx695_2 := zHx HB.1 hx695_2
     replace hx695_3 := zHx HB.1 hx695_3
     replace hx695_4 := zHx HB.1 hx695_4
     go_wp2_with (first | ((with_reducible refine zBx 10 31 #[.int .i64 0, .int .i64 0, .int .i64 0, .int .i64 0, .int .i64 0] ?_); intro gb696 hg w22 hbox hb; replace HO_5 := zM (Kd.S_below (zS HO_5.1) hb); replace HO_6 := zM (Kd.S_below (zS HO_6.1) hb); replace HO_8 := zM (Kd.R_below (zR HO_8.1) hb); have BK696 := zM hbox; have GW696 := zM (zW hg (below_size zB1)); have GE696 := zM (zW hg (below_size zB1)); replace HB := zM (below_step zB1 hb); clear hb hbox hg; have hcz23 := zc_5 (w := w22) BK696.1) | ((with_reducible refine gate_dst (N := 41) rfl ?_); refine Kd.R_lit (Kd.int .i64) _ 3 ?hg (N := 41) ?hd (xs := ([] : List Int)) (inner := []) (ok := fun _ => True) (okp := fun _ => True) ?hr ?hp (fun _ hk => hk) trivial (Below.refl _ _) (Nat.le_refl _) (by simp) ?_; (case hd => rfl); (case hg => rfl); (case hr => exact zHH); (case hp => exact (Reps.none _ _)); intro v698 w24 ho25 hb hg_ hnew_; clear hg_ hnew_; (first | rw [← Ny697.1] at ho25 | (simp only [Int.reduceToNat] at ho25; rw [← Ny697.1] at ho25)); replace HO_5 := zM (Kd.S_elder' (by refine zrS ?_; exact (Kd.S_mono (zfS (zfS (zfS (zfS (zfS (Kd.S_types HO_5.1 BK696.1 (by decide))))))) (fun _ h_ => h_.1))) (Kd.R_base ho25) hb); replace HO_6 := zM (Kd.S_elder' (by refine zrS ?_; exact (Kd.S_mono (zfS (zfS (zfS (zfS (zfS (Kd.S_types HO_6.1 BK696.1 (by decide))))))) (fun _ h_ => h_.1))) (Kd.R_base ho25) hb); have HO699 := zM (Kd.R_lower (Kd.R_new' ho25 (Kd.R_lt (by refine zrR ?_; exact (Kd.R_mono (zfR (zfR (zfR (zfR (zfR (Kd.R_types HO_8.1 BK696.1 (by decide))))))) (fun _ h_ => h_.1))))) (below_size zB1)); replace HO_8 := zM (Kd.R_elder' (by refine zrR ?_; exact (Kd.R_mono (zfR (zfR (zfR (zfR (zfR (Kd.R_types HO_8.1 BK696.1 (by decide))))))) (fun _ h_ => h_.1))) (Kd.R_base ho25) hb); replace BK696 := zM (blk_below (g := gb696) (o := .cells #[.int .i64 ((rd_T31 l1 x9_2).f0), .int .i64 ((rd_T31 l1 x9_2).f1), .int .i64 ((rd_T31 l1 x9_2).f2), .int .i64 ((rd_T31 l1 x9_2).f3), .int .i64 ((rd_T31 l1 x9_2).f4)] 31 (0, 0)) (by exact zp5 (zK BK696.1)) hb); replace HB := zM (below_step zB1 hb); clear hb ho25; have hcz26 := zc_5 (w := w24) BK696.1; obtain ⟨Ao27, co27, eo27⟩ := Kd.S_slice HO_6.1; subst eo27; have p700 : 0 ≤ (((rd_T31 l1 x9_2).f0) : Int) := zA; have q700 : ((rd_T31 l1 x9_2).f0) < (x6_2.length : Int) := zA; obtain ⟨ad700, A700_0, c700_0, e700, hx700_0, hl700_0, hi700_0⟩ := at_L3 (Kd.S_reads' HO_6.1).2.2 ((rd_T31 l1 x9_2).f0) p700 q700; cases e700; obtain ⟨ce700, hce700, hMe700, hcc700⟩ := Kd.S_get HO_6.1 [] ((rd_T31 l1 x9_2).f0) p700 (by first | exact q700 | exact zA | (have e_ := (Kd.S_reads' HO_6.1).1; omega)); obtain ⟨ve700_0, rfl, ge700_0⟩ := hMe700; have hv700_0 := hcc700 0 _ rfl; rw [Nat.add_zero, show ((Kd.slice 3 (Kd.int .i64))).sz = 1 from rfl, Nat.mul_one] at hv700_0; replace hv700_0 := Option.some.inj (hv700_0.symm.trans hx700_0); rw [hv700_0] at ge700_0; have HL700_0 := zM (show Kd.R (Kd.int .i64) 3 _ _ _ _ (rd_L3 x6_2 ((rd_T31 l1 x9_2).f0)) from ge700_0); clear hv700_0 ge700_0; clear hcc700 hce700; have HR700_0 := zM hi700_0; have HC700_0 := zM hl700_0; clear hi700_0 hl700_0; replace p700 := eq_true p700; replace q700 := eq_true q700) | ((with_reducible refine gate_builtin (b := .append) (xs := #[.tmp 41, .tmp 46]) rfl ?_); at_builtin; refine Kd.R_append_rows (Kd.int .i64) (w0 := w) w.heap.size rfl (.tmp 41) (.tmp 46) 29 3 (.int .i64 0) 8 rfl Try.underlying29 info3 rfl (by decide) (by omega) v698 y697 (rd_L3 x6_2 ((rd_T31 l1 x9_2).f0)) _ _ _ (fun k_ => some k_ ≠ (u8 : Value).ownBlock) (fun _ => False) rfl rfl ?aO ?aR (fun _ _ h => h) (fun _ h => h.elim) ?aF ?aB ?aS ?aL ?_; (case aR => exact zC HR700_0.1); (case aB => exact zB1); (case aF => exact (fun k_ hk => Kd.fresh' (Kd.R_lt (zR HO_8.1)) k_ hk)); (case aO => exact (by refine zrR ?_; exact Kd.R_mono HO699.1 (fun _ hk => hk.2))); (case aS => exact (below_size zB1)); (case aL => have := LMc21.out; omega); intro v702 w28 ho hb hg hat; rw [← Ny701.1] at ho; replace HO_5 := zM (Kd.S_after (ok := (fun k_ => some k_ ≠ (.slice (some ad700) x6_2.length co27 : Value).ownBlock ∧ some k_ ≠ (u8 : Value).ownBlock)) (zS HO_5.1) hg hat); replace HO_6 := zM (Kd.S_after (ok := (fun k_ => some k_ ≠ (u5 : Value).ownBlock ∧ some k_ ≠ (u8 : Value).ownBlock)) (zS HO_6.1) hg hat); replace HO_8 := zM (Kd.R_after (ok := (fun _ => True)) (zR HO_8.1) hg hat); replace BK696 := zM (zg BK696.1 hg (Kd.R_ne HO699.1 BK696.1 (by decide))); replace HL700_0 := zM (Kd.R_after (ok := (fun k_ => some k_ ≠ (u5 : Value).ownBlock ∧ some k_ ≠ (.slice (some ad700) x6_2.length co27 : Value).ownBlock ∧ some k_ ≠ (u8 : Value).ownBlock)) (by refine zrR ?_; exact Kd.R_mono HL700_0.1 (fun _ hk => ⟨⟨hk.1.1.1, ⟨hk.2, hk.1.1.2⟩⟩, hk.1.2⟩)) hg hat); replace HB := zM hb; have HO703 := zM ho; clear HO699; clear ho hb hg hat))
     go_loopg [11, 12] k2 (fun kq v11 v12 w' => ∃ (x11_3 : List Int) (x12_3 : Int), v12 = .int .i64 x12_3 ∧ Aside0 (spec_Clocks.l2 kq l1 x5_2 x6_2 x8_2 x9_2 x11_3 x12_3 ((rd_T31 l1 x9_2).f0) ((rd_T31 l1 x9_2).f1) ((rd_T31 l1 x9_2).f2) ((rd_T31 l1 x9_2).f3) ((rd_T31 l1 x9_2).f4) = some r) ∧ Aside0 (kq ≤ k2) ∧ Aside0 (Kd.S (Kd.slice 3 (Kd.int .i64)) 29 w' w.heap.size (fun k_ => some k_ ≠ ((.slice (some ad700) x6_2.length co27) : Value).ownBlock ∧ some k_ ≠ (u8 : Value).ownBlock ∧ some k_ ≠ (v11 : Value).ownBlock) u5 x5_2) ∧ Aside0 (Kd.S (Kd.slice 3 (Kd.int .i64)) 29 w' w.heap.size (fun k_ => some k_ ≠ (u5 : Value).ownBlock ∧ some k_ ≠ (u8 : Value).ownBlock ∧ some k_ ≠ (v11 : Value).ownBlock) (.slice (some ad700) x6_2.length co27) x6_2) ∧ Aside0 (Kd.R (Kd.int .i64) 3 w' w.heap.size (fun k_ => some k_ ≠ (v11 : Value).ownBlock) u8 x8_2) ∧ Aside0 (Kd.R (Kd.int .i64) 3 w' w.heap.size (fun k_ => some k_ ≠ (u8 : Value).ownBlock) v11 x11_3) ∧ Aside0 (w'.heap[gb696]? = some (.cells #[.int .i64 ((rd_T31 l1 x9_2).f0), .int .i64 ((rd_T31 l1 x9_2).f1), .int .i64 ((rd_T31 l1 x9_2).f2), .int .i64 ((rd_T31 l1 x9_2).f3), .int .i64 ((rd_T31 l1 x9_2).f4)] 31 (0, 0))) ∧ Aside0 (Below w.heap.size w w'))
     case atStart => exact ⟨(y701), (0), zJJ, H', ⟨Nat.le_refl _⟩, ⟨by refine zrS ?_; exact Kd.S_mono HO_5.1 (fun _ hk => ⟨hk.1.1, ⟨hk.1.2, hk.2⟩⟩)⟩, ⟨by refine zrS ?_; exact Kd.S_mono HO_6.1 (fun _ hk => ⟨hk.1.1, ⟨hk.1.2, hk.2⟩⟩)⟩, ⟨by refine zrR ?_; exact Kd.R_mono HO_8.1 (fun _ hk => hk.2)⟩, ⟨zR HO703.1⟩, ⟨zK BK696.1⟩, ⟨zB1⟩⟩
     case round =>
      clear H'
      obtain ⟨x11_3, x12_3, rfl, HA, HK3, HO_5, HO_6, HO_8, HO_11, BK696, HB⟩ := hrel
      cases gk with
      | zero => exact absurd HA.1 (by simp [spec_Clocks.l2])
      | succ k3 =>
       have H := HA.1
       clear HA
       simp only [spec_Clocks.l2] at H
       have HC29 := zM H
       clear H
       go_upto_region 16 with (fail)
       go_cut [55] (fun v55 wc => ∃ (kq : Nat) (x55_28 : Bool), v55 = .bool x55_28 ∧ Aside0 (spec_Clocks.j3 kq l1 x5_2 x6_2 x8_2 x9_2 x11_3 x12_3 x55_28 ((rd_T31 l1 x9_2).f0) ((rd_T31 l1 x9_2).f1) ((rd_T31 l1 x9_2).f2) ((rd_T31 l1 x9_2).f3) ((rd_T31 l1 x9_2).f4) = some r) ∧ Aside0 (kq ≤ k3) ∧ Aside0 (Kd.S (Kd.slice 3 (Kd.int .i64)) 29 wc w.heap.size (fun k_ => some k_ ≠ ((.slice (some ad700) x6_2.length co27) : Value).ownBlock ∧ some k_ ≠ (u8 : Value).ownBlock ∧ some k_ ≠ (u11 : Value).ownBlock) u5 x5_2) ∧ Aside0 (Kd.S (Kd.slice 3 (Kd.int .i64)) 29 wc w.heap.size (fun k_ => some k_ ≠ (u5 : Value).ownBlock ∧ some k_ ≠ (u8 : Value).ownBlock ∧ some k_ ≠ (u11 : Value).ownBlock) (.slice (some ad700) x6_2.length co27) x6_2) ∧ Aside0 (Kd.R (Kd.int .i64) 3 wc w.heap.size (fun k_ => some k_ ≠ (u11 : Value).ownBlock) u8 x8_2) ∧ Aside0 (Kd.R (Kd.int .i64) 3 wc w.heap.size (fun k_ => some k_ ≠ (u8 : Value).ownBlock) u11 x11_3) ∧ Aside0 (wc.heap[gb696]? = some (.cells #[.int .i64 ((rd_T31 l1 x9_2).f0), .int .i64 ((rd_T31 l1 x9_2).f1), .int .i64 ((rd_T31 l1 x9_2).f2), .int .i64 ((rd_T31 l1 x9_2).f3), .int .i64 ((rd_T31 l1 x9_2).f4)] 31 (0, 0))) ∧ Aside0 (Below w.heap.size w wc))
       case first =>
        have H := HC29.1
        clear HC29
        by_cases c30 : x12_3 < (x8_2.length : Int)
        rotate_left
        ·rw [if_neg c30] at H
         have c30b0 := decide_eq_false c30
         clear c30
         (first | rw [c30b0] | (simp only [i64_w, i32_w]; rw [c30b0]) | skip)
         have H' := zM H
         clear H
         obtain ⟨Ao35, co35, eo35⟩ := Kd.R_slice HO_8.1
         subst eo35
         go_wp2
         go_meet
         case rel => exact ⟨_, (false), zJJ, H', ⟨by have := HK1.1; have := HK2.1; have := HK3.1; first | omega | exact Nat.le_refl _⟩, ⟨zS HO_5.1⟩, ⟨zS HO_6.1⟩, ⟨zR HO_8.1⟩, ⟨zR HO_11.1⟩, ⟨zK BK696.1⟩, ⟨zB1⟩⟩
        rw [if_pos c30] at H
        have c30b0 := decide_eq_true c30
        clear c30
        (first | rw [c30b0] | (simp only [i64_w, i32_w]; rw [c30b0]) | skip)
        replace H := zO H
        obtain ⟨t704, A31, H⟩ := H
        have H' := zM H
        clear H
        obtain ⟨Ao32, co32, eo32⟩ := Kd.R_slice HO_8.1
        subst eo32
        have hcz33 := zc_5 (w := wr) BK696.1
        go_wp2_with (first | (go_at_call 40; (with_reducible refine (spec_l20Swap.calls ((rd_T31 l1 x9_2).f0) ((rd_T31 l1 x9_2).f1) ((rd_T31 l1 x9_2).f2) ((rd_T31 l1 x9_2).f3) ((rd_T31 l1 x9_2).f4) t704 _ A31.1).mono ?_); rintro e w34 ⟨rfl, hb⟩; have n0_ := zM (Kd.S_below (zS HO_5.1) hb); have n1_ := zM (Kd.S_below (zS HO_6.1) hb); have n2_ := zM (Kd.R_below (zR HO_8.1) hb); have n3_ := zM (Kd.R_below (zR HO_11.1) hb); have n4_ := zM (zb BK696.1 hb); have n5_ := zM (below_step zB1 hb); clear HO_5; clear HO_6; clear HO_8; clear HO_11; clear BK696; clear HB; have HO_5 := n0_; have HO_6 := n1_; have HO_8 := n2_; have HO_11 := n3_; have BK696 := n4_; have HB := n5_; clear n0_ n1_ n2_ n3_ n4_ n5_; clear hb))
        go_meet
        case rel => exact ⟨_, (t704), zJJ, H', ⟨by have := HK1.1; have := HK2.1; have := HK3.1; first | omega | exact Nat.le_refl _⟩, ⟨zS HO_5.1⟩, ⟨zS HO_6.1⟩, ⟨zR HO_8.1⟩, ⟨zR HO_11.1⟩, ⟨zK BK696.1⟩, ⟨zB1⟩⟩
       case rest =>
        clear HC29
        obtain ⟨kq, x55_28, rfl, HA, HJ28, HO_5, HO_6, HO_8, HO_11, BK696, HB⟩ := hcut
        cases kq with
        | zero => exact absurd HA.1 (by simp [spec_Clocks.j3])
        | succ kj28 =>
         have H := HA.1
         clear HA
         simp only [spec_Clocks.j3] at H
         by_cases c36 : x55_28 = true
         ·subst c36
          rw [if_pos rfl] at H
          replace H := zIt H
          obtain ⟨c37b0, H⟩ := H
          replace H := zIt H
          obtain ⟨c38b0, H⟩ := H
          replace H := zIt H
          obtain ⟨c39b0, H⟩ := H
          replace H := zIt H
          obtain ⟨c40b0, H⟩ := H
          by_cases c41 : ((rd_T31 l1 (rd x8_2 x12_3)).f2) = ((rd_T31 l1 x9_2).f2)
          rotate_left
          ·rw [if_neg c41] at H
           have c41b0 : (((rd_T31 l1 (rd x8_2 x12_3)).f2) == ((rd_T31 l1 x9_2).f2)) = false := beq_eq_false_iff_ne.mpr c41
           have c41b1 : (((rd_T31 l1 (rd x8_2 x12_3)).f2) != ((rd_T31 l1 x9_2).f2)) = true := bne_iff_ne.mpr c41
           have H' := zM H
           clear H
           try go_wp2
           replace HO_5 := zM (Kd.S_drew HO_5.1)
           replace HO_6 := zM (Kd.S_drew HO_6.1)
           replace HO_8 := zM (Kd.R_drew HO_8.1)
           replace HO_11 := zM (Kd.R_drew HO_11.1)
           replace BK696 := zM (blk_drew BK696.1)
           replace HB := zM (below_drew1 HB.1)
           obtain ⟨Ao50, co50, eo50⟩ := Kd.R_slice HO_8.1
           (first | subst eo50 | (injection eo50 with f1_ f2_ f3_; have f4_ := f1_.symm; have f5_ := f3_.symm; clear f1_ f2_ f3_; subst f4_; subst f5_))
           obtain ⟨p705, q705, ad705, e705, hx705_0⟩ := zRd (Kd.at_int (Kd.R_reads' HO_8.1).2.2 x12_3)
           cases e705
           obtain ⟨p706, q706, ad706, e706, hx706_0, hx706_1, hx706_2, hx706_3, hx706_4⟩ := zRd (at_T31 HR1.1 (rd x8_2 x12_3))
           have hw706_4 := hx706_4
           have hw706_3 := hx706_3
           have hw706_2 := hx706_2
           have hw706_1 := hx706_1
           have hw706_0 := hx706_0
           obtain rfl : ad695 = ad706 := (by injection e706)
           replace hx706_0 := zHx HB.1 hx706_0
           replace hx706_1 := zHx HB.1 hx706_1
           replace hx706_2 := zHx HB.1 hx706_2
           replace hx706_3 := zHx HB.1 hx706_3
           replace hx706_4 := zHx HB.1 hx706_4
           refine start_ (n := 11) (S := fun w' => w'.cell? ⟨gb696, 0, none⟩ = some (.int .i64 ((rd_T31 l1 x9_2).f0)) ∧ w'.cell? ⟨gb696, 1, none⟩ = some (.int .i64 ((rd_T31 l1 x9_2).f1)) ∧ w'.cell? ⟨gb696, 2, none⟩ = some (.int .i64 ((rd_T31 l1 x9_2).f2)) ∧ w'.cell? ⟨gb696, 3, none⟩ = some (.int .i64 ((rd_T31 l1 x9_2).f3)) ∧ w'.cell? ⟨gb696, 4, none⟩ = some (.int .i64 ((rd_T31 l1 x9_2).f4)) ∧ w'.cell? (ad705.add (x12_3).toNat) = some (.int .i64 (rd x8_2 x12_3)) ∧ w'.cell? (ad695.add (((rd x8_2 x12_3)).toNat * 5)) = some (.int .i64 ((rd_T31 l1 (rd x8_2 x12_3)).f0)) ∧ w'.cell? ⟨(ad695.add (((rd x8_2 x12_3)).toNat * 5)).block, (ad695.add (((rd x8_2 x12_3)).toNat * 5)).off + 1, none⟩ = some (.int .i64 ((rd_T31 l1 (rd x8_2 x12_3)).f1)) ∧ w'.cell? ⟨(ad695.add (((rd x8_2 x12_3)).toNat * 5)).block, (ad695.add (((rd x8_2 x12_3)).toNat * 5)).off + 2, none⟩ = some (.int .i64 ((rd_T31 l1 (rd x8_2 x12_3)).f2)) ∧ w'.cell? ⟨(ad695.add (((rd x8_2 x12_3)).toNat * 5)).block, (ad695.add (((rd x8_2 x12_3)).toNat * 5)).off + 3, none⟩ = some (.int .i64 ((rd_T31 l1 (rd x8_2 x12_3)).f3)) ∧ w'.cell? ⟨(ad695.add (((rd x8_2 x12_3)).toNat * 5)).block, (ad695.add (((rd x8_2 x12_3)).toNat * 5)).off + 4, none⟩ = some (.int .i64 ((rd_T31 l1 (rd x8_2 x12_3)).f4))) (ds := []) zq14_0 (by kernel_rfl) rfl rfl ⟨(blk_cell BK696.1 0).trans rfl, (blk_cell BK696.1 1).trans rfl, (blk_cell BK696.1 2).trans rfl, (blk_cell BK696.1 3).trans rfl, (blk_cell BK696.1 4).trans rfl, hx705_0, ((HB.1.cell (World.block_lt_of_cell? w _ hw706_0)).trans hw706_0), ((HB.1.cell (World.block_lt_of_cell? w _ hw706_1)).trans hw706_1), ((HB.1.cell (World.block_lt_of_cell? w _ hw706_2)).trans hw706_2), ((HB.1.cell (World.block_lt_of_cell? w _ hw706_3)).trans hw706_3), ((HB.1.cell (World.block_lt_of_cell? w _ hw706_4)).trans hw706_4)⟩ (fun hHeld => ?_); refine with_tabW spec_Clocks.tab18 spec_Clocks.bits18 (fun HT_ HW_ => ?_)
           generalize wc.drew = w49 at HO_5 HO_6 HO_8 HO_11 BK696 HB hx705_0 hx706_0 hx706_1 hx706_2 hx706_3 hx706_4 hHeld ⊢
           refine zPu 0 ?_
           refine zPu 1 ?_
           refine zPu 2 ?_
           refine zPu 3 ?_
           refine zPu 8 ?_
           refine zTk11 4 hHeld ?_
           refine zPu 5 ?_
           refine zPu 6 ?_
           refine zTk11 7 hHeld ?_
           refine zTk11 9 hHeld ?_
           refine zPu 10 ?_
           refine done_ (done_of HT_.1 (by kernel_rfl)) ?_
           try go_wp2
           go_roundg kj28
           case measure => have := HK1.1; have := HK2.1; have := HK3.1; have := HJ28.1; omega
           case rel => exact ⟨(x11_3), (wrap64 (x12_3 + 1)), zJJ, H', ⟨by have := HK1.1; have := HK2.1; have := HK3.1; have := HJ28.1; omega⟩, ⟨zS HO_5.1⟩, ⟨zS HO_6.1⟩, ⟨zR HO_8.1⟩, ⟨zR HO_11.1⟩, ⟨zK BK696.1⟩, ⟨zB1⟩⟩
          rw [if_pos c41] at H
          have c41b0 : (((rd_T31 l1 (rd x8_2 x12_3)).f2) == ((rd_T31 l1 x9_2).f2)) = true := beq_iff_eq.mpr c41
          have c41b1 : (((rd_T31 l1 (rd x8_2 x12_3)).f2) != ((rd_T31 l1 x9_2).f2)) = false := bne_eq_false_iff_eq.mpr c41
          clear c41
          replace H := zIt H
          obtain ⟨c42b0, H⟩ := H
          replace H := zO H
          obtain ⟨t709, A43, H⟩ := H
          have H' := zM H
          clear H
          try go_wp2
          replace HO_5 := zM (Kd.S_drew HO_5.1)
          replace HO_6 := zM (Kd.S_drew HO_6.1)
          replace HO_8 := zM (Kd.R_drew HO_8.1)
          replace HO_11 := zM (Kd.R_drew HO_11.1)
          replace BK696 := zM (blk_drew BK696.1)
          replace HB := zM (below_drew1 HB.1)
          obtain ⟨Ao45, co45, eo45⟩ := Kd.R_slice HO_8.1
          (first | subst eo45 | (injection eo45 with f1_ f2_ f3_; have f4_ := f1_.symm; have f5_ := f3_.symm; clear f1_ f2_ f3_; subst f4_; subst f5_))
          obtain ⟨p705, q705, ad705, e705, hx705_0⟩ := zRd (Kd.at_int (Kd.R_reads' HO_8.1).2.2 x12_3)
          cases e705
          obtain ⟨p706, q706, ad706, e706, hx706_0, hx706_1, hx706_2, hx706_3, hx706_4⟩ := zRd (at_T31 HR1.1 (rd x8_2 x12_3))
          have hw706_4 := hx706_4
          have hw706_3 := hx706_3
          have hw706_2 := hx706_2
          have hw706_1 := hx706_1
          have hw706_0 := hx706_0
          obtain rfl : ad695 = ad706 := (by injection e706)
          replace hx706_0 := zHx HB.1 hx706_0
          replace hx706_1 := zHx HB.1 hx706_1
          replace hx706_2 := zHx HB.1 hx706_2
          replace hx706_3 := zHx HB.1 hx706_3
          replace hx706_4 := zHx HB.1 hx706_4
          refine start_ (n := 11) (S := fun w' => w'.cell? ⟨gb696, 0, none⟩ = some (.int .i64 ((rd_T31 l1 x9_2).f0)) ∧ w'.cell? ⟨gb696, 1, none⟩ = some (.int .i64 ((rd_T31 l1 x9_2).f1)) ∧ w'.cell? ⟨gb696, 2, none⟩ = some (.int .i64 ((rd_T31 l1 x9_2).f2)) ∧ w'.cell? ⟨gb696, 3, none⟩ = some (.int .i64 ((rd_T31 l1 x9_2).f3)) ∧ w'.cell? ⟨gb696, 4, none⟩ = some (.int .i64 ((rd_T31 l1 x9_2).f4)) ∧ w'.cell? (ad705.add (x12_3).toNat) = some (.int .i64 (rd x8_2 x12_3)) ∧ w'.cell? (ad695.add (((rd x8_2 x12_3)).toNat * 5)) = some (.int .i64 ((rd_T31 l1 (rd x8_2 x12_3)).f0)) ∧ w'.cell? ⟨(ad695.add (((rd x8_2 x12_3)).toNat * 5)).block, (ad695.add (((rd x8_2 x12_3)).toNat * 5)).off + 1, none⟩ = some (.int .i64 ((rd_T31 l1 (rd x8_2 x12_3)).f1)) ∧ w'.cell? ⟨(ad695.add (((rd x8_2 x12_3)).toNat * 5)).block, (ad695.add (((rd x8_2 x12_3)).toNat * 5)).off + 2, none⟩ = some (.int .i64 ((rd_T31 l1 (rd x8_2 x12_3)).f2)) ∧ w'.cell? ⟨(ad695.add (((rd x8_2 x12_3)).toNat * 5)).block, (ad695.add (((rd x8_2 x12_3)).toNat * 5)).off + 3, none⟩ = some (.int .i64 ((rd_T31 l1 (rd x8_2 x12_3)).f3)) ∧ w'.cell? ⟨(ad695.add (((rd x8_2 x12_3)).toNat * 5)).block, (ad695.add (((rd x8_2 x12_3)).toNat * 5)).off + 4, none⟩ = some (.int .i64 ((rd_T31 l1 (rd x8_2 x12_3)).f4))) (ds := []) zq14_0 (by kernel_rfl) rfl rfl ⟨(blk_cell BK696.1 0).trans rfl, (blk_cell BK696.1 1).trans rfl, (blk_cell BK696.1 2).trans rfl, (blk_cell BK696.1 3).trans rfl, (blk_cell BK696.1 4).trans rfl, hx705_0, ((HB.1.cell (World.block_lt_of_cell? w _ hw706_0)).trans hw706_0), ((HB.1.cell (World.block_lt_of_cell? w _ hw706_1)).trans hw706_1), ((HB.1.cell (World.block_lt_of_cell? w _ hw706_2)).trans hw706_2), ((HB.1.cell (World.block_lt_of_cell? w _ hw706_3)).trans hw706_3), ((HB.1.cell (World.block_lt_of_cell? w _ hw706_4)).trans hw706_4)⟩ (fun hHeld => ?_); refine with_tabW spec_Clocks.tab18 spec_Clocks.bits18 (fun HT_ HW_ => ?_)
          generalize wc.drew = w44 at HO_5 HO_6 HO_8 HO_11 BK696 HB hx705_0 hx706_0 hx706_1 hx706_2 hx706_3 hx706_4 hHeld ⊢
          refine zPu 0 ?_
          refine zPu 1 ?_
          refine zPu 2 ?_
          refine zPu 3 ?_
          refine zPu 8 ?_
          refine zTk11 4 hHeld ?_
          refine zPu 5 ?_
          refine zPu 6 ?_
          refine zTk11 7 hHeld ?_
          refine zTk11 9 hHeld ?_
          refine zPu 10 ?_
          refine done_ (done_of HT_.1 (by kernel_rfl)) ?_
          obtain ⟨p707, q707, ad707, e707, hx707_0⟩ := zRd (Kd.at_int (Kd.R_reads' HO_8.1).2.2 x12_3)
          obtain rfl : ad705 = ad707 := (by injection e707)
          obtain ⟨Ao46, co46, eo46⟩ := Kd.S_slice HO_5.1
          subst eo46
          obtain ⟨p708, q708, ad708, A708_0, c708_0, e708, hx708_0, hl708_0, hi708_0⟩ := zRd (at_L3 (Kd.S_reads' HO_5.1).2.2 (rd x8_2 x12_3))
          cases e708
          obtain ⟨ce708, hce708, hMe708, hcc708⟩ := Kd.S_get HO_5.1 [] (rd x8_2 x12_3) zA (by first | exact zA | (have e_ := (Kd.S_reads' HO_5.1).1; omega))
          obtain ⟨ve708_0, rfl, ge708_0⟩ := hMe708
          have hv708_0 := hcc708 0 _ rfl
          rw [Nat.add_zero, show ((Kd.slice 3 (Kd.int .i64))).sz = 1 from rfl, Nat.mul_one] at hv708_0
          replace hv708_0 := Option.some.inj (hv708_0.symm.trans hx708_0)
          rw [hv708_0] at ge708_0
          have HL708_0 := zM (show Kd.R (Kd.int .i64) 3 _ _ _ _ (rd_L3 x5_2 (rd x8_2 x12_3)) from ge708_0)
          clear hv708_0 ge708_0 hcc708 hce708
          have HR708_0 := zM hi708_0
          have HC708_0 := zM hl708_0
          clear hi708_0 hl708_0
          obtain ⟨Ao47, co47, eo47⟩ := Kd.R_slice HO_11.1
          subst eo47
          try go_wp2_with (first | ((with_reducible refine zG Try.func41 77 #[.slice Ao47 x11_3.length co47, .slice A708_0 (rd_L3 x5_2 (rd x8_2 x12_3)).length c708_0] ?_); (with_reducible refine (spec_ClockJoin.calls kj28 _ _ x11_3 _ _ (rd_L3 x5_2 (rd x8_2 x12_3)) t709 _ ?side1 ?side2 ?side3 ?side4 A43.1).mono ?_); (case side1 => exact zC (Kd.R_reads' HO_11.1).2.2); (case side2 => exact (Kd.R_reads' HO_11.1).2.1); (case side3 => exact zC HR708_0.1); (case side4 => exact HC708_0.1); rintro e w48 ⟨v710, rfl, ho0, hb⟩; refine ⟨_, rfl, ?_⟩; replace HO_5 := zM (Kd.S_elder' (zS HO_5.1) (Kd.R_base ho0) hb); replace HO_6 := zM (Kd.S_elder' (zS HO_6.1) (Kd.R_base ho0) hb); have HO711 := zM (Kd.R_lower (Kd.R_new' (Kd.R_new' (Kd.R_new' ho0 (Kd.R_lt (zR HO_8.1))) (Kd.R_lt (zR HO_11.1))) (Kd.R_lt (zR HL708_0.1))) (below_size zB1)); replace HO_8 := zM (Kd.R_elder' (zR HO_8.1) (Kd.R_base ho0) hb); replace HO_11 := zM (Kd.R_elder' (zR HO_11.1) (Kd.R_base ho0) hb); replace HL708_0 := zM (Kd.R_elder' (zR HL708_0.1) (Kd.R_base ho0) hb); replace BK696 := zM (zb BK696.1 hb); replace HR708_0 := zM (Kd.C_below (zC HR708_0.1) hb); replace HB := zM (below_step zB1 hb); clear hb ho0))
          go_roundg kj28
          case measure => have := HK1.1; have := HK2.1; have := HK3.1; have := HJ28.1; omega
          case rel => exact ⟨(t709), (wrap64 (x12_3 + 1)), zJJ, H', ⟨by have := HK1.1; have := HK2.1; have := HK3.1; have := HJ28.1; omega⟩, ⟨by refine zrS ?_; exact Kd.S_mono HO_5.1 (fun _ hk => ⟨hk.1.1, ⟨hk.1.2.1, hk.2⟩⟩)⟩, ⟨by refine zrS ?_; exact Kd.S_mono HO_6.1 (fun _ hk => ⟨hk.1.1, ⟨hk.1.2.1, hk.2⟩⟩)⟩, ⟨by refine zrR ?_; exact Kd.R_mono HO_8.1 (fun _ hk => hk.2)⟩, ⟨by refine zrR ?_; exact Kd.R_mono HO711.1 (fun _ hk => hk.1.1.2)⟩, ⟨zK BK696.1⟩, ⟨zB1⟩⟩
         replace c36 := Bool.eq_false_iff.mpr c36
         subst c36
         rw [if_neg zF] at H
         replace H := zIt H
         obtain ⟨c51b0, H⟩ := H
         replace H := zIt H
         obtain ⟨c52b0, H⟩ := H
         replace H := zY H
         obtain ⟨y713, Ny713, H⟩ := H
         replace H := zO H
         obtain ⟨t714, A54, H⟩ := H
         by_cases c55 : t714 = true
         rotate_left
         ·replace c55 := Bool.eq_false_iff.mpr c55
          subst c55
          rw [if_neg zF] at H
          replace H := zIt H
          obtain ⟨c76b0, H⟩ := H
          replace H := zY H
          obtain ⟨y729, Ny729, H⟩ := H
          replace H := zY H
          obtain ⟨y730, Ny730, H⟩ := H
          replace H := zIn H
          obtain ⟨LMc78, H⟩ := H
          generalize hy734 : ((y730 ++ (rd_L3 y729 ((rd_T31 l1 x9_2).f0))) : List Int) = y734 at H
          have Ny734 := zM hy734.symm
          clear hy734
          replace H := zIn H
          obtain ⟨LMc79, H⟩ := H
          generalize hy737 : ((x5_2 ++ [y734]) : List (List Int)) = y737 at H
          have Ny737 := zM hy737.symm
          clear hy737
          have H' := zM H
          clear H
          try go_wp2
          replace HO_5 := zM (Kd.S_drew HO_5.1)
          replace HO_6 := zM (Kd.S_drew HO_6.1)
          replace HO_8 := zM (Kd.R_drew HO_8.1)
          replace HO_11 := zM (Kd.R_drew HO_11.1)
          replace BK696 := zM (blk_drew BK696.1)
          replace HB := zM (below_drew1 HB.1)
          obtain ⟨Ao81, co81, eo81⟩ := Kd.R_slice HO_11.1
          (first | subst eo81 | (injection eo81 with f1_ f2_ f3_; have f4_ := f1_.symm; have f5_ := f3_.symm; clear f1_ f2_ f3_; subst f4_; subst f5_))
          obtain ⟨p712, q712, ad712, e712, hx712_0⟩ := zRd (Kd.at_int (Kd.R_reads' HO_11.1).2.2 ((rd_T31 l1 x9_2).f0))
          cases e712
          have p53 : 0 ≤ (((rd_T31 l1 x9_2).f0) : Int) := zA
          have q53 : (((rd_T31 l1 x9_2).f0) : Int) < ((x11_3.length : Int) : Int) := zA
          obtain ⟨go53, co53, eo53, gb53, gl53, cl53, HG53⟩ := Kd.R_form HO_11.1 (by omega)
          (first | cases eo53 | (injection eo53 with ea_ en_ ec_; (first | subst ea_ | (injection ea_ with ea_; subst ea_)); subst ec_; clear en_))
          have GB53 := zM gb53
          have GG53 := zM HG53
          clear gb53 gl53 HG53
          (first | simp only [add_plain] at hx712_0 | skip)
          obtain ⟨hx53_0, hf53_0⟩ := Kd.R_celln 0 HO_11.1 (((rd_T31 l1 x9_2).f0) : Int) p53 q53
          replace p53 := eq_true p53
          replace q53 := eq_true q53
          have HP82 := Kd.R_putn HO_11.1 (((rd_T31 l1 x9_2).f0) : Int) (wrap64 ((rd x11_3 ((rd_T31 l1 x9_2).f0)) + 1))
          rw [← Ny713.1] at HP82
          have HQ82 := zM HP82
          clear HP82
          refine start_ (n := 11) (S := fun w' => w'.cell? ⟨gb696, 0, none⟩ = some (.int .i64 ((rd_T31 l1 x9_2).f0)) ∧ w'.cell? ⟨gb696, 1, none⟩ = some (.int .i64 ((rd_T31 l1 x9_2).f1)) ∧ w'.cell? ⟨gb696, 2, none⟩ = some (.int .i64 ((rd_T31 l1 x9_2).f2)) ∧ w'.cell? ⟨gb696, 3, none⟩ = some (.int .i64 ((rd_T31 l1 x9_2).f3)) ∧ w'.cell? ⟨gb696, 4, none⟩ = some (.int .i64 ((rd_T31 l1 x9_2).f4)) ∧ w'.cell? ⟨go53, (((rd_T31 l1 x9_2).f0)).toNat, none⟩ = some (.int .i64 (rd x11_3 ((rd_T31 l1 x9_2).f0)))) (ds := [10]) zq14_0 (by kernel_rfl) rfl rfl ⟨(blk_cell BK696.1 0).trans rfl, (blk_cell BK696.1 1).trans rfl, (blk_cell BK696.1 2).trans rfl, (blk_cell BK696.1 3).trans rfl, (blk_cell BK696.1 4).trans rfl, hx712_0⟩ (fun hHeld => ?_); refine with_tabW spec_Clocks.tab20 spec_Clocks.bits20 (fun HT_ HW_ => ?_)
          generalize wc.drew = w80 at HO_5 HO_6 HO_8 HO_11 BK696 HB GG53 HQ82 hf53_0 hx53_0 hx712_0 hHeld ⊢
          refine zPu 0 ?_
          refine zPu 1 ?_
          refine zPu 3 ?_
          refine zPu 4 ?_
          refine zTk6 2 hHeld ?_
          refine zTk6 5 hHeld ?_
          refine zPu 6 ?_
          refine zTk6 7 hHeld ?_
          refine zPu 8 ?_
          refine zPu 9 ?_
          refine last_ (i := 10) (N := none) zq14_11 rfl rfl (one_of HT_.1 (by kernel_rfl)) (by decide) (fun K hK => ?_)
          refine skip_ (w1 := ?_) (by rfl) rfl ?_ ?_
          rotate_left
          ·go_simp
           rfl
          refine hK.out _ _ ?_
          clear hK K
          refine done_ (done_of HT_.1 (by kernel_rfl)) ?_
          have hnr_ := Kd.R_ne HO_11.1 BK696.1 (by decide)
          have hnb_ : gb696 ≠ go53 := fun e_ => hnr_ (congrArg some e_)
          have hnc_ : go53 ≠ gb696 := fun e_ => hnb_ e_.symm
          have hcz83 := zc_5 (w := w80) BK696.1
          try go_wp2_with (first | ((with_reducible refine zG Try.func40 89 #[.agg #[.int .i64 ((rd_T31 l1 x9_2).f0), .int .i64 ((rd_T31 l1 x9_2).f1), .int .i64 ((rd_T31 l1 x9_2).f2), .int .i64 ((rd_T31 l1 x9_2).f3), .int .i64 ((rd_T31 l1 x9_2).f4)]] ?_); (with_reducible refine (spec_l20Swap.calls ((rd_T31 l1 x9_2).f0) ((rd_T31 l1 x9_2).f1) ((rd_T31 l1 x9_2).f2) ((rd_T31 l1 x9_2).f3) ((rd_T31 l1 x9_2).f4) false _ A54.1).mono ?_); rintro e w84 ⟨rfl, hb⟩; refine ⟨_, rfl, ?_⟩; replace HO_5 := zM (Kd.S_below (by refine zrS ?_; exact (Kd.S_mono (Kd.S_far (p := ⟨go53, (((rd_T31 l1 x9_2).f0) : Int).toNat, none⟩) (Kd.S_mono HO_5.1 (fun k_ hk => (⟨hk, fun e_ => hk.2.2 (by rw [e_]; rfl)⟩ : _ ∧ k_ ≠ go53))) (fun _ hk => hk.2) (.int .i64 (wrap64 ((rd x11_3 ((rd_T31 l1 x9_2).f0)) + 1)))) (fun _ h_ => h_.1))) hb); replace HO_6 := zM (Kd.S_below (by refine zrS ?_; exact (Kd.S_mono (Kd.S_far (p := ⟨go53, (((rd_T31 l1 x9_2).f0) : Int).toNat, none⟩) (Kd.S_mono HO_6.1 (fun k_ hk => (⟨hk, fun e_ => hk.2.2 (by rw [e_]; rfl)⟩ : _ ∧ k_ ≠ go53))) (fun _ hk => hk.2) (.int .i64 (wrap64 ((rd x11_3 ((rd_T31 l1 x9_2).f0)) + 1)))) (fun _ h_ => h_.1))) hb); replace HO_8 := zM (Kd.R_below (by refine zrR ?_; exact (Kd.R_mono (Kd.R_far (p := ⟨go53, (((rd_T31 l1 x9_2).f0) : Int).toNat, none⟩) (Kd.R_mono HO_8.1 (fun k_ hk => (⟨hk, fun e_ => hk (by rw [e_]; rfl)⟩ : _ ∧ k_ ≠ go53))) (fun _ hk => hk.2) (.int .i64 (wrap64 ((rd x11_3 ((rd_T31 l1 x9_2).f0)) + 1)))) (fun _ h_ => h_.1))) hb); replace BK696 := zM (blk_below (g := gb696) (o := .cells #[.int .i64 ((rd_T31 l1 x9_2).f0), .int .i64 ((rd_T31 l1 x9_2).f1), .int .i64 ((rd_T31 l1 x9_2).f2), .int .i64 ((rd_T31 l1 x9_2).f3), .int .i64 ((rd_T31 l1 x9_2).f4)] 31 (0, 0)) (by refine zP ?_; refine blk_far ?_ (by have h_ := Kd.R_ne HO_11.1 BK696.1 (by decide); intro e_; exact h_ (by rw [e_]; rfl)) _; refine zP ?_; exact BK696.1) hb); replace HO_11 := zM (Kd.R_below (zR HQ82.out) hb); replace HB := zM (below_step zB1 hb); clear hb; have hcz85 := zc_5 (w := w84) BK696.1; have p77 : 0 ≤ (((rd_T31 l1 x9_2).f0) : Int) := zA; have q77 : (((rd_T31 l1 x9_2).f0) : Int) < ((x6_2.length : Int) : Int) := zA; obtain ⟨go77, co77, eo77, gb77, gl77, cl77, HG77⟩ := Kd.S_form HO_6.1 (by omega); (first | cases eo77 | (injection eo77 with ea_ en_ ec_; (first | subst ea_ | (injection ea_ with ea_; subst ea_)); subst ec_; clear en_)); have GB77 := zM gb77; have GG77 := zM HG77; clear gb77 gl77 HG77; obtain ⟨_, ce77, hcl77, hM77, hcc77, hfr77, _, _⟩ := Kd.S_elem HO_6.1 [] (((rd_T31 l1 x9_2).f0) : Int) p77 q77; obtain ⟨ve77_0, rfl, ge77_0⟩ := hM77; have hx77_0 := hcc77 0 _ rfl; have hf77_0 := hfr77 0; (try simp only [show ((Kd.slice 3 (Kd.int .i64))).sz = 1 from rfl, Nat.mul_one, Nat.add_zero] at hx77_0); (try simp only [show ((Kd.slice 3 (Kd.int .i64))).sz = 1 from rfl, Nat.mul_one, Nat.add_zero] at hf77_0); clear hcl77 hcc77 hfr77; replace p77 := eq_true p77; replace q77 := eq_true q77; have HX86 := zM (show Kd.S (Kd.slice 3 (Kd.int .i64)) 29 w84 w.heap.size (fun k_ => ((fun k_ => some k_ ≠ (u5 : Value).ownBlock ∧ some k_ ≠ (u8 : Value).ownBlock)) k_ ∧ ¬ ((fun k_ => some k_ = (.slice (some ⟨go53, 0, none⟩) x11_3.length co81 : Value).ownBlock)) k_) (.slice (some ⟨go77, 0, none⟩) x6_2.length co27) x6_2 from (by refine zrS ?_; exact Kd.S_mono HO_6.1 (fun k_ hk => ⟨⟨hk.1, hk.2.1⟩, fun e_ => hk.2.2 e_⟩))); obtain ⟨oki86, ce86, hcl86, hM86, hcc86, hfr86, hoki86, hH86⟩ := Kd.S_elem HX86.out [] (((rd_T31 l1 x9_2).f0) : Int) zA (by have h_ : (((rd_T31 l1 x9_2).f0) : Int) < ((x6_2.length : Int) : Int) := zA; first | exact h_ | (have e_ := (Kd.S_reads' HO_6.1).1; omega) | simpa using h_); obtain ⟨ve86_0, rfl, ge86_0⟩ := hM86; have HP86 := Kd.S_seg hH86 zA (by have h_ : (((rd_T31 l1 x9_2).f0) : Int) < ((x6_2.length : Int) : Int) := zA; first | exact h_ | (have e_ := (Kd.S_reads' HO_6.1).1; omega) | simpa using h_) (seg := [.slice (some ⟨go53, 0, none⟩) x11_3.length co81]) (j := 0) (show 1 ≤ 1 from by decide) (x' := y713) (Kd.M_row (Kd.R_mono (Kd.R_tight rfl (Kd.R_mono (ok' := fun k_ => ((fun k_ => some k_ ≠ (u5 : Value).ownBlock ∧ some k_ ≠ (u8 : Value).ownBlock)) k_ ∧ k_ ≠ go77) (Kd.R_apart' (Kd.R_apart' (HO_11.1) (Kd.S_typed HO_5.1) (by decide)) (Kd.S_typed HO_6.1) (by decide)) (fun k_ hk => ⟨⟨hk.1.2, hk.1.1⟩, fun e_ => (hk.2) (by rw [e_]; rfl)⟩))) (fun _ h_ => Or.inr (h_)))) (fun _ hk => hk) (fun k_ hk_ => ((Kd.R_mono (ok' := fun k_ => ((fun k_ => some k_ ≠ (u5 : Value).ownBlock ∧ some k_ ≠ (u8 : Value).ownBlock)) k_ ∧ k_ ≠ go77) (Kd.R_apart' (Kd.R_apart' (HO_11.1) (Kd.S_typed HO_5.1) (by decide)) (Kd.S_typed HO_6.1) (by decide)) (fun k_ hk => ⟨⟨hk.1.2, hk.1.1⟩, fun e_ => (hk.2) (by rw [e_]; rfl)⟩))).1 k_ hk_.symm); have hx86_0 := hcc86 0 _ rfl; (try simp only [show ((Kd.slice 3 (Kd.int .i64))).sz = 1 from rfl, Nat.mul_one, Nat.add_zero] at hx86_0); have hf86_0 := hfr86 0; (try simp only [show ((Kd.slice 3 (Kd.int .i64))).sz = 1 from rfl, Nat.mul_one, Nat.add_zero] at hf86_0); clear hcl86 hcc86 hfr86 hoki86 hH86; (try simp only [show ((Kd.slice 3 (Kd.int .i64))).sz = 1 from rfl, Nat.mul_one, Nat.add_zero] at HP86)) | ((with_reducible refine gate_store (t := 29) (p := 98) rfl ?_); refine store_event (t := 29) (p := 98) (v := ?vo_w87) (w1 := (w84.setCell ⟨go77, (((rd_T31 l1 x9_2).f0) : Int).toNat, none⟩ (.slice (some ⟨go53, 0, none⟩) x11_3.length co81))) ?hg ?ho ?hn ?hr ?_; (case ho => rfl); (case hg => rfl); (case hn => rfl); (case hr => exact zHH); intro w87 hw; have hg : w84.grownBy w87 (some go77) := (by rw [hw]; exact HP86.2); have hp_ : Kd.S (Kd.slice 3 (Kd.int .i64)) 29 w87 w.heap.size (fun k_ => some k_ ≠ (u5 : Value).ownBlock ∧ some k_ ≠ (u8 : Value).ownBlock) (.slice (some ⟨go77, 0, none⟩) x6_2.length co27) y729 := (by rw [hw, Ny729.1]; exact HP86.1); clear HP86; replace HO_5 := zM (Kd.S_after (v := (.slice (some ⟨go77, 0, none⟩) x6_2.length co27)) (v1 := (.slice (some ⟨go77, 0, none⟩) x6_2.length co27)) (ok := (fun k_ => some k_ ≠ (u8 : Value).ownBlock ∧ some k_ ≠ (.slice (some ⟨go53, 0, none⟩) x11_3.length co81 : Value).ownBlock)) (by refine zrS ?_; exact Kd.S_mono HO_5.1 (fun _ hk => ⟨⟨hk.2.1, hk.2.2⟩, hk.1⟩)) hg (.inl rfl)); replace HO_8 := zM (Kd.R_over' (v := (.slice (some ⟨go77, 0, none⟩) x6_2.length co27)) (zR HO_8.1) (Kd.S_typed HO_6.1) (by decide) hg); replace BK696 := zM (zg BK696.1 hg (Kd.S_ne HO_6.1 BK696.1 (by decide))); replace HO_6 := zM hp_; replace HB := zM ((by rw [hw]; exact below_set (HB.1) GB77.1 : Below w.heap.size w w87)); clear HO_11; have HST_ := zM (show w87.cell? ⟨go77, (((rd_T31 l1 x9_2).f0) : Int).toNat, none⟩ = some (.slice (some ⟨go53, 0, none⟩) x11_3.length co81) by rw [hw]; first | exact World.cell?_setCell_same _ _ _ hx86_0 | exact World.cell?_setCell_same _ _ _ hx77_0); clear hg hw hp_) | ((with_reducible refine gate_dst (N := 100) rfl ?_); refine Kd.R_lit (Kd.int .i64) _ 3 ?hg (N := 100) ?hd (xs := ([] : List Int)) (inner := []) (ok := fun _ => True) (okp := fun _ => True) ?hr ?hp (fun _ hk => hk) trivial (Below.refl _ _) (Nat.le_refl _) (by simp) ?_; (case hd => rfl); (case hg => rfl); (case hr => exact zHH); (case hp => exact (Reps.none _ _)); intro v731 w88 ho89 hb hg_ hnew_; clear hg_ hnew_; (first | rw [← Ny730.1] at ho89 | (simp only [Int.reduceToNat] at ho89; rw [← Ny730.1] at ho89)); replace HO_5 := zM (Kd.S_elder' (zS HO_5.1) (Kd.R_base ho89) hb); replace HO_6 := zM (Kd.S_elder' (zS HO_6.1) (Kd.R_base ho89) hb); have HO732 := zM (Kd.R_lower (Kd.R_new' ho89 (Kd.R_lt (zR HO_8.1))) (below_size zB1)); replace HO_8 := zM (Kd.R_elder' (zR HO_8.1) (Kd.R_base ho89) hb); replace BK696 := zM (zb BK696.1 hb); replace HB := zM (below_step zB1 hb); have hst_ := zM ((hb.cell (World.block_lt_of_cell? w87 _ HST_.out)).trans HST_.out); clear HST_; have HST_ := hst_; clear hst_; clear hb ho89; have hcz90 := zc_5 (w := w88) BK696.1; have p733 : 0 ≤ (((rd_T31 l1 x9_2).f0) : Int) := zA; have q733 : ((rd_T31 l1 x9_2).f0) < (y729.length : Int) := (by have h_ : (((rd_T31 l1 x9_2).f0) : Int) < ((x6_2.length : Int) : Int) := zA; first | (have e_ := (Kd.S_reads' HO_6.1).1; omega) | simpa only [Ny729.1, List.length_set] using h_); have ql733 : ((((rd_T31 l1 x9_2).f0) : Int) < ((x6_2.length : Int) : Int)) = True := eq_true zA; obtain ⟨ad733, A733_0, c733_0, e733, hx733_0, hl733_0, hi733_0⟩ := at_L3 (Kd.S_reads' HO_6.1).2.2 ((rd_T31 l1 x9_2).f0) p733 q733; obtain rfl : (⟨go77, 0, none⟩ : Addr) = ad733 := (by injection e733); obtain ⟨ce733, hce733, hMe733, hcc733⟩ := Kd.S_get HO_6.1 [] ((rd_T31 l1 x9_2).f0) p733 (by first | exact q733 | exact zA | (have e_ := (Kd.S_reads' HO_6.1).1; omega)); obtain ⟨ve733_0, rfl, ge733_0⟩ := hMe733; have hv733_0 := hcc733 0 _ rfl; rw [Nat.add_zero, show ((Kd.slice 3 (Kd.int .i64))).sz = 1 from rfl, Nat.mul_one] at hv733_0; replace hv733_0 := Option.some.inj (hv733_0.symm.trans hx733_0); rw [hv733_0] at ge733_0; have HL733_0 := zM (show Kd.R (Kd.int .i64) 3 _ _ _ _ (rd_L3 y729 ((rd_T31 l1 x9_2).f0)) from ge733_0); clear hv733_0 ge733_0; clear hcc733 hce733; (first | simp only [add_plain] at hx733_0 | simp only [add_at] at hx733_0 | simp only [Addr.add, Nat.zero_add] at hx733_0 | skip); obtain ⟨rfl, hsn_, rfl⟩ : (some ⟨go53, 0, none⟩) = A733_0 ∧ x11_3.length = (rd_L3 y729 ((rd_T31 l1 x9_2).f0)).length ∧ co81 = c733_0 := Value.slice.inj (Option.some.inj (HST_.out.symm.trans hx733_0)); have HSN_ := zM hsn_; clear hsn_ HST_; have HR733_0 := zM hi733_0; have HC733_0 := zM hl733_0; clear hi733_0 hl733_0; replace p733 := eq_true p733; replace q733 := eq_true q733) | ((with_reducible refine gate_builtin (b := .append) (xs := #[.tmp 100, .tmp 101]) rfl ?_); rw [HSN_.out]; at_builtin; refine Kd.R_append_rows (Kd.int .i64) (w0 := w) w.heap.size rfl (.tmp 100) (.tmp 101) 29 3 (.int .i64 0) 8 rfl Try.underlying29 info3 rfl (by decide) (by omega) v731 y730 (rd_L3 y729 ((rd_T31 l1 x9_2).f0)) _ _ _ (fun k_ => some k_ ≠ (u8 : Value).ownBlock) (fun _ => False) rfl rfl ?aO ?aR (fun _ _ h => h) (fun _ h => h.elim) ?aF ?aB ?aS ?aL ?_; (case aR => exact zC HR733_0.1); (case aB => exact zB1); (case aF => exact (fun k_ hk => Kd.fresh' (Kd.R_lt (zR HO_8.1)) k_ hk)); (case aO => exact (by refine zrR ?_; exact Kd.R_mono HO732.1 (fun _ hk => hk.2))); (case aS => exact (below_size zB1)); (case aL => have := LMc78.out; omega); intro v735 w91 ho hb hg hat; rw [← Ny734.1] at ho; replace HO_5 := zM (Kd.S_after (ok := (fun k_ => some k_ ≠ (.slice (some ⟨go77, 0, none⟩) x6_2.length co27 : Value).ownBlock ∧ some k_ ≠ (u8 : Value).ownBlock)) (by refine zrS ?_; exact Kd.S_mono HO_5.1 (fun _ hk => ⟨⟨hk.1.2, hk.1.1.1⟩, hk.2⟩)) hg hat); replace HO_6 := zM (Kd.S_after (ok := (fun k_ => some k_ ≠ (u5 : Value).ownBlock ∧ some k_ ≠ (u8 : Value).ownBlock)) (zS HO_6.1) hg hat); replace HO_8 := zM (Kd.R_after (ok := (fun _ => True)) (by refine zrR ?_; exact Kd.R_mono HO_8.1 (fun _ hk => ⟨trivial, hk.2⟩)) hg hat); replace BK696 := zM (zg BK696.1 hg (Kd.R_ne HO732.1 BK696.1 (by decide))); replace HL733_0 := zM (Kd.R_after (ok := (fun k_ => some k_ ≠ (u5 : Value).ownBlock ∧ some k_ ≠ (.slice (some ⟨go77, 0, none⟩) x6_2.length co27 : Value).ownBlock ∧ some k_ ≠ (u8 : Value).ownBlock)) (by refine zrR ?_; exact Kd.R_mono HL733_0.1 (fun _ hk => ⟨⟨hk.1.1.1, ⟨hk.2, hk.1.1.2⟩⟩, hk.1.2⟩)) hg hat); replace HB := zM hb; have HO736 := zM ho; clear HO732; clear ho hb hg hat; obtain ⟨Ao93, co93, eo93⟩ := Kd.R_slice HO736.1; subst eo93) | ((with_reducible refine gate_builtin (b := .append) (xs := #[.tmp 99, .tmp 103]) rfl ?_); at_builtin; refine Kd.S_append (Kd.slice 3 (Kd.int .i64)) (w0 := w) w.heap.size rfl (.tmp 99) (.tmp 103) 35 29 (.slice none 0 0) 24 rfl Try.underlying35 info29 rfl (by decide) (by omega) u5 x5_2 y734 [.slice Ao93 y734.length co93] (fun k_ => some k_ ≠ (.slice (some ⟨go77, 0, none⟩) x6_2.length co27 : Value).ownBlock ∧ some k_ ≠ (u8 : Value).ownBlock) (fun k_ => some k_ = (.slice Ao93 y734.length co93 : Value).ownBlock) rfl rfl ?aP (fun k_ hk_ => ((Kd.R_mono (ok' := fun k_ => ((fun k_ => some k_ ≠ (.slice (some ⟨go77, 0, none⟩) x6_2.length co27 : Value).ownBlock ∧ some k_ ≠ (u8 : Value).ownBlock)) k_ ∧ some k_ ≠ (u5 : Value).ownBlock) (Kd.R_apart' (Kd.R_apart' (HO736.1) (Kd.S_typed HO_6.1) (by decide)) (Kd.S_typed HO_5.1) (by decide)) (fun k_ hk => ⟨⟨hk.1.2, hk.1.1⟩, hk.2⟩))).1 k_ hk_.symm) ?aF ?aO ?aB ?aS ?aL ?_; (case aP => exact Kd.M_row (Kd.R_mono (Kd.R_tight rfl (Kd.R_mono (ok' := fun k_ => ((fun k_ => some k_ ≠ (.slice (some ⟨go77, 0, none⟩) x6_2.length co27 : Value).ownBlock ∧ some k_ ≠ (u8 : Value).ownBlock)) k_ ∧ some k_ ≠ (u5 : Value).ownBlock) (Kd.R_apart' (Kd.R_apart' (HO736.1) (Kd.S_typed HO_6.1) (by decide)) (Kd.S_typed HO_5.1) (by decide)) (fun k_ hk => ⟨⟨hk.1.2, hk.1.1⟩, hk.2⟩))) (fun _ h_ => h_))); (case aB => exact zB1); (case aF => exact (fun k_ hk => ⟨Kd.fresh' (Kd.S_lt (zS HO_6.1)) k_ hk, Kd.fresh' (Kd.R_lt (zR HO_8.1)) k_ hk⟩)); (case aO => exact (by refine zrS ?_; exact Kd.S_mono HO_5.1 (fun k_ hk => ⟨⟨hk.1.1, hk.1.2⟩, fun e_ => hk.2 e_⟩))); (case aS => exact (below_size zB1)); (case aL => have := LMc79.out; omega); intro v738 w92 ho hb hg hat; rw [← Ny737.1] at ho; replace HO_6 := zM (Kd.S_after (ok := (fun k_ => some k_ ≠ (u8 : Value).ownBlock ∧ some k_ ≠ (.slice Ao93 y734.length co93 : Value).ownBlock)) (by refine zrS ?_; exact Kd.S_mono HO_6.1 (fun _ hk => ⟨⟨hk.1.2, hk.2⟩, hk.1.1⟩)) hg hat); replace HO_8 := zM (Kd.R_over' (zR HO_8.1) (Kd.S_typed (zS HO_5.1)) (by decide) hg); replace BK696 := zM (zg BK696.1 hg (Kd.S_ne HO_5.1 BK696.1 (by decide))); replace HL733_0 := zM (Kd.R_after (ok := (fun k_ => some k_ ≠ (.slice (some ⟨go77, 0, none⟩) x6_2.length co27 : Value).ownBlock ∧ some k_ ≠ (u8 : Value).ownBlock ∧ some k_ ≠ (.slice Ao93 y734.length co93 : Value).ownBlock)) (by refine zrR ?_; exact Kd.R_mono HL733_0.1 (fun _ hk => ⟨⟨hk.1.2.1, ⟨hk.1.2.2, hk.2⟩⟩, hk.1.1⟩)) hg hat); replace HB := zM hb; have HO739 := zM ho; clear HO_5 HO736; clear ho hb hg hat))
          go_roundg kj28
          case measure => have := HK1.1; have := HK2.1; have := HK3.1; have := HJ28.1; omega
          case rel => exact ⟨(y737), (y729), (x8_2), (wrap64 (x9_2 + 1)), zJJ, H', ⟨by have := HK1.1; have := HK2.1; have := HK3.1; have := HJ28.1; omega⟩, ⟨zS HO739.1⟩, ⟨by refine zrS ?_; exact Kd.S_mono HO_6.1 (fun _ hk => ⟨hk.2, hk.1.1⟩)⟩, ⟨by refine zrR ?_; exact Kd.R_mono HO_8.1 (fun _ hk => trivial)⟩, ⟨zB1⟩⟩
         subst c55
         rw [if_pos rfl] at H
         replace H := zIn H
         obtain ⟨LMc56, H⟩ := H
         generalize hy715 : ((x8_2 ++ [x9_2]) : List Int) = y715 at H
         have Ny715 := zM hy715.symm
         clear hy715
         replace H := zIt H
         obtain ⟨c57b0, H⟩ := H
         replace H := zY H
         obtain ⟨y718, Ny718, H⟩ := H
         replace H := zY H
         obtain ⟨y719, Ny719, H⟩ := H
         replace H := zIn H
         obtain ⟨LMc59, H⟩ := H
         generalize hy723 : ((y719 ++ (rd_L3 y718 ((rd_T31 l1 x9_2).f0))) : List Int) = y723 at H
         have Ny723 := zM hy723.symm
         clear hy723
         replace H := zIn H
         obtain ⟨LMc60, H⟩ := H
         generalize hy726 : ((x5_2 ++ [y723]) : List (List Int)) = y726 at H
         have Ny726 := zM hy726.symm
         clear hy726
         have H' := zM H
         clear H
         try go_wp2
         replace HO_5 := zM (Kd.S_drew HO_5.1)
         replace HO_6 := zM (Kd.S_drew HO_6.1)
         replace HO_8 := zM (Kd.R_drew HO_8.1)
         replace HO_11 := zM (Kd.R_drew HO_11.1)
         replace BK696 := zM (blk_drew BK696.1)
         replace HB := zM (below_drew1 HB.1)
         obtain ⟨Ao62, co62, eo62⟩ := Kd.R_slice HO_11.1
         (first | subst eo62 | (injection eo62 with f1_ f2_ f3_; have f4_ := f1_.symm; have f5_ := f3_.symm; clear f1_ f2_ f3_; subst f4_; subst f5_))
         obtain ⟨p712, q712, ad712, e712, hx712_0⟩ := zRd (Kd.at_int (Kd.R_reads' HO_11.1).2.2 ((rd_T31 l1 x9_2).f0))
         cases e712
         have p53 : 0 ≤ (((rd_T31 l1 x9_2).f0) : Int) := zA
         have q53 : (((rd_T31 l1 x9_2).f0) : Int) < ((x11_3.length : Int) : Int) := zA
         obtain ⟨go53, co53, eo53, gb53, gl53, cl53, HG53⟩ := Kd.R_form HO_11.1 (by omega)
         (first | cases eo53 | (injection eo53 with ea_ en_ ec_; (first | subst ea_ | (injection ea_ with ea_; subst ea_)); subst ec_; clear en_))
         have GB53 := zM gb53
         have GG53 := zM HG53
         clear gb53 gl53 HG53
         (first | simp only [add_plain] at hx712_0 | skip)
         obtain ⟨hx53_0, hf53_0⟩ := Kd.R_celln 0 HO_11.1 (((rd_T31 l1 x9_2).f0) : Int) p53 q53
         replace p53 := eq_true p53
         replace q53 := eq_true q53
         have HP63 := Kd.R_putn HO_11.1 (((rd_T31 l1 x9_2).f0) : Int) (wrap64 ((rd x11_3 ((rd_T31 l1 x9_2).f0)) + 1))
         rw [← Ny713.1] at HP63
         have HQ63 := zM HP63
         clear HP63
         refine start_ (n := 11) (S := fun w' => w'.cell? ⟨gb696, 0, none⟩ = some (.int .i64 ((rd_T31 l1 x9_2).f0)) ∧ w'.cell? ⟨gb696, 1, none⟩ = some (.int .i64 ((rd_T31 l1 x9_2).f1)) ∧ w'.cell? ⟨gb696, 2, none⟩ = some (.int .i64 ((rd_T31 l1 x9_2).f2)) ∧ w'.cell? ⟨gb696, 3, none⟩ = some (.int .i64 ((rd_T31 l1 x9_2).f3)) ∧ w'.cell? ⟨gb696, 4, none⟩ = some (.int .i64 ((rd_T31 l1 x9_2).f4)) ∧ w'.cell? ⟨go53, (((rd_T31 l1 x9_2).f0)).toNat, none⟩ = some (.int .i64 (rd x11_3 ((rd_T31 l1 x9_2).f0)))) (ds := [10]) zq14_0 (by kernel_rfl) rfl rfl ⟨(blk_cell BK696.1 0).trans rfl, (blk_cell BK696.1 1).trans rfl, (blk_cell BK696.1 2).trans rfl, (blk_cell BK696.1 3).trans rfl, (blk_cell BK696.1 4).trans rfl, hx712_0⟩ (fun hHeld => ?_); refine with_tabW spec_Clocks.tab20 spec_Clocks.bits20 (fun HT_ HW_ => ?_)
         generalize wc.drew = w61 at HO_5 HO_6 HO_8 HO_11 BK696 HB GG53 HQ63 hf53_0 hx53_0 hx712_0 hHeld ⊢
         refine zPu 0 ?_
         refine zPu 1 ?_
         refine zPu 3 ?_
         refine zPu 4 ?_
         refine zTk6 2 hHeld ?_
         refine zTk6 5 hHeld ?_
         refine zPu 6 ?_
         refine zTk6 7 hHeld ?_
         refine zPu 8 ?_
         refine zPu 9 ?_
         refine last_ (i := 10) (N := none) zq14_11 rfl rfl (one_of HT_.1 (by kernel_rfl)) (by decide) (fun K hK => ?_)
         refine skip_ (w1 := ?_) (by rfl) rfl ?_ ?_
         rotate_left
         ·go_simp
          rfl
         refine hK.out _ _ ?_
         clear hK K
         refine done_ (done_of HT_.1 (by kernel_rfl)) ?_
         have hnr_ := Kd.R_ne HO_11.1 BK696.1 (by decide)
         have hnb_ : gb696 ≠ go53 := fun e_ => hnr_ (congrArg some e_)
         have hnc_ : go53 ≠ gb696 := fun e_ => hnb_ e_.symm
         have hcz64 := zc_5 (w := w61) BK696.1
         try go_wp2_with (first | ((with_reducible refine zG Try.func40 89 #[.agg #[.int .i64 ((rd_T31 l1 x9_2).f0), .int .i64 ((rd_T31 l1 x9_2).f1), .int .i64 ((rd_T31 l1 x9_2).f2), .int .i64 ((rd_T31 l1 x9_2).f3), .int .i64 ((rd_T31 l1 x9_2).f4)]] ?_); (with_reducible refine (spec_l20Swap.calls ((rd_T31 l1 x9_2).f0) ((rd_T31 l1 x9_2).f1) ((rd_T31 l1 x9_2).f2) ((rd_T31 l1 x9_2).f3) ((rd_T31 l1 x9_2).f4) true _ A54.1).mono ?_); rintro e w65 ⟨rfl, hb⟩; refine ⟨_, rfl, ?_⟩; replace HO_5 := zM (Kd.S_below (by refine zrS ?_; exact (Kd.S_mono (Kd.S_far (p := ⟨go53, (((rd_T31 l1 x9_2).f0) : Int).toNat, none⟩) (Kd.S_mono HO_5.1 (fun k_ hk => (⟨hk, fun e_ => hk.2.2 (by rw [e_]; rfl)⟩ : _ ∧ k_ ≠ go53))) (fun _ hk => hk.2) (.int .i64 (wrap64 ((rd x11_3 ((rd_T31 l1 x9_2).f0)) + 1)))) (fun _ h_ => h_.1))) hb); replace HO_6 := zM (Kd.S_below (by refine zrS ?_; exact (Kd.S_mono (Kd.S_far (p := ⟨go53, (((rd_T31 l1 x9_2).f0) : Int).toNat, none⟩) (Kd.S_mono HO_6.1 (fun k_ hk => (⟨hk, fun e_ => hk.2.2 (by rw [e_]; rfl)⟩ : _ ∧ k_ ≠ go53))) (fun _ hk => hk.2) (.int .i64 (wrap64 ((rd x11_3 ((rd_T31 l1 x9_2).f0)) + 1)))) (fun _ h_ => h_.1))) hb); replace HO_8 := zM (Kd.R_below (by refine zrR ?_; exact (Kd.R_mono (Kd.R_far (p := ⟨go53, (((rd_T31 l1 x9_2).f0) : Int).toNat, none⟩) (Kd.R_mono HO_8.1 (fun k_ hk => (⟨hk, fun e_ => hk (by rw [e_]; rfl)⟩ : _ ∧ k_ ≠ go53))) (fun _ hk => hk.2) (.int .i64 (wrap64 ((rd x11_3 ((rd_T31 l1 x9_2).f0)) + 1)))) (fun _ h_ => h_.1))) hb); replace BK696 := zM (blk_below (g := gb696) (o := .cells #[.int .i64 ((rd_T31 l1 x9_2).f0), .int .i64 ((rd_T31 l1 x9_2).f1), .int .i64 ((rd_T31 l1 x9_2).f2), .int .i64 ((rd_T31 l1 x9_2).f3), .int .i64 ((rd_T31 l1 x9_2).f4)] 31 (0, 0)) (by refine zP ?_; refine blk_far ?_ (by have h_ := Kd.R_ne HO_11.1 BK696.1 (by decide); intro e_; exact h_ (by rw [e_]; rfl)) _; refine zP ?_; exact BK696.1) hb); replace HO_11 := zM (Kd.R_below (zR HQ63.out) hb); replace HB := zM (below_step zB1 hb); clear hb) | ((with_reducible refine gate_builtin (b := .append) (xs := #[.tmp 90, .tmp 92]) rfl ?_); at_builtin; refine Kd.R_append (Kd.int .i64) (w0 := w) w.heap.size rfl (.tmp 90) (.tmp 92) 29 3 (.int .i64 0) 8 rfl Try.underlying29 info3 rfl (by decide) (by omega) u8 x8_2 x9_2 [.int .i64 x9_2] (fun k_ => some k_ ≠ (.slice (some ⟨go53, 0, none⟩) x11_3.length co62 : Value).ownBlock) (fun _ => False) rfl rfl ?aP (fun _ hk => hk.elim) ?aF ?aO ?aB ?aS ?aL ?_; (case aP => exact rfl); (case aB => exact zB1); (case aF => exact (fun k_ hk => Kd.fresh' (Kd.R_lt (zR HO_11.1)) k_ hk)); (case aO => exact (zR HO_8.1)); (case aS => exact (below_size zB1)); (case aL => have := LMc56.out; omega); intro v716 w66 ho hb hg hat; rw [← Ny715.1] at ho; replace HO_5 := zM (Kd.S_after (ok := (fun k_ => some k_ ≠ (.slice (some ad700) x6_2.length co27 : Value).ownBlock ∧ some k_ ≠ (.slice (some ⟨go53, 0, none⟩) x11_3.length co62 : Value).ownBlock)) (by refine zrS ?_; exact Kd.S_mono HO_5.1 (fun _ hk => ⟨⟨hk.1, hk.2.2⟩, hk.2.1⟩)) hg hat); replace HO_6 := zM (Kd.S_after (ok := (fun k_ => some k_ ≠ (u5 : Value).ownBlock ∧ some k_ ≠ (.slice (some ⟨go53, 0, none⟩) x11_3.length co62 : Value).ownBlock)) (by refine zrS ?_; exact Kd.S_mono HO_6.1 (fun _ hk => ⟨⟨hk.1, hk.2.2⟩, hk.2.1⟩)) hg hat); replace HO_11 := zM (Kd.R_after (ok := (fun _ => True)) (by refine zrR ?_; exact Kd.R_mono HO_11.1 (fun _ hk => ⟨trivial, hk⟩)) hg hat); replace BK696 := zM (zg BK696.1 hg (Kd.R_ne HO_8.1 BK696.1 (by decide))); replace HB := zM hb; have HO717 := zM ho; clear HO_8; clear ho hb hg hat; have hcz67 := zc_5 (w := w66) BK696.1; have p58 : 0 ≤ (((rd_T31 l1 x9_2).f0) : Int) := zA; have q58 : (((rd_T31 l1 x9_2).f0) : Int) < ((x6_2.length : Int) : Int) := zA; obtain ⟨go58, co58, eo58, gb58, gl58, cl58, HG58⟩ := Kd.S_form HO_6.1 (by omega); (first | cases eo58 | (injection eo58 with ea_ en_ ec_; (first | subst ea_ | (injection ea_ with ea_; subst ea_)); subst ec_; clear en_)); have GB58 := zM gb58; have GG58 := zM HG58; clear gb58 gl58 HG58; (first | simp only [add_plain] at hx700_0 | skip); obtain ⟨_, ce58, hcl58, hM58, hcc58, hfr58, _, _⟩ := Kd.S_elem HO_6.1 [] (((rd_T31 l1 x9_2).f0) : Int) p58 q58; obtain ⟨ve58_0, rfl, ge58_0⟩ := hM58; have hx58_0 := hcc58 0 _ rfl; have hf58_0 := hfr58 0; (try simp only [show ((Kd.slice 3 (Kd.int .i64))).sz = 1 from rfl, Nat.mul_one, Nat.add_zero] at hx58_0); (try simp only [show ((Kd.slice 3 (Kd.int .i64))).sz = 1 from rfl, Nat.mul_one, Nat.add_zero] at hf58_0); clear hcl58 hcc58 hfr58; replace p58 := eq_true p58; replace q58 := eq_true q58; have n_ := zM (Kd.S_mono (ok' := (fun k_ => some k_ ≠ (u5 : Value).ownBlock ∧ some k_ ≠ (.slice (some ⟨go53, 0, none⟩) x11_3.length co62 : Value).ownBlock ∧ some k_ ≠ (v716 : Value).ownBlock)) HO_6.1 (fun k_ hk => ⟨hk.1.1, ⟨hk.1.2, hk.2⟩⟩)); clear HO_6; have HO_6 := n_; clear n_; have HX68 := zM (show Kd.S (Kd.slice 3 (Kd.int .i64)) 29 w66 w.heap.size (fun k_ => ((fun k_ => some k_ ≠ (u5 : Value).ownBlock ∧ some k_ ≠ (v716 : Value).ownBlock)) k_ ∧ ¬ ((fun k_ => some k_ = (.slice (some ⟨go53, 0, none⟩) x11_3.length co62 : Value).ownBlock)) k_) (.slice (some ⟨go58, 0, none⟩) x6_2.length co27) x6_2 from (by refine zrS ?_; exact Kd.S_mono HO_6.1 (fun k_ hk => ⟨⟨hk.1, hk.2.2⟩, fun e_ => hk.2.1 e_⟩))); obtain ⟨oki68, ce68, hcl68, hM68, hcc68, hfr68, hoki68, hH68⟩ := Kd.S_elem HX68.out [] (((rd_T31 l1 x9_2).f0) : Int) zA (by have h_ : (((rd_T31 l1 x9_2).f0) : Int) < ((x6_2.length : Int) : Int) := zA; first | exact h_ | (have e_ := (Kd.S_reads' HO_6.1).1; omega) | simpa using h_); obtain ⟨ve68_0, rfl, ge68_0⟩ := hM68; have HP68 := Kd.S_seg hH68 zA (by have h_ : (((rd_T31 l1 x9_2).f0) : Int) < ((x6_2.length : Int) : Int) := zA; first | exact h_ | (have e_ := (Kd.S_reads' HO_6.1).1; omega) | simpa using h_) (seg := [.slice (some ⟨go53, 0, none⟩) x11_3.length co62]) (j := 0) (show 1 ≤ 1 from by decide) (x' := y713) (Kd.M_row (Kd.R_mono (Kd.R_tight rfl (Kd.R_mono (ok' := fun k_ => ((fun k_ => some k_ ≠ (u5 : Value).ownBlock ∧ some k_ ≠ (v716 : Value).ownBlock)) k_ ∧ k_ ≠ go58) (Kd.R_apart' (Kd.R_apart' (HO_11.1) (Kd.S_typed HO_5.1) (by decide)) (Kd.S_typed HO_6.1) (by decide)) (fun k_ hk => ⟨⟨hk.1.2, hk.1.1.2⟩, fun e_ => (hk.2) (by rw [e_]; rfl)⟩))) (fun _ h_ => Or.inr (h_)))) (fun _ hk => hk) (fun k_ hk_ => ((Kd.R_mono (ok' := fun k_ => ((fun k_ => some k_ ≠ (u5 : Value).ownBlock ∧ some k_ ≠ (v716 : Value).ownBlock)) k_ ∧ k_ ≠ go58) (Kd.R_apart' (Kd.R_apart' (HO_11.1) (Kd.S_typed HO_5.1) (by decide)) (Kd.S_typed HO_6.1) (by decide)) (fun k_ hk => ⟨⟨hk.1.2, hk.1.1.2⟩, fun e_ => (hk.2) (by rw [e_]; rfl)⟩))).1 k_ hk_.symm); have hx68_0 := hcc68 0 _ rfl; (try simp only [show ((Kd.slice 3 (Kd.int .i64))).sz = 1 from rfl, Nat.mul_one, Nat.add_zero] at hx68_0); have hf68_0 := hfr68 0; (try simp only [show ((Kd.slice 3 (Kd.int .i64))).sz = 1 from rfl, Nat.mul_one, Nat.add_zero] at hf68_0); clear hcl68 hcc68 hfr68 hoki68 hH68; (try simp only [show ((Kd.slice 3 (Kd.int .i64))).sz = 1 from rfl, Nat.mul_one, Nat.add_zero] at HP68)) | ((with_reducible refine gate_store (t := 29) (p := 98) rfl ?_); refine store_event (t := 29) (p := 98) (v := ?vo_w69) (w1 := (w66.setCell ⟨go58, (((rd_T31 l1 x9_2).f0) : Int).toNat, none⟩ (.slice (some ⟨go53, 0, none⟩) x11_3.length co62))) ?hg ?ho ?hn ?hr ?_; (case ho => rfl); (case hg => rfl); (case hn => rfl); (case hr => exact zHH); intro w69 hw; have hg : w66.grownBy w69 (some go58) := (by rw [hw]; exact HP68.2); have hp_ : Kd.S (Kd.slice 3 (Kd.int .i64)) 29 w69 w.heap.size (fun k_ => some k_ ≠ (u5 : Value).ownBlock ∧ some k_ ≠ (v716 : Value).ownBlock) (.slice (some ⟨go58, 0, none⟩) x6_2.length co27) y718 := (by rw [hw, Ny718.1]; exact HP68.1); clear HP68; replace HO_5 := zM (Kd.S_after (v := (.slice (some ⟨go58, 0, none⟩) x6_2.length co27)) (v1 := (.slice (some ⟨go58, 0, none⟩) x6_2.length co27)) (ok := (fun k_ => some k_ ≠ (.slice (some ⟨go53, 0, none⟩) x11_3.length co62 : Value).ownBlock ∧ some k_ ≠ (v716 : Value).ownBlock)) (by refine zrS ?_; exact Kd.S_mono HO_5.1 (fun _ hk => ⟨⟨hk.1.2, hk.2⟩, hk.1.1⟩)) hg (.inl rfl)); replace BK696 := zM (zg BK696.1 hg (Kd.S_ne HO_6.1 BK696.1 (by decide))); replace HO717 := zM (Kd.R_over' (v := (.slice (some ⟨go58, 0, none⟩) x6_2.length co27)) (zR HO717.1) (Kd.S_typed HO_6.1) (by decide) hg); replace HO_6 := zM hp_; replace HB := zM ((by rw [hw]; exact below_set (HB.1) GB58.1 : Below w.heap.size w w69)); clear HO_11; have HST_ := zM (show w69.cell? ⟨go58, (((rd_T31 l1 x9_2).f0) : Int).toNat, none⟩ = some (.slice (some ⟨go53, 0, none⟩) x11_3.length co62) by rw [hw]; first | exact World.cell?_setCell_same _ _ _ hx68_0 | exact World.cell?_setCell_same _ _ _ hx58_0); clear hg hw hp_) | ((with_reducible refine gate_dst (N := 100) rfl ?_); refine Kd.R_lit (Kd.int .i64) _ 3 ?hg (N := 100) ?hd (xs := ([] : List Int)) (inner := []) (ok := fun _ => True) (okp := fun _ => True) ?hr ?hp (fun _ hk => hk) trivial (Below.refl _ _) (Nat.le_refl _) (by simp) ?_; (case hd => rfl); (case hg => rfl); (case hr => exact zHH); (case hp => exact (Reps.none _ _)); intro v720 w70 ho71 hb hg_ hnew_; clear hg_ hnew_; (first | rw [← Ny719.1] at ho71 | (simp only [Int.reduceToNat] at ho71; rw [← Ny719.1] at ho71)); replace HO_5 := zM (Kd.S_elder' (zS HO_5.1) (Kd.R_base ho71) hb); replace HO_6 := zM (Kd.S_elder' (zS HO_6.1) (Kd.R_base ho71) hb); have HO721 := zM (Kd.R_lower (Kd.R_new' ho71 (Kd.R_lt (zR HO717.1))) (below_size zB1)); replace HO717 := zM (Kd.R_elder' (zR HO717.1) (Kd.R_base ho71) hb); replace BK696 := zM (zb BK696.1 hb); replace HB := zM (below_step zB1 hb); have hst_ := zM ((hb.cell (World.block_lt_of_cell? w69 _ HST_.out)).trans HST_.out); clear HST_; have HST_ := hst_; clear hst_; clear hb ho71; have hcz72 := zc_5 (w := w70) BK696.1; have p722 : 0 ≤ (((rd_T31 l1 x9_2).f0) : Int) := zA; have q722 : ((rd_T31 l1 x9_2).f0) < (y718.length : Int) := (by have h_ : (((rd_T31 l1 x9_2).f0) : Int) < ((x6_2.length : Int) : Int) := zA; first | (have e_ := (Kd.S_reads' HO_6.1).1; omega) | simpa only [Ny718.1, List.length_set] using h_); have ql722 : ((((rd_T31 l1 x9_2).f0) : Int) < ((x6_2.length : Int) : Int)) = True := eq_true zA; obtain ⟨ad722, A722_0, c722_0, e722, hx722_0, hl722_0, hi722_0⟩ := at_L3 (Kd.S_reads' HO_6.1).2.2 ((rd_T31 l1 x9_2).f0) p722 q722; obtain rfl : (⟨go58, 0, none⟩ : Addr) = ad722 := (by injection e722); obtain ⟨ce722, hce722, hMe722, hcc722⟩ := Kd.S_get HO_6.1 [] ((rd_T31 l1 x9_2).f0) p722 (by first | exact q722 | exact zA | (have e_ := (Kd.S_reads' HO_6.1).1; omega)); obtain ⟨ve722_0, rfl, ge722_0⟩ := hMe722; have hv722_0 := hcc722 0 _ rfl; rw [Nat.add_zero, show ((Kd.slice 3 (Kd.int .i64))).sz = 1 from rfl, Nat.mul_one] at hv722_0; replace hv722_0 := Option.some.inj (hv722_0.symm.trans hx722_0); rw [hv722_0] at ge722_0; have HL722_0 := zM (show Kd.R (Kd.int .i64) 3 _ _ _ _ (rd_L3 y718 ((rd_T31 l1 x9_2).f0)) from ge722_0); clear hv722_0 ge722_0; clear hcc722 hce722; (first | simp only [add_plain] at hx722_0 | simp only [add_at] at hx722_0 | simp only [Addr.add, Nat.zero_add] at hx722_0 | skip); obtain ⟨rfl, hsn_, rfl⟩ : (some ⟨go53, 0, none⟩) = A722_0 ∧ x11_3.length = (rd_L3 y718 ((rd_T31 l1 x9_2).f0)).length ∧ co62 = c722_0 := Value.slice.inj (Option.some.inj (HST_.out.symm.trans hx722_0)); have HSN_ := zM hsn_; clear hsn_ HST_; have HR722_0 := zM hi722_0; have HC722_0 := zM hl722_0; clear hi722_0 hl722_0; replace p722 := eq_true p722; replace q722 := eq_true q722) | ((with_reducible refine gate_builtin (b := .append) (xs := #[.tmp 100, .tmp 101]) rfl ?_); rw [HSN_.out]; at_builtin; refine Kd.R_append_rows (Kd.int .i64) (w0 := w) w.heap.size rfl (.tmp 100) (.tmp 101) 29 3 (.int .i64 0) 8 rfl Try.underlying29 info3 rfl (by decide) (by omega) v720 y719 (rd_L3 y718 ((rd_T31 l1 x9_2).f0)) _ _ _ (fun k_ => some k_ ≠ (v716 : Value).ownBlock) (fun _ => False) rfl rfl ?aO ?aR (fun _ _ h => h) (fun _ h => h.elim) ?aF ?aB ?aS ?aL ?_; (case aR => exact zC HR722_0.1); (case aB => exact zB1); (case aF => exact (fun k_ hk => Kd.fresh' (Kd.R_lt (zR HO717.1)) k_ hk)); (case aO => exact (by refine zrR ?_; exact Kd.R_mono HO721.1 (fun _ hk => hk.2))); (case aS => exact (below_size zB1)); (case aL => have := LMc59.out; omega); intro v724 w73 ho hb hg hat; rw [← Ny723.1] at ho; replace HO_5 := zM (Kd.S_after (ok := (fun k_ => some k_ ≠ (.slice (some ⟨go58, 0, none⟩) x6_2.length co27 : Value).ownBlock ∧ some k_ ≠ (v716 : Value).ownBlock)) (by refine zrS ?_; exact Kd.S_mono HO_5.1 (fun _ hk => ⟨⟨hk.1.2, hk.1.1.2⟩, hk.2⟩)) hg hat); replace HO_6 := zM (Kd.S_after (ok := (fun k_ => some k_ ≠ (u5 : Value).ownBlock ∧ some k_ ≠ (v716 : Value).ownBlock)) (zS HO_6.1) hg hat); replace BK696 := zM (zg BK696.1 hg (Kd.R_ne HO721.1 BK696.1 (by decide))); replace HO717 := zM (Kd.R_after (ok := (fun _ => True)) (by refine zrR ?_; exact Kd.R_mono HO717.1 (fun _ hk => ⟨trivial, hk.2⟩)) hg hat); replace HL722_0 := zM (Kd.R_after (ok := (fun k_ => some k_ ≠ (u5 : Value).ownBlock ∧ some k_ ≠ (.slice (some ⟨go58, 0, none⟩) x6_2.length co27 : Value).ownBlock ∧ some k_ ≠ (v716 : Value).ownBlock)) (by refine zrR ?_; exact Kd.R_mono HL722_0.1 (fun _ hk => ⟨⟨hk.1.1.1, ⟨hk.2, hk.1.1.2⟩⟩, hk.1.2⟩)) hg hat); replace HB := zM hb; have HO725 := zM ho; clear HO721; clear ho hb hg hat; obtain ⟨Ao75, co75, eo75⟩ := Kd.R_slice HO725.1; subst eo75) | ((with_reducible refine gate_builtin (b := .append) (xs := #[.tmp 99, .tmp 103]) rfl ?_); at_builtin; refine Kd.S_append (Kd.slice 3 (Kd.int .i64)) (w0 := w) w.heap.size rfl (.tmp 99) (.tmp 103) 35 29 (.slice none 0 0) 24 rfl Try.underlying35 info29 rfl (by decide) (by omega) u5 x5_2 y723 [.slice Ao75 y723.length co75] (fun k_ => some k_ ≠ (.slice (some ⟨go58, 0, none⟩) x6_2.length co27 : Value).ownBlock ∧ some k_ ≠ (v716 : Value).ownBlock) (fun k_ => some k_ = (.slice Ao75 y723.length co75 : Value).ownBlock) rfl rfl ?aP (fun k_ hk_ => ((Kd.R_mono (ok' := fun k_ => ((fun k_ => some k_ ≠ (.slice (some ⟨go58, 0, none⟩) x6_2.length co27 : Value).ownBlock ∧ some k_ ≠ (v716 : Value).ownBlock)) k_ ∧ some k_ ≠ (u5 : Value).ownBlock) (Kd.R_apart' (Kd.R_apart' (HO725.1) (Kd.S_typed HO_6.1) (by decide)) (Kd.S_typed HO_5.1) (by decide)) (fun k_ hk => ⟨⟨hk.1.2, hk.1.1⟩, hk.2⟩))).1 k_ hk_.symm) ?aF ?aO ?aB ?aS ?aL ?_; (case aP => exact Kd.M_row (Kd.R_mono (Kd.R_tight rfl (Kd.R_mono (ok' := fun k_ => ((fun k_ => some k_ ≠ (.slice (some ⟨go58, 0, none⟩) x6_2.length co27 : Value).ownBlock ∧ some k_ ≠ (v716 : Value).ownBlock)) k_ ∧ some k_ ≠ (u5 : Value).ownBlock) (Kd.R_apart' (Kd.R_apart' (HO725.1) (Kd.S_typed HO_6.1) (by decide)) (Kd.S_typed HO_5.1) (by decide)) (fun k_ hk => ⟨⟨hk.1.2, hk.1.1⟩, hk.2⟩))) (fun _ h_ => h_))); (case aB => exact zB1); (case aF => exact (fun k_ hk => ⟨Kd.fresh' (Kd.S_lt (zS HO_6.1)) k_ hk, Kd.fresh' (Kd.R_lt (zR HO717.1)) k_ hk⟩)); (case aO => exact (by refine zrS ?_; exact Kd.S_mono HO_5.1 (fun k_ hk => ⟨⟨hk.1.1, hk.1.2⟩, fun e_ => hk.2 e_⟩))); (case aS => exact (below_size zB1)); (case aL => have := LMc60.out; omega); intro v727 w74 ho hb hg hat; rw [← Ny726.1] at ho; replace HO_6 := zM (Kd.S_after (ok := (fun k_ => some k_ ≠ (v716 : Value).ownBlock ∧ some k_ ≠ (.slice Ao75 y723.length co75 : Value).ownBlock)) (by refine zrS ?_; exact Kd.S_mono HO_6.1 (fun _ hk => ⟨⟨hk.1.2, hk.2⟩, hk.1.1⟩)) hg hat); replace BK696 := zM (zg BK696.1 hg (Kd.S_ne HO_5.1 BK696.1 (by decide))); replace HO717 := zM (Kd.R_over' (zR HO717.1) (Kd.S_typed (zS HO_5.1)) (by decide) hg); replace HL722_0 := zM (Kd.R_after (ok := (fun k_ => some k_ ≠ (.slice (some ⟨go58, 0, none⟩) x6_2.length co27 : Value).ownBlock ∧ some k_ ≠ (v716 : Value).ownBlock ∧ some k_ ≠ (.slice Ao75 y723.length co75 : Value).ownBlock)) (by refine zrR ?_; exact Kd.R_mono HL722_0.1 (fun _ hk => ⟨⟨hk.1.2.1, ⟨hk.1.2.2, hk.2⟩⟩, hk.1.1⟩)) hg hat); replace HB := zM hb; have HO728 := zM ho; clear HO_5 HO725; clear ho hb hg hat))
         go_roundg kj28
         case measure => have := HK1.1; have := HK2.1; have := HK3.1; have := HJ28.1; omega
         case rel => exact ⟨(y726), (y718), (y715), (wrap64 (x9_2 + 1)), zJJ, H', ⟨by have := HK1.1; have := HK2.1; have := HK3.1; have := HJ28.1; omega⟩, ⟨zS HO728.1⟩, ⟨by refine zrS ?_; exact Kd.S_mono HO_6.1 (fun _ hk => ⟨hk.2, hk.1.1⟩)⟩, ⟨by refine zrR ?_; exact Kd.R_mono HO717.1 (fun _ hk => trivial)⟩, ⟨zB1⟩⟩

end Go.Proofs.Ytgbjengnkbomoaa.PFnRaces
