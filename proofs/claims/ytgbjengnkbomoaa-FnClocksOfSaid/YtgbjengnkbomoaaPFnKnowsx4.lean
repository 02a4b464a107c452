-- made by wip/tools/myprint.py out of the seat's translation
import Derived.Test.YtgbjengnkbomoaaPFnKnowsx0
import Derived.Test.YtgbjengnkbomoaaPFnKnowsx2
import Derived.Test.YtgbjengnkbomoaaPFnKnowsx3
namespace Go.Proofs.Ytgbjengnkbomoaa.PFnKnows
open Go.RowKit Go.Proofs.YtgbjengnkbomoaaW.PrintWords Go.Proofs.YtgbjengnkbomoaaW.PrintLast Go.Proofs.YtgbjengnkbomoaaW.PrintMore
attribute [local go_sem] max2_int min2_int max_two min_two max_three min_three max_four min_four   -- for this text's walks alone
set_option linter.unusedVariables false
set_option linter.unusedSimpArgs false
set_option maxHeartbeats 8000000
set_option maxRecDepth 100000
abbrev zq4_0 : Array Bool := #[false, false, false, false, false, false, false, false, false, false, false]
abbrev zq4_11 : Array Bool := #[true, true, true, true, true, true, true, true, true, true, true]

/-! ### spec_Clocks: function 13 -/
mutual
def spec_Clocks.l0 : Nat → Int → List (S31) → List (List Int) → List (List Int) → Int → Option ((List (List Int)))
 | 0, _, _, _, _, _ => none
 | k + 1, x0, x1, x5, x6, x7 => if x7 < x0 then ((spec_ClockNew.f x0).bind fun t181 => (if x6.length < 5864062014805 then (spec_Clocks.l0 k x0 x1 x5 (x6 ++ [t181]) (wrap64 (x7 + 1))) else (none))) else (spec_Clocks.l1 k x1 x5 x6 (([] : List Int)) 0)
def spec_Clocks.l1 : Nat → List (S31) → List (List Int) → List (List Int) → List Int → Int → Option ((List (List Int)))
 | 0, _, _, _, _, _ => none
 | k + 1, x1, x5, x6, x8, x9 => if x9 < (x1.length : Int) then (if 0 ≤ x9 then ((some (([] : List Int) : List Int)).bind fun y192 => (if 0 ≤ ((rd_T31 x1 x9).f0) then (if ((rd_T31 x1 x9).f0) < (x6.length : Int) then (if y192.length + (rd_L3 x6 ((rd_T31 x1 x9).f0)).length < 17592186044416 then (spec_Clocks.l2 k x1 x5 x6 x8 x9 (y192 ++ (rd_L3 x6 ((rd_T31 x1 x9).f0))) 0 ((rd_T31 x1 x9).f0) ((rd_T31 x1 x9).f1) ((rd_T31 x1 x9).f2) ((rd_T31 x1 x9).f3) ((rd_T31 x1 x9).f4)) else (none)) else (none)) else (none))) else (none)) else (some x5)
def spec_Clocks.l2 : Nat → List (S31) → List (List Int) → List (List Int) → List Int → Int → List Int → Int → Int → Int → Int → Int → Int → Option ((List (List Int)))
 | 0, _, _, _, _, _, _, _, _, _, _, _, _ => none
 | k + 1, x1, x5, x6, x8, x9, x11, x12, x192000, x192001, x192002, x192003, x192004 => if x12 < (x8.length : Int) then ((spec_l20Swap.f x192000 x192001 x192002 x192003 x192004).bind fun t199 => (spec_Clocks.j3 k x1 x5 x6 x8 x9 x11 x12 t199 x192000 x192001 x192002 x192003 x192004)) else (spec_Clocks.j3 k x1 x5 x6 x8 x9 x11 x12 false x192000 x192001 x192002 x192003 x192004)
def spec_Clocks.j3 : Nat → List (S31) → List (List Int) → List (List Int) → List Int → Int → List Int → Int → Bool → Int → Int → Int → Int → Int → Option ((List (List Int)))
 | 0, _, _, _, _, _, _, _, _, _, _, _, _, _ => none
 | k + 1, x1, x5, x6, x8, x9, x11, x12, x55, x192000, x192001, x192002, x192003, x192004 => if x55 = true then (if 0 ≤ x12 then (if x12 < (x8.length : Int) then (if 0 ≤ (rd x8 x12) then (if (rd x8 x12) < (x1.length : Int) then (if ((rd_T31 x1 (rd x8 x12)).f2) = x192002 then (if (rd x8 x12) < (x5.length : Int) then ((spec_ClockJoin.f k x11 (rd_L3 x5 (rd x8 x12))).bind fun t204 => (spec_Clocks.l2 k x1 x5 x6 x8 x9 t204 (wrap64 (x12 + 1)) x192000 x192001 x192002 x192003 x192004)) else (none)) else (spec_Clocks.l2 k x1 x5 x6 x8 x9 x11 (wrap64 (x12 + 1)) x192000 x192001 x192002 x192003 x192004)) else (none)) else (none)) else (none)) else (none)) else (if 0 ≤ x192000 then (if x192000 < (x11.length : Int) then ((some (x11.set (x192000 : Int).toNat (wrap64 ((rd x11 x192000) + 1)) : List Int)).bind fun y208 => ((spec_l20Swap.f x192000 x192001 x192002 x192003 x192004).bind fun t209 => (if t209 = true then (if x8.length < 17592186044416 then (if x192000 < (x6.length : Int) then ((some (x6.set (x192000 : Int).toNat y208 : List (List Int))).bind fun y213 => ((some (([] : List Int) : List Int)).bind fun y214 => (if y214.length + (rd_L3 y213 x192000).length < 17592186044416 then (if x5.length < 5864062014805 then (spec_Clocks.l1 k x1 (x5 ++ [(y214 ++ (rd_L3 y213 x192000))]) y213 (x8 ++ [x9]) (wrap64 (x9 + 1))) else (none)) else (none)))) else (none)) else (none)) else (if x192000 < (x6.length : Int) then ((some (x6.set (x192000 : Int).toNat y208 : List (List Int))).bind fun y224 => ((some (([] : List Int) : List Int)).bind fun y225 => (if y225.length + (rd_L3 y224 x192000).length < 17592186044416 then (if x5.length < 5864062014805 then (spec_Clocks.l1 k x1 (x5 ++ [(y225 ++ (rd_L3 y224 x192000))]) y224 x8 (wrap64 (x9 + 1))) else (none)) else (none)))) else (none))))) else (none)) else (none))
end
def spec_Clocks.f (k : Nat) (a0 : Int) (l1 : List (S31)) : Option ((List (List Int))) := (some (([] : List (List Int)) : List (List Int))).bind fun y174 => ((spec_l20Whos.f k a0 l1).bind fun t177 => (if t177 = true then (spec_Clocks.l0 k a0 l1 y174 (([] : List (List Int))) 0) else (some y174)))
theorem spec_Clocks.mono_l : ∀ k, (∀ y0 y1 y2 y3 y4, LeO (spec_Clocks.l0 k y0 y1 y2 y3 y4) (spec_Clocks.l0 (k + 1) y0 y1 y2 y3 y4)) ∧ (∀ y0 y1 y2 y3 y4, LeO (spec_Clocks.l1 k y0 y1 y2 y3 y4) (spec_Clocks.l1 (k + 1) y0 y1 y2 y3 y4)) ∧ (∀ y0 y1 y2 y3 y4 y5 y6 y7 y8 y9 y10 y11, LeO (spec_Clocks.l2 k y0 y1 y2 y3 y4 y5 y6 y7 y8 y9 y10 y11) (spec_Clocks.l2 (k + 1) y0 y1 y2 y3 y4 y5 y6 y7 y8 y9 y10 y11)) ∧ (∀ y0 y1 y2 y3 y4 y5 y6 y7 y8 y9 y10 y11 y12, LeO (spec_Clocks.j3 k y0 y1 y2 y3 y4 y5 y6 y7 y8 y9 y10 y11 y12) (spec_Clocks.j3 (k + 1) y0 y1 y2 y3 y4 y5 y6 y7 y8 y9 y10 y11 y12))
 | 0 => ⟨fun _ _ _ _ _ r h => by simp [spec_Clocks.l0] at h, fun _ _ _ _ _ r h => by simp [spec_Clocks.l1] at h, fun _ _ _ _ _ _ _ _ _ _ _ _ r h => by simp [spec_Clocks.l2] at h, fun _ _ _ _ _ _ _ _ _ _ _ _ _ r h => by simp [spec_Clocks.j3] at h⟩
 | k + 1 => by
  obtain ⟨ih0, ih1, ih2, ih3⟩ := spec_Clocks.mono_l k
  refine ⟨?_, ?_, ?_, ?_⟩
  ·intros
   unfold spec_Clocks.l0
   have mo0 := @spec_ClockJoin.mono
   have mo1 := @spec_l20Whos.mono
   exact zL
  ·intros
   unfold spec_Clocks.l1
   have mo0 := @spec_ClockJoin.mono
   have mo1 := @spec_l20Whos.mono
   exact zL
  ·intros
   unfold spec_Clocks.l2
   have mo0 := @spec_ClockJoin.mono
   have mo1 := @spec_l20Whos.mono
   exact zL
  ·intros
   unfold spec_Clocks.j3
   have mo0 := @spec_ClockJoin.mono
   have mo1 := @spec_l20Whos.mono
   exact zL
theorem spec_Clocks.mono : ∀ a0 a1 k, LeO (spec_Clocks.f k a0 a1) (spec_Clocks.f (k + 1) a0 a1) := by
 intro a0 a1 k
 obtain ⟨ih0, ih1, ih2, ih3⟩ := spec_Clocks.mono_l k
 unfold spec_Clocks.f
 have mo0 := @spec_ClockJoin.mono
 have mo1 := @spec_l20Whos.mono
 exact zL
def spec_Clocks.T18 : Bool × List (List Nat × List Nat) := (true, [([], []), ([], []), ([], []), ([1, 2], [1, 2]), ([3], [3]), ([0, 4], [0, 4]), ([5], [5]), ([6], [6]), ([], []), ([8], [8]), ([7, 9], [7, 9])])
def spec_Clocks.B18 : List Nat := [0, 0, 0, 6, 14, 31, 63, 127, 0, 256, 1023]
theorem spec_Clocks.tab18 : rtab .any (opsOf Try.f13 18) = spec_Clocks.T18 := by kernel_rfl
theorem spec_Clocks.bits18 : waitsOk spec_Clocks.T18.2 spec_Clocks.B18 = true := by kernel_rfl
def spec_Clocks.T20 : Bool × List (List Nat × List Nat) := (true, [([], []), ([], []), ([1], [1]), ([], []), ([], []), ([4], [4]), ([3, 5], [3, 5]), ([6], [6]), ([7], [7]), ([0, 2, 0, 1, 2, 3, 4, 5, 6, 7, 8], [0, 2]), ([9, 8, 0, 1, 2, 3, 4, 5, 6, 7, 8], [8, 9])])
def spec_Clocks.B20 : List Nat := [0, 0, 2, 0, 0, 16, 56, 120, 248, 511, 1023]
theorem spec_Clocks.tab20 : rtab .any (opsOf Try.f13 20) = spec_Clocks.T20 := by kernel_rfl
theorem spec_Clocks.bits20 : waitsOk spec_Clocks.T20.2 spec_Clocks.B20 = true := by kernel_rfl
theorem spec_Clocks.calls (k : Nat) (a0 : Int) (A1 : Option Addr) (c1 : Nat) (l1 : List (S31)) (r : List (List Int)) (w : World) (hr1 : Kd.C k31 w A1 l1.length l1) (hc1 : l1.length ≤ c1) (h : spec_Clocks.f k a0 l1 = some r) :
  Calls Try.prog 13 #[.int .i64 a0, .slice A1 l1.length c1] w fun e w' => ∃ v0_ : Value, e = .returned (v0_) ∧ Kd.S (Kd.slice 3 (Kd.int .i64)) 29 w' w.heap.size (fun _ => True) v0_ r ∧ Below w.heap.size w w' := by
 have HR1 := zM hr1
 have HC1 := zM hc1
 clear hr1 hc1
 have HB := zM (Below.refl w.heap.size w)
 unfold spec_Clocks.f at h
 have H := h
 clear h
 obtain ⟨y174, hy174⟩ : ∃ y_ : List (List Int), y_ = (([] : List (List Int))) := ⟨_, rfl⟩
 replace H : ((spec_l20Whos.f k a0 l1).bind fun t177 => (if t177 = true then (spec_Clocks.l0 k a0 l1 y174 (([] : List (List Int))) 0) else (some y174))) = some r := by first | (rw [hy174]; with_reducible exact H) | (have H2_ := (Option.bind_some _ _).symm.trans H; rw [hy174]; with_reducible exact H2_) | (have H2_ := (Option.bind_some _ _).symm.trans H; with_reducible exact H2_) | with_reducible exact H | (rw [hy174]; exact H) | exact H
 have Ny174 := zM hy174
 clear hy174
 replace H := zO H
 obtain ⟨t177, A3, H⟩ := H
 by_cases c4 : t177 = true
 rotate_left
 ·replace c4 := Bool.eq_false_iff.mpr c4
  subst c4
  rw [if_neg zF] at H
  obtain rfl := Option.some.inj H
  go_enter Try.func13, Try.ntmps13
  go_wp2_with (first | ((with_reducible refine gate_dst (N := 13) rfl ?_); refine Kd.S_lit (Kd.slice 3 (Kd.int .i64)) _ 29 ?hg (N := 13) ?hd (xs := ([] : List (List Int))) (inner := []) (ok := fun _ => True) (okp := fun _ => True) ?hr ?hp (fun _ hk => hk) trivial (Below.refl _ _) (Nat.le_refl _) (by simp) ?_; (case hd => rfl); (case hg => rfl); (case hr => exact zHH); (case hp => exact (Reps.none _ _)); intro v175 w94 ho95 hb hg_ hnew_; clear hg_ hnew_; (first | rw [← Ny174.1] at ho95 | (simp only [Int.reduceToNat] at ho95; rw [← Ny174.1] at ho95)); have HO176 := zM (Kd.S_lower ho95 (below_size zB1)); replace HB := zM (below_step zB1 hb); clear hb ho95) | ((with_reducible refine zG Try.func38 16 #[.int .i64 a0, .slice A1 l1.length c1] ?_); (with_reducible refine (spec_l20Whos.calls k a0 _ _ l1 false _ ?side1 ?side2 A3.1).mono ?_); (case side1 => exact zC (Kd.C_below HR1.1 HB.1)); (case side2 => exact HC1.1); rintro e w' ⟨rfl, ⟨nd, rfl⟩⟩; refine ⟨_, rfl, ?_⟩))
  go_ret
  exact ⟨_, zE, zS HO176.1, zB1⟩
 subst c4
 rw [if_pos rfl] at H
 obtain ⟨y178, hy178⟩ : ∃ y_ : List (List Int), y_ = (([] : List (List Int))) := ⟨_, rfl⟩
 replace H : (spec_Clocks.l0 k a0 l1 y174 y178 0) = some r := by first | (rw [hy178]; with_reducible exact H) | (have H2_ := (Option.bind_some _ _).symm.trans H; rw [hy178]; with_reducible exact H2_) | (have H2_ := (Option.bind_some _ _).symm.trans H; with_reducible exact H2_) | with_reducible exact H | (rw [hy178]; exact H) | exact H
 have Ny178 := zM hy178
 clear hy178
 have H' := zM H
 clear H
 go_enter Try.func13, Try.ntmps13
 go_wp2_with (first | ((with_reducible refine gate_dst (N := 13) rfl ?_); refine Kd.S_lit (Kd.slice 3 (Kd.int .i64)) _ 29 ?hg (N := 13) ?hd (xs := ([] : List (List Int))) (inner := []) (ok := fun _ => True) (okp := fun _ => True) ?hr ?hp (fun _ hk => hk) trivial (Below.refl _ _) (Nat.le_refl _) (by simp) ?_; (case hd => rfl); (case hg => rfl); (case hr => exact zHH); (case hp => exact (Reps.none _ _)); intro v175 w5 ho6 hb hg_ hnew_; clear hg_ hnew_; (first | rw [← Ny174.1] at ho6 | (simp only [Int.reduceToNat] at ho6; rw [← Ny174.1] at ho6)); have HO176 := zM (Kd.S_lower ho6 (below_size zB1)); replace HB := zM (below_step zB1 hb); clear hb ho6) | ((with_reducible refine zG Try.func38 16 #[.int .i64 a0, .slice A1 l1.length c1] ?_); (with_reducible refine (spec_l20Whos.calls k a0 _ _ l1 true _ ?side1 ?side2 A3.1).mono ?_); (case side1 => exact zC (Kd.C_below HR1.1 HB.1)); (case side2 => exact HC1.1); rintro e w' ⟨rfl, ⟨nd, rfl⟩⟩; refine ⟨_, rfl, ?_⟩) | ((with_reducible refine gate_dst (N := 19) rfl ?_); refine Kd.S_lit (Kd.slice 3 (Kd.int .i64)) _ 29 ?hg (N := 19) ?hd (xs := ([] : List (List Int))) (inner := []) (ok := fun _ => True) (okp := fun _ => True) ?hr ?hp (fun _ hk => hk) trivial (Below.refl _ _) (Nat.le_refl _) (by simp) ?_; (case hd => rfl); (case hg => rfl); (case hr => exact zHH); (case hp => exact (Reps.none _ _)); intro v179 w7 ho8 hb hg_ hnew_; clear hg_ hnew_; (first | rw [← Ny178.1] at ho8 | (simp only [Int.reduceToNat] at ho8; rw [← Ny178.1] at ho8)); have HO180 := zM (Kd.S_lower (Kd.S_new' ho8 (Kd.S_lt (zS HO176.1))) (below_size zB1)); replace HO176 := zM (Kd.S_elder' (zS HO176.1) (Kd.S_base ho8) hb); replace HB := zM (below_step zB1 hb); clear hb ho8))
 go_loopg [6, 7] k (fun kq v6 v7 w' => ∃ (x6_1 : List (List Int)) (x7_1 : Int), v7 = .int .i64 x7_1 ∧ Aside0 (spec_Clocks.l0 kq a0 l1 y174 x6_1 x7_1 = some r) ∧ Aside0 (kq ≤ k) ∧ Aside0 (Kd.S (Kd.slice 3 (Kd.int .i64)) 29 w' w.heap.size (fun k_ => some k_ ≠ (v6 : Value).ownBlock) v175 y174) ∧ Aside0 (Kd.S (Kd.slice 3 (Kd.int .i64)) 29 w' w.heap.size (fun k_ => some k_ ≠ (v175 : Value).ownBlock) v6 x6_1) ∧ Aside0 (Below w.heap.size w w'))
 case atStart => exact ⟨(y178), (0), zJJ, H', ⟨Nat.le_refl _⟩, ⟨by refine zrS ?_; exact Kd.S_mono HO176.1 (fun _ hk => hk.2)⟩, ⟨by refine zrS ?_; exact Kd.S_mono HO180.1 (fun _ hk => hk.2)⟩, ⟨zB1⟩⟩
 case round =>
  clear H'
  try clear c1
  try clear p2
  try clear c3
  try clear c4
  obtain ⟨x6_1, x7_1, rfl, HA, HK1, HO_5, HO_6, HB⟩ := hrel
  cases gk with
  | zero => exact absurd HA.1 (by simp [spec_Clocks.l0])
  | succ k1 =>
   have H := HA.1
   clear HA
   simp only [spec_Clocks.l0] at H
   by_cases c9 : x7_1 < a0
   ·rw [if_pos c9] at H
    have c9b0 := decide_eq_true c9
    clear c9
    replace H := zO H
    obtain ⟨t181, A10, H⟩ := H
    replace H := zIn H
    obtain ⟨LMc11, H⟩ := H
    obtain ⟨y184, hy184⟩ : ∃ y_ : List (List Int), y_ = (x6_1 ++ [t181]) := ⟨_, rfl⟩
    replace H : (spec_Clocks.l0 k1 a0 l1 y174 y184 (wrap64 (x7_1 + 1))) = some r := by first | (rw [hy184]; with_reducible exact H) | (have H2_ := (Option.bind_some _ _).symm.trans H; rw [hy184]; with_reducible exact H2_) | (have H2_ := (Option.bind_some _ _).symm.trans H; with_reducible exact H2_) | with_reducible exact H | (rw [hy184]; exact H) | exact H
    have Ny184 := zM hy184
    clear hy184
    have H' := zM H
    clear H
    go_wp2_with (first | ((with_reducible refine zG Try.func39 27 #[.int .i64 a0] ?_); (with_reducible refine (spec_ClockNew.calls a0 t181 _ A10.1).mono ?_); rintro e w12 ⟨v182, rfl, ho0, hb⟩; refine ⟨_, rfl, ?_⟩; replace HO_5 := zM (Kd.S_elder' (zS HO_5.1) (Kd.R_base ho0) hb); replace HO_6 := zM (Kd.S_elder' (zS HO_6.1) (Kd.R_base ho0) hb); have HO183 := zM (Kd.R_lower ho0 (below_size zB1)); replace HB := zM (below_step zB1 hb); clear hb ho0; obtain ⟨Ao14, co14, eo14⟩ := Kd.R_slice HO183.1; subst eo14) | ((with_reducible refine gate_builtin (b := .append) (xs := #[.tmp 25, .tmp 28]) rfl ?_); at_builtin; refine Kd.S_append (Kd.slice 3 (Kd.int .i64)) (w0 := w) w.heap.size rfl (.tmp 25) (.tmp 28) 35 29 (.slice none 0 0) 24 rfl Try.underlying35 info29 rfl (by decide) (by omega) u6 x6_1 t181 [.slice Ao14 t181.length co14] (fun k_ => some k_ ≠ (v175 : Value).ownBlock) (fun k_ => some k_ = (.slice Ao14 t181.length co14 : Value).ownBlock) rfl rfl ?aP (fun k_ hk_ => ((Kd.R_mono (ok' := fun k_ => ((fun k_ => some k_ ≠ (v175 : Value).ownBlock)) k_ ∧ some k_ ≠ (u6 : Value).ownBlock) (Kd.R_apart' (Kd.R_apart' (HO183.1) (Kd.S_typed HO_5.1) (by decide)) (Kd.S_typed HO_6.1) (by decide)) (fun k_ hk => ⟨hk.1.2, hk.2⟩))).1 k_ hk_.symm) ?aF ?aO ?aB ?aS ?aL ?_; (case aP => exact Kd.M_row (Kd.R_mono (Kd.R_tight rfl (Kd.R_mono (ok' := fun k_ => ((fun k_ => some k_ ≠ (v175 : Value).ownBlock)) k_ ∧ some k_ ≠ (u6 : Value).ownBlock) (Kd.R_apart' (Kd.R_apart' (HO183.1) (Kd.S_typed HO_5.1) (by decide)) (Kd.S_typed HO_6.1) (by decide)) (fun k_ hk => ⟨hk.1.2, hk.2⟩))) (fun _ h_ => h_))); (case aB => exact zB1); (case aF => exact (fun k_ hk => Kd.fresh' (Kd.S_lt (zS HO_5.1)) k_ hk)); (case aO => exact (by refine zrS ?_; exact Kd.S_mono HO_6.1 (fun k_ hk => ⟨hk.1, fun e_ => hk.2 e_⟩))); (case aS => exact (below_size zB1)); (case aL => have := LMc11.out; omega); intro v185 w13 ho hb hg hat; rw [← Ny184.1] at ho; replace HO_5 := zM (Kd.S_after (ok := (fun k_ => some k_ ≠ (.slice Ao14 t181.length co14 : Value).ownBlock)) (by refine zrS ?_; exact Kd.S_mono HO_5.1 (fun _ hk => ⟨hk.2, hk.1⟩)) hg hat); replace HB := zM hb; have HO186 := zM ho; clear HO_6 HO183; clear ho hb hg hat))
    go_roundg k1
    case measure => have := HK1.1; omega
    case rel => exact ⟨(y184), (wrap64 (x7_1 + 1)), zJJ, H', ⟨by have := HK1.1; omega⟩, ⟨by refine zrS ?_; exact Kd.S_mono HO_5.1 (fun _ hk => hk.2)⟩, ⟨zS HO186.1⟩, ⟨zB1⟩⟩
   rw [if_neg c9] at H
   have c9b0 := decide_eq_false c9
   clear c9
   obtain ⟨y187, hy187⟩ : ∃ y_ : List Int, y_ = (([] : List Int)) := ⟨_, rfl⟩
   replace H : (spec_Clocks.l1 k1 l1 y174 x6_1 y187 0) = some r := by first | (rw [hy187]; with_reducible exact H) | (have H2_ := (Option.bind_some _ _).symm.trans H; rw [hy187]; with_reducible exact H2_) | (have H2_ := (Option.bind_some _ _).symm.trans H; with_reducible exact H2_) | with_reducible exact H | (rw [hy187]; exact H) | exact H
   have Ny187 := zM hy187
   clear hy187
   have H' := zM H
   clear H
   go_wp2_with (first | ((with_reducible refine gate_dst (N := 30) rfl ?_); refine Kd.R_lit (Kd.int .i64) _ 3 ?hg (N := 30) ?hd (xs := ([] : List Int)) (inner := []) (ok := fun _ => True) (okp := fun _ => True) ?hr ?hp (fun _ hk => hk) trivial (Below.refl _ _) (Nat.le_refl _) (by simp) ?_; (case hd => rfl); (case hg => rfl); (case hr => exact zHH); (case hp => exact (Reps.none _ _)); intro v188 w15 ho16 hb hg_ hnew_; clear hg_ hnew_; (first | rw [← Ny187.1] at ho16 | (simp only [Int.reduceToNat] at ho16; rw [← Ny187.1] at ho16)); replace HO_5 := zM (Kd.S_elder' (zS HO_5.1) (Kd.R_base ho16) hb); replace HO_6 := zM (Kd.S_elder' (zS HO_6.1) (Kd.R_base ho16) hb); have HO189 := zM (Kd.R_lower ho16 (below_size zB1)); replace HB := zM (below_step zB1 hb); clear hb ho16))
   go_loopg [5, 8, 9] k1 (fun kq v5 v8 v9 w' => ∃ (x5_2 : List (List Int)) (x6_2 : List (List Int)) (x8_2 : List Int) (x9_2 : Int), v9 = .int .i64 x9_2 ∧ Aside0 (spec_Clocks.l1 kq l1 x5_2 x6_2 x8_2 x9_2 = some r) ∧ Aside0 (kq ≤ k1) ∧ Aside0 (Kd.S (Kd.slice 3 (Kd.int .i64)) 29 w' w.heap.size (fun k_ => some k_ ≠ (u6 : Value).ownBlock ∧ some k_ ≠ (v8 : Value).ownBlock) v5 x5_2) ∧ Aside0 (Kd.S (Kd.slice 3 (Kd.int .i64)) 29 w' w.heap.size (fun k_ => some k_ ≠ (v5 : Value).ownBlock ∧ some k_ ≠ (v8 : Value).ownBlock) u6 x6_2) ∧ Aside0 (Kd.R (Kd.int .i64) 3 w' w.heap.size (fun _ => True) v8 x8_2) ∧ Aside0 (Below w.heap.size w w'))
   case atStart => exact ⟨(y174), (x6_1), (y187), (0), zJJ, H', ⟨Nat.le_refl _⟩, ⟨zS HO_5.1⟩, ⟨zS HO_6.1⟩, ⟨zR HO189.1⟩, ⟨zB1⟩⟩
   case round =>
    clear H'
    try clear c1
    try clear p2
    try clear c3
    try clear c4
    try clear p6
    try clear c9
    try clear c9b0
    try clear c11
    try clear c13
    try clear p2
    obtain ⟨x5_2, x6_2, x8_2, x9_2, rfl, HA, HK2, HO_5, HO_6, HO_8, HB⟩ := hrel
    cases gk with
    | zero => exact absurd HA.1 (by simp [spec_Clocks.l1])
    | succ k2 =>
     have H := HA.1
     clear HA
     simp only [spec_Clocks.l1] at H
     by_cases c17 : x9_2 < (l1.length : Int)
     rotate_left
     ·rw [if_neg c17] at H
      have c17b0 := decide_eq_false c17
      clear c17
      obtain rfl := Option.some.inj H
      go_wp2
      go_ret
      exact ⟨_, zE, by refine zrS ?_; exact Kd.S_mono HO_5.1 (fun _ hk => trivial), zB1⟩
     rw [if_pos c17] at H
     have c17b0 := decide_eq_true c17
     clear c17
     replace H := zIt H
     obtain ⟨c18b0, H⟩ := H
     obtain ⟨y192, hy192⟩ : ∃ y_ : List Int, y_ = (([] : List Int)) := ⟨_, rfl⟩
     replace H : (if 0 ≤ ((rd_T31 l1 x9_2).f0) then (if ((rd_T31 l1 x9_2).f0) < (x6_2.length : Int) then (if y192.length + (rd_L3 x6_2 ((rd_T31 l1 x9_2).f0)).length < 17592186044416 then (spec_Clocks.l2 k2 l1 x5_2 x6_2 x8_2 x9_2 (y192 ++ (rd_L3 x6_2 ((rd_T31 l1 x9_2).f0))) 0 ((rd_T31 l1 x9_2).f0) ((rd_T31 l1 x9_2).f1) ((rd_T31 l1 x9_2).f2) ((rd_T31 l1 x9_2).f3) ((rd_T31 l1 x9_2).f4)) else (none)) else (none)) else (none)) = some r := by first | (rw [hy192]; with_reducible exact H) | (have H2_ := (Option.bind_some _ _).symm.trans H; rw [hy192]; with_reducible exact H2_) | (have H2_ := (Option.bind_some _ _).symm.trans H; with_reducible exact H2_) | with_reducible exact H | (rw [hy192]; exact H) | exact H
     have Ny192 := zM hy192
     clear hy192
     replace H := zIt H
     obtain ⟨c19b0, H⟩ := H
     replace H := zIt H
     obtain ⟨c20b0, H⟩ := H
     replace H := zIn H
     obtain ⟨LMc21, H⟩ := H
     obtain ⟨y196, hy196⟩ : ∃ y_ : List Int, y_ = (y192 ++ (rd_L3 x6_2 ((rd_T31 l1 x9_2).f0))) := ⟨_, rfl⟩
     replace H : (spec_Clocks.l2 k2 l1 x5_2 x6_2 x8_2 x9_2 y196 0 ((rd_T31 l1 x9_2).f0) ((rd_T31 l1 x9_2).f1) ((rd_T31 l1 x9_2).f2) ((rd_T31 l1 x9_2).f3) ((rd_T31 l1 x9_2).f4)) = some r := by first | (rw [hy196]; with_reducible exact H) | (have H2_ := (Option.bind_some _ _).symm.trans H; rw [hy196]; with_reducible exact H2_) | (have H2_ := (Option.bind_some _ _).symm.trans H; with_reducible exact H2_) | with_reducible exact H | (rw [hy196]; exact H) | exact H
     have Ny196 := zM hy196
     clear hy196
     have H' := zM H
     clear H
     have p190 : 0 ≤ (x9_2 : Int) := zA
     have q190 : x9_2 < (l1.length : Int) := zA
     obtain ⟨ad190, e190, hx190_0, hx190_1, hx190_2, hx190_3, hx190_4⟩ := at_T31 HR1.1 x9_2 p190 q190
     cases e190
     replace hx190_0 := (HB.1.cell (World.block_lt_of_cell? w _ hx190_0)).trans hx190_0
     replace hx190_1 := (HB.1.cell (World.block_lt_of_cell? w _ hx190_1)).trans hx190_1
     replace hx190_2 := (HB.1.cell (World.block_lt_of_cell? w _ hx190_2)).trans hx190_2
     replace hx190_3 := (HB.1.cell (World.block_lt_of_cell? w _ hx190_3)).trans hx190_3
     replace hx190_4 := (HB.1.cell (World.block_lt_of_cell? w _ hx190_4)).trans hx190_4
     replace p190 := eq_true p190
     replace q190 := eq_true q190
     go_wp2_with (first | ((with_reducible refine zBx 10 31 #[.int .i64 0, .int .i64 0, .int .i64 0, .int .i64 0, .int .i64 0] ?_); intro gb191 hg w22 hbox hb; replace HO_5 := zM (Kd.S_below (zS HO_5.1) hb); replace HO_6 := zM (Kd.S_below (zS HO_6.1) hb); replace HO_8 := zM (Kd.R_below (zR HO_8.1) hb); have BK191 := zM hbox; have GE191 := zM (zW hg (below_size zB1)); replace HB := zM (below_step zB1 hb); clear hb hbox hg; have hcz23 := zc_5 (w := w22) BK191.1) | ((with_reducible refine gate_dst (N := 41) rfl ?_); refine Kd.R_lit (Kd.int .i64) _ 3 ?hg (N := 41) ?hd (xs := ([] : List Int)) (inner := []) (ok := fun _ => True) (okp := fun _ => True) ?hr ?hp (fun _ hk => hk) trivial (Below.refl _ _) (Nat.le_refl _) (by simp) ?_; (case hd => rfl); (case hg => rfl); (case hr => exact zHH); (case hp => exact (Reps.none _ _)); intro v193 w24 ho25 hb hg_ hnew_; clear hg_ hnew_; (first | rw [← Ny192.1] at ho25 | (simp only [Int.reduceToNat] at ho25; rw [← Ny192.1] at ho25)); replace HO_5 := zM (Kd.S_elder' (by refine zrS ?_; exact (Kd.S_mono (Kd.S_far (p := ⟨gb191, 4, none⟩) (Kd.S_far (p := ⟨gb191, 3, none⟩) (Kd.S_far (p := ⟨gb191, 2, none⟩) (Kd.S_far (p := ⟨gb191, 1, none⟩) (Kd.S_far (p := ⟨gb191, 0, none⟩) (Kd.S_types HO_5.1 BK191.1 (by decide)) (fun _ hk => hk.2) (.int .i64 ((rd_T31 l1 x9_2).f0))) (fun _ hk => hk.2) (.int .i64 ((rd_T31 l1 x9_2).f1))) (fun _ hk => hk.2) (.int .i64 ((rd_T31 l1 x9_2).f2))) (fun _ hk => hk.2) (.int .i64 ((rd_T31 l1 x9_2).f3))) (fun _ hk => hk.2) (.int .i64 ((rd_T31 l1 x9_2).f4))) (fun _ h_ => h_.1))) (Kd.R_base ho25) hb); replace HO_6 := zM (Kd.S_elder' (by refine zrS ?_; exact (Kd.S_mono (Kd.S_far (p := ⟨gb191, 4, none⟩) (Kd.S_far (p := ⟨gb191, 3, none⟩) (Kd.S_far (p := ⟨gb191, 2, none⟩) (Kd.S_far (p := ⟨gb191, 1, none⟩) (Kd.S_far (p := ⟨gb191, 0, none⟩) (Kd.S_types HO_6.1 BK191.1 (by decide)) (fun _ hk => hk.2) (.int .i64 ((rd_T31 l1 x9_2).f0))) (fun _ hk => hk.2) (.int .i64 ((rd_T31 l1 x9_2).f1))) (fun _ hk => hk.2) (.int .i64 ((rd_T31 l1 x9_2).f2))) (fun _ hk => hk.2) (.int .i64 ((rd_T31 l1 x9_2).f3))) (fun _ hk => hk.2) (.int .i64 ((rd_T31 l1 x9_2).f4))) (fun _ h_ => h_.1))) (Kd.R_base ho25) hb); have HO194 := zM (Kd.R_lower (Kd.R_new' ho25 (Kd.R_lt (by refine zrR ?_; exact (Kd.R_mono (Kd.R_far (p := ⟨gb191, 4, none⟩) (Kd.R_far (p := ⟨gb191, 3, none⟩) (Kd.R_far (p := ⟨gb191, 2, none⟩) (Kd.R_far (p := ⟨gb191, 1, none⟩) (Kd.R_far (p := ⟨gb191, 0, none⟩) (Kd.R_types HO_8.1 BK191.1 (by decide)) (fun _ hk => hk.2) (.int .i64 ((rd_T31 l1 x9_2).f0))) (fun _ hk => hk.2) (.int .i64 ((rd_T31 l1 x9_2).f1))) (fun _ hk => hk.2) (.int .i64 ((rd_T31 l1 x9_2).f2))) (fun _ hk => hk.2) (.int .i64 ((rd_T31 l1 x9_2).f3))) (fun _ hk => hk.2) (.int .i64 ((rd_T31 l1 x9_2).f4))) (fun _ h_ => h_.1))))) (below_size zB1)); replace HO_8 := zM (Kd.R_elder' (by refine zrR ?_; exact (Kd.R_mono (Kd.R_far (p := ⟨gb191, 4, none⟩) (Kd.R_far (p := ⟨gb191, 3, none⟩) (Kd.R_far (p := ⟨gb191, 2, none⟩) (Kd.R_far (p := ⟨gb191, 1, none⟩) (Kd.R_far (p := ⟨gb191, 0, none⟩) (Kd.R_types HO_8.1 BK191.1 (by decide)) (fun _ hk => hk.2) (.int .i64 ((rd_T31 l1 x9_2).f0))) (fun _ hk => hk.2) (.int .i64 ((rd_T31 l1 x9_2).f1))) (fun _ hk => hk.2) (.int .i64 ((rd_T31 l1 x9_2).f2))) (fun _ hk => hk.2) (.int .i64 ((rd_T31 l1 x9_2).f3))) (fun _ hk => hk.2) (.int .i64 ((rd_T31 l1 x9_2).f4))) (fun _ h_ => h_.1))) (Kd.R_base ho25) hb); replace BK191 := zM (blk_below (g := gb191) (o := .cells #[.int .i64 ((rd_T31 l1 x9_2).f0), .int .i64 ((rd_T31 l1 x9_2).f1), .int .i64 ((rd_T31 l1 x9_2).f2), .int .i64 ((rd_T31 l1 x9_2).f3), .int .i64 ((rd_T31 l1 x9_2).f4)] 31 (0, 0)) (by exact zp5 (zK BK191.1)) hb); replace HB := zM (below_step zB1 hb); clear hb ho25; have hcz26 := zc_5 (w := w24) BK191.1; obtain ⟨Ao27, co27, eo27⟩ := Kd.S_slice HO_6.1; subst eo27; have p195 : 0 ≤ (((rd_T31 l1 x9_2).f0) : Int) := zA; have q195 : ((rd_T31 l1 x9_2).f0) < (x6_2.length : Int) := zA; obtain ⟨ad195, A195_0, c195_0, e195, hx195_0, hl195_0, hi195_0⟩ := at_L3 (Kd.S_reads' HO_6.1).2.2 ((rd_T31 l1 x9_2).f0) p195 q195; cases e195; obtain ⟨ce195, hce195, hMe195, hcc195⟩ := Kd.S_get HO_6.1 [] ((rd_T31 l1 x9_2).f0) p195 (by first | exact q195 | exact zA | (have e_ := (Kd.S_reads' HO_6.1).1; omega)); obtain ⟨ve195_0, rfl, ge195_0⟩ := hMe195; have hv195_0 := hcc195 0 _ rfl; rw [Nat.add_zero, show ((Kd.slice 3 (Kd.int .i64))).sz = 1 from rfl, Nat.mul_one] at hv195_0; replace hv195_0 := Option.some.inj (hv195_0.symm.trans hx195_0); rw [hv195_0] at ge195_0; clear hv195_0 ge195_0; clear hcc195 hce195; have HR195_0 := zM hi195_0; clear hi195_0 hl195_0; replace p195 := eq_true p195; replace q195 := eq_true q195) | ((with_reducible refine gate_builtin (b := .append) (xs := #[.tmp 41, .tmp 46]) rfl ?_); at_builtin; refine Kd.R_append_rows (Kd.int .i64) (w0 := w) w.heap.size rfl (.tmp 41) (.tmp 46) 29 3 (.int .i64 0) 8 rfl Try.underlying29 info3 rfl (by decide) (by omega) v193 y192 (rd_L3 x6_2 ((rd_T31 l1 x9_2).f0)) _ _ _ (fun k_ => some k_ ≠ (u8 : Value).ownBlock) (fun _ => False) rfl rfl ?aO ?aR (fun _ _ h => h) (fun _ h => h.elim) ?aF ?aB ?aS ?aL ?_; (case aR => exact zC HR195_0.1); (case aB => exact zB1); (case aF => exact (fun k_ hk => Kd.fresh' (Kd.R_lt (zR HO_8.1)) k_ hk)); (case aO => exact (by refine zrR ?_; exact Kd.R_mono HO194.1 (fun _ hk => hk.2))); (case aS => exact (below_size zB1)); (case aL => have := LMc21.out; omega); intro v197 w28 ho hb hg hat; rw [← Ny196.1] at ho; replace HO_5 := zM (Kd.S_after (ok := (fun k_ => some k_ ≠ (.slice (some ad195) x6_2.length co27 : Value).ownBlock ∧ some k_ ≠ (u8 : Value).ownBlock)) (zS HO_5.1) hg hat); replace HO_6 := zM (Kd.S_after (ok := (fun k_ => some k_ ≠ (u5 : Value).ownBlock ∧ some k_ ≠ (u8 : Value).ownBlock)) (zS HO_6.1) hg hat); replace HO_8 := zM (Kd.R_after (ok := (fun _ => True)) (zR HO_8.1) hg hat); replace BK191 := zM (zg BK191.1 hg (Kd.R_ne HO194.1 BK191.1 (by decide))); replace HB := zM hb; have HO198 := zM ho; clear HO194; clear ho hb hg hat))
     go_loopg [11, 12] k2 (fun kq v11 v12 w' => ∃ (x11_3 : List Int) (x12_3 : Int), v12 = .int .i64 x12_3 ∧ Aside0 (spec_Clocks.l2 kq l1 x5_2 x6_2 x8_2 x9_2 x11_3 x12_3 ((rd_T31 l1 x9_2).f0) ((rd_T31 l1 x9_2).f1) ((rd_T31 l1 x9_2).f2) ((rd_T31 l1 x9_2).f3) ((rd_T31 l1 x9_2).f4) = some r) ∧ Aside0 (kq ≤ k2) ∧ Aside0 (Kd.S (Kd.slice 3 (Kd.int .i64)) 29 w' w.heap.size (fun k_ => some k_ ≠ ((.slice (some ad195) x6_2.length co27) : Value).ownBlock ∧ some k_ ≠ (u8 : Value).ownBlock ∧ some k_ ≠ (v11 : Value).ownBlock) u5 x5_2) ∧ Aside0 (Kd.S (Kd.slice 3 (Kd.int .i64)) 29 w' w.heap.size (fun k_ => some k_ ≠ (u5 : Value).ownBlock ∧ some k_ ≠ (u8 : Value).ownBlock ∧ some k_ ≠ (v11 : Value).ownBlock) (.slice (some ad195) x6_2.length co27) x6_2) ∧ Aside0 (Kd.R (Kd.int .i64) 3 w' w.heap.size (fun k_ => some k_ ≠ (v11 : Value).ownBlock) u8 x8_2) ∧ Aside0 (Kd.R (Kd.int .i64) 3 w' w.heap.size (fun k_ => some k_ ≠ (u8 : Value).ownBlock) v11 x11_3) ∧ Aside0 (w'.heap[gb191]? = some (.cells #[.int .i64 ((rd_T31 l1 x9_2).f0), .int .i64 ((rd_T31 l1 x9_2).f1), .int .i64 ((rd_T31 l1 x9_2).f2), .int .i64 ((rd_T31 l1 x9_2).f3), .int .i64 ((rd_T31 l1 x9_2).f4)] 31 (0, 0))) ∧ Aside0 (Below w.heap.size w w'))
     case atStart => exact ⟨(y196), (0), zJJ, H', ⟨Nat.le_refl _⟩, ⟨by refine zrS ?_; exact Kd.S_mono HO_5.1 (fun _ hk => ⟨hk.1.1, ⟨hk.1.2, hk.2⟩⟩)⟩, ⟨by refine zrS ?_; exact Kd.S_mono HO_6.1 (fun _ hk => ⟨hk.1.1, ⟨hk.1.2, hk.2⟩⟩)⟩, ⟨by refine zrR ?_; exact Kd.R_mono HO_8.1 (fun _ hk => hk.2)⟩, ⟨zR HO198.1⟩, ⟨zK BK191.1⟩, ⟨zB1⟩⟩
     case round =>
      clear H'
      try clear c1
      try clear p1
      try clear q1
      try clear hx1
      try clear c2
      try clear p2
      try clear c3
      try clear c4
      try clear p6
      try clear c9
      try clear c9b0
      try clear c11
      try clear c13
      try clear c17
      try clear c17b0
      try clear c18
      try clear c18b0
      try clear c19
      try clear c19b0
      try clear p19
      try clear q19
      try clear hx19
      try clear c20
      try clear c20b0
      try clear c21
      try clear hcz23
      try clear hcz26
      try clear hx190_0
      try clear hx190_1
      try clear hx190_2
      try clear hx190_3
      try clear hx190_4
      try clear hx195_0
      try clear p190
      try clear p195
      try clear p2
      try clear p6
      try clear q190
      try clear q195
      obtain ⟨x11_3, x12_3, rfl, HA, HK3, HO_5, HO_6, HO_8, HO_11, BK191, HB⟩ := hrel
      cases gk with
      | zero => exact absurd HA.1 (by simp [spec_Clocks.l2])
      | succ k3 =>
       have H := HA.1
       clear HA
       simp only [spec_Clocks.l2] at H
       have HC29 := zM H
       clear H
       go_upto_region 16 with (fail)
       go_cut [55] (fun v55 wc => ∃ (kq : Nat) (x55_28 : Bool), v55 = .bool x55_28 ∧ Aside0 (spec_Clocks.j3 kq l1 x5_2 x6_2 x8_2 x9_2 x11_3 x12_3 x55_28 ((rd_T31 l1 x9_2).f0) ((rd_T31 l1 x9_2).f1) ((rd_T31 l1 x9_2).f2) ((rd_T31 l1 x9_2).f3) ((rd_T31 l1 x9_2).f4) = some r) ∧ Aside0 (kq ≤ k3) ∧ Aside0 (Kd.S (Kd.slice 3 (Kd.int .i64)) 29 wc w.heap.size (fun k_ => some k_ ≠ ((.slice (some ad195) x6_2.length co27) : Value).ownBlock ∧ some k_ ≠ (u8 : Value).ownBlock ∧ some k_ ≠ (u11 : Value).ownBlock) u5 x5_2) ∧ Aside0 (Kd.S (Kd.slice 3 (Kd.int .i64)) 29 wc w.heap.size (fun k_ => some k_ ≠ (u5 : Value).ownBlock ∧ some k_ ≠ (u8 : Value).ownBlock ∧ some k_ ≠ (u11 : Value).ownBlock) (.slice (some ad195) x6_2.length co27) x6_2) ∧ Aside0 (Kd.R (Kd.int .i64) 3 wc w.heap.size (fun k_ => some k_ ≠ (u11 : Value).ownBlock) u8 x8_2) ∧ Aside0 (Kd.R (Kd.int .i64) 3 wc w.heap.size (fun k_ => some k_ ≠ (u8 : Value).ownBlock) u11 x11_3) ∧ Aside0 (wc.heap[gb191]? = some (.cells #[.int .i64 ((rd_T31 l1 x9_2).f0), .int .i64 ((rd_T31 l1 x9_2).f1), .int .i64 ((rd_T31 l1 x9_2).f2), .int .i64 ((rd_T31 l1 x9_2).f3), .int .i64 ((rd_T31 l1 x9_2).f4)] 31 (0, 0))) ∧ Aside0 (Below w.heap.size w wc))
       case first =>
        have H := HC29.1
        clear HC29
        by_cases c30 : x12_3 < (x8_2.length : Int)
        rotate_left
        ·rw [if_neg c30] at H
         have c30b0 := decide_eq_false c30
         clear c30
         (first | rw [c30b0] | (simp only [i64_w, i32_w]; rw [c30b0]) | skip)
         have H' := zM H
         clear H
         obtain ⟨Ao35, co35, eo35⟩ := Kd.R_slice HO_8.1
         subst eo35
         go_wp2
         go_meet
         case rel => exact ⟨_, (false), zJJ, H', ⟨by have := HK1.1; have := HK2.1; have := HK3.1; first | omega | exact Nat.le_refl _⟩, ⟨zS HO_5.1⟩, ⟨zS HO_6.1⟩, ⟨zR HO_8.1⟩, ⟨zR HO_11.1⟩, ⟨zK BK191.1⟩, ⟨zB1⟩⟩
        rw [if_pos c30] at H
        have c30b0 := decide_eq_true c30
        clear c30
        (first | rw [c30b0] | (simp only [i64_w, i32_w]; rw [c30b0]) | skip)
        replace H := zO H
        obtain ⟨t199, A31, H⟩ := H
        have H' := zM H
        clear H
        obtain ⟨Ao32, co32, eo32⟩ := Kd.R_slice HO_8.1
        subst eo32
        have hcz33 := zc_5 (w := wr) BK191.1
        go_wp2_with (first | (go_at_call 40; (with_reducible refine (spec_l20Swap.calls ((rd_T31 l1 x9_2).f0) ((rd_T31 l1 x9_2).f1) ((rd_T31 l1 x9_2).f2) ((rd_T31 l1 x9_2).f3) ((rd_T31 l1 x9_2).f4) t199 _ A31.1).mono ?_); rintro e w34 ⟨rfl, hb⟩; have n0_ := zM (Kd.S_below (zS HO_5.1) hb); have n1_ := zM (Kd.S_below (zS HO_6.1) hb); have n2_ := zM (Kd.R_below (zR HO_8.1) hb); have n3_ := zM (Kd.R_below (zR HO_11.1) hb); have n4_ := zM (zb BK191.1 hb); have n5_ := zM (below_step zB1 hb); clear HO_5; clear HO_6; clear HO_8; try clear HO_11; try clear BK191; clear HB; have HO_5 := n0_; have HO_6 := n1_; have HO_8 := n2_; have HO_11 := n3_; have BK191 := n4_; have HB := n5_; clear n0_ n1_ n2_ n3_ n4_ n5_; clear hb))
        go_meet
        case rel => exact ⟨_, (t199), zJJ, H', ⟨by have := HK1.1; have := HK2.1; have := HK3.1; first | omega | exact Nat.le_refl _⟩, ⟨zS HO_5.1⟩, ⟨zS HO_6.1⟩, ⟨zR HO_8.1⟩, ⟨zR HO_11.1⟩, ⟨zK BK191.1⟩, ⟨zB1⟩⟩
       case rest =>
        clear HC29
        try clear c1
        try clear p1
        try clear q1
        try clear hx1
        try clear c2
        try clear p2
        try clear c3
        try clear c4
        try clear p6
        try clear c9
        try clear c9b0
        try clear c11
        try clear c13
        try clear c17
        try clear c17b0
        try clear c18
        try clear c18b0
        try clear c19
        try clear c19b0
        try clear p19
        try clear q19
        try clear hx19
        try clear c20
        try clear c20b0
        try clear c21
        try clear c30
        try clear c30b0
        try clear hcz23
        try clear hcz26
        try clear hcz33
        try clear hx190_0
        try clear hx190_1
        try clear hx190_2
        try clear hx190_3
        try clear hx190_4
        try clear hx195_0
        try clear p1
        try clear p19
        try clear p190
        try clear p195
        try clear p2
        try clear p6
        try clear q1
        try clear q19
        try clear q190
        try clear q195
        obtain ⟨kq, x55_28, rfl, HA, HJ28, HO_5, HO_6, HO_8, HO_11, BK191, HB⟩ := hcut
        cases kq with
        | zero => exact absurd HA.1 (by simp [spec_Clocks.j3])
        | succ kj28 =>
         have H := HA.1
         clear HA
         simp only [spec_Clocks.j3] at H
         by_cases c36 : x55_28 = true
         ·subst c36
          rw [if_pos rfl] at H
          replace H := zIt H
          obtain ⟨c37b0, H⟩ := H
          replace H := zIt H
          obtain ⟨c38b0, H⟩ := H
          replace H := zIt H
          obtain ⟨c39b0, H⟩ := H
          replace H := zIt H
          obtain ⟨c40b0, H⟩ := H
          by_cases c41 : ((rd_T31 l1 (rd x8_2 x12_3)).f2) = ((rd_T31 l1 x9_2).f2)
          rotate_left
          ·rw [if_neg c41] at H
           have c41b0 : (((rd_T31 l1 (rd x8_2 x12_3)).f2) == ((rd_T31 l1 x9_2).f2)) = false := beq_eq_false_iff_ne.mpr c41
           have H' := zM H
           clear H
           try go_wp2
           replace HO_5 := zM (Kd.S_drew HO_5.1)
           replace HO_6 := zM (Kd.S_drew HO_6.1)
           replace HO_8 := zM (Kd.R_drew HO_8.1)
           replace HO_11 := zM (Kd.R_drew HO_11.1)
           replace BK191 := zM (blk_drew BK191.1)
           replace HB := zM (below_drew1 HB.1)
           obtain ⟨Ao50, co50, eo50⟩ := Kd.R_slice HO_8.1
           (first | subst eo50 | (injection eo50 with f1_ f2_ f3_; have f4_ := f1_.symm; have f5_ := f3_.symm; clear f1_ f2_ f3_; subst f4_; subst f5_))
           have p200 : 0 ≤ (x12_3 : Int) := zA
           have q200 : x12_3 < (x8_2.length : Int) := zA
           obtain ⟨ad200, e200, hx200_0⟩ := Kd.at_int (Kd.R_reads' HO_8.1).2.2 x12_3 p200 q200
           cases e200
           replace p200 := eq_true p200
           replace q200 := eq_true q200
           have p201 : 0 ≤ ((rd x8_2 x12_3) : Int) := zA
           have q201 : (rd x8_2 x12_3) < (l1.length : Int) := zA
           obtain ⟨ad201, e201, hx201_0, hx201_1, hx201_2, hx201_3, hx201_4⟩ := at_T31 HR1.1 (rd x8_2 x12_3) p201 q201
           have hw201_4 := hx201_4
           have hw201_3 := hx201_3
           have hw201_2 := hx201_2
           have hw201_1 := hx201_1
           have hw201_0 := hx201_0
           obtain rfl : ad190 = ad201 := (by injection e201)
           replace hx201_0 := (HB.1.cell (World.block_lt_of_cell? w _ hx201_0)).trans hx201_0
           replace hx201_1 := (HB.1.cell (World.block_lt_of_cell? w _ hx201_1)).trans hx201_1
           replace hx201_2 := (HB.1.cell (World.block_lt_of_cell? w _ hx201_2)).trans hx201_2
           replace hx201_3 := (HB.1.cell (World.block_lt_of_cell? w _ hx201_3)).trans hx201_3
           replace hx201_4 := (HB.1.cell (World.block_lt_of_cell? w _ hx201_4)).trans hx201_4
           replace p201 := eq_true p201
           replace q201 := eq_true q201
           refine start_ (n := 11) (S := fun w' => w'.cell? ⟨gb191, 0, none⟩ = some (.int .i64 ((rd_T31 l1 x9_2).f0)) ∧ w'.cell? ⟨gb191, 1, none⟩ = some (.int .i64 ((rd_T31 l1 x9_2).f1)) ∧ w'.cell? ⟨gb191, 2, none⟩ = some (.int .i64 ((rd_T31 l1 x9_2).f2)) ∧ w'.cell? ⟨gb191, 3, none⟩ = some (.int .i64 ((rd_T31 l1 x9_2).f3)) ∧ w'.cell? ⟨gb191, 4, none⟩ = some (.int .i64 ((rd_T31 l1 x9_2).f4)) ∧ w'.cell? (ad200.add (x12_3).toNat) = some (.int .i64 (rd x8_2 x12_3)) ∧ w'.cell? (ad190.add (((rd x8_2 x12_3)).toNat * 5)) = some (.int .i64 ((rd_T31 l1 (rd x8_2 x12_3)).f0)) ∧ w'.cell? ⟨(ad190.add (((rd x8_2 x12_3)).toNat * 5)).block, (ad190.add (((rd x8_2 x12_3)).toNat * 5)).off + 1, none⟩ = some (.int .i64 ((rd_T31 l1 (rd x8_2 x12_3)).f1)) ∧ w'.cell? ⟨(ad190.add (((rd x8_2 x12_3)).toNat * 5)).block, (ad190.add (((rd x8_2 x12_3)).toNat * 5)).off + 2, none⟩ = some (.int .i64 ((rd_T31 l1 (rd x8_2 x12_3)).f2)) ∧ w'.cell? ⟨(ad190.add (((rd x8_2 x12_3)).toNat * 5)).block, (ad190.add (((rd x8_2 x12_3)).toNat * 5)).off + 3, none⟩ = some (.int .i64 ((rd_T31 l1 (rd x8_2 x12_3)).f3)) ∧ w'.cell? ⟨(ad190.add (((rd x8_2 x12_3)).toNat * 5)).block, (ad190.add (((rd x8_2 x12_3)).toNat * 5)).off + 4, none⟩ = some (.int .i64 ((rd_T31 l1 (rd x8_2 x12_3)).f4))) (ds := []) zq4_0 (by kernel_rfl) rfl rfl ⟨(blk_cell BK191.1 0).trans rfl, (blk_cell BK191.1 1).trans rfl, (blk_cell BK191.1 2).trans rfl, (blk_cell BK191.1 3).trans rfl, (blk_cell BK191.1 4).trans rfl, hx200_0, ((HB.1.cell (World.block_lt_of_cell? w _ hw201_0)).trans hw201_0), ((HB.1.cell (World.block_lt_of_cell? w _ hw201_1)).trans hw201_1), ((HB.1.cell (World.block_lt_of_cell? w _ hw201_2)).trans hw201_2), ((HB.1.cell (World.block_lt_of_cell? w _ hw201_3)).trans hw201_3), ((HB.1.cell (World.block_lt_of_cell? w _ hw201_4)).trans hw201_4)⟩ (fun hHeld => ?_); refine with_tabW spec_Clocks.tab18 spec_Clocks.bits18 (fun HT_ HW_ => ?_)
           generalize wc.drew = w49 at HO_5 HO_6 HO_8 HO_11 BK191 HB hx200_0 hx201_0 hx201_1 hx201_2 hx201_3 hx201_4 hHeld ⊢
           refine zPu 0 ?_
           refine zPu 1 ?_
           refine zPu 2 ?_
           refine zPu 3 ?_
           refine zPu 8 ?_
           refine zTk11 4 hHeld ?_
           refine zPu 5 ?_
           refine zPu 6 ?_
           refine zTk11 7 hHeld ?_
           refine zTk11 9 hHeld ?_
           refine zPu 10 ?_
           refine done_ (done_of HT_.1 (by kernel_rfl)) ?_
           try go_wp2
           go_roundg kj28
           case measure => have := HK1.1; have := HK2.1; have := HK3.1; have := HJ28.1; omega
           case rel => exact ⟨(x11_3), (wrap64 (x12_3 + 1)), zJJ, H', ⟨by have := HK1.1; have := HK2.1; have := HK3.1; have := HJ28.1; omega⟩, ⟨zS HO_5.1⟩, ⟨zS HO_6.1⟩, ⟨zR HO_8.1⟩, ⟨zR HO_11.1⟩, ⟨zK BK191.1⟩, ⟨zB1⟩⟩
          rw [if_pos c41] at H
          have c41b0 : (((rd_T31 l1 (rd x8_2 x12_3)).f2) == ((rd_T31 l1 x9_2).f2)) = true := beq_iff_eq.mpr c41
          clear c41
          replace H := zIt H
          obtain ⟨c42b0, H⟩ := H
          replace H := zO H
          obtain ⟨t204, A43, H⟩ := H
          have H' := zM H
          clear H
          try go_wp2
          replace HO_5 := zM (Kd.S_drew HO_5.1)
          replace HO_6 := zM (Kd.S_drew HO_6.1)
          replace HO_8 := zM (Kd.R_drew HO_8.1)
          replace HO_11 := zM (Kd.R_drew HO_11.1)
          replace BK191 := zM (blk_drew BK191.1)
          replace HB := zM (below_drew1 HB.1)
          obtain ⟨Ao45, co45, eo45⟩ := Kd.R_slice HO_8.1
          (first | subst eo45 | (injection eo45 with f1_ f2_ f3_; have f4_ := f1_.symm; have f5_ := f3_.symm; clear f1_ f2_ f3_; subst f4_; subst f5_))
          have p200 : 0 ≤ (x12_3 : Int) := zA
          have q200 : x12_3 < (x8_2.length : Int) := zA
          obtain ⟨ad200, e200, hx200_0⟩ := Kd.at_int (Kd.R_reads' HO_8.1).2.2 x12_3 p200 q200
          cases e200
          replace p200 := eq_true p200
          replace q200 := eq_true q200
          have p201 : 0 ≤ ((rd x8_2 x12_3) : Int) := zA
          have q201 : (rd x8_2 x12_3) < (l1.length : Int) := zA
          obtain ⟨ad201, e201, hx201_0, hx201_1, hx201_2, hx201_3, hx201_4⟩ := at_T31 HR1.1 (rd x8_2 x12_3) p201 q201
          have hw201_4 := hx201_4
          have hw201_3 := hx201_3
          have hw201_2 := hx201_2
          have hw201_1 := hx201_1
          have hw201_0 := hx201_0
          obtain rfl : ad190 = ad201 := (by injection e201)
          replace hx201_0 := (HB.1.cell (World.block_lt_of_cell? w _ hx201_0)).trans hx201_0
          replace hx201_1 := (HB.1.cell (World.block_lt_of_cell? w _ hx201_1)).trans hx201_1
          replace hx201_2 := (HB.1.cell (World.block_lt_of_cell? w _ hx201_2)).trans hx201_2
          replace hx201_3 := (HB.1.cell (World.block_lt_of_cell? w _ hx201_3)).trans hx201_3
          replace hx201_4 := (HB.1.cell (World.block_lt_of_cell? w _ hx201_4)).trans hx201_4
          replace p201 := eq_true p201
          replace q201 := eq_true q201
          refine start_ (n := 11) (S := fun w' => w'.cell? ⟨gb191, 0, none⟩ = some (.int .i64 ((rd_T31 l1 x9_2).f0)) ∧ w'.cell? ⟨gb191, 1, none⟩ = some (.int .i64 ((rd_T31 l1 x9_2).f1)) ∧ w'.cell? ⟨gb191, 2, none⟩ = some (.int .i64 ((rd_T31 l1 x9_2).f2)) ∧ w'.cell? ⟨gb191, 3, none⟩ = some (.int .i64 ((rd_T31 l1 x9_2).f3)) ∧ w'.cell? ⟨gb191, 4, none⟩ = some (.int .i64 ((rd_T31 l1 x9_2).f4)) ∧ w'.cell? (ad200.add (x12_3).toNat) = some (.int .i64 (rd x8_2 x12_3)) ∧ w'.cell? (ad190.add (((rd x8_2 x12_3)).toNat * 5)) = some (.int .i64 ((rd_T31 l1 (rd x8_2 x12_3)).f0)) ∧ w'.cell? ⟨(ad190.add (((rd x8_2 x12_3)).toNat * 5)).block, (ad190.add (((rd x8_2 x12_3)).toNat * 5)).off + 1, none⟩ = some (.int .i64 ((rd_T31 l1 (rd x8_2 x12_3)).f1)) ∧ w'.cell? ⟨(ad190.add (((rd x8_2 x12_3)).toNat * 5)).block, (ad190.add (((rd x8_2 x12_3)).toNat * 5)).off + 2, none⟩ = some (.int .i64 ((rd_T31 l1 (rd x8_2 x12_3)).f2)) ∧ w'.cell? ⟨(ad190.add (((rd x8_2 x12_3)).toNat * 5)).block, (ad190.add (((rd x8_2 x12_3)).toNat * 5)).off + 3, none⟩ = some (.int .i64 ((rd_T31 l1 (rd x8_2 x12_3)).f3)) ∧ w'.cell? ⟨(ad190.add (((rd x8_2 x12_3)).toNat * 5)).block, (ad190.add (((rd x8_2 x12_3)).toNat * 5)).off + 4, none⟩ = some (.int .i64 ((rd_T31 l1 (rd x8_2 x12_3)).f4))) (ds := []) zq4_0 (by kernel_rfl) rfl rfl ⟨(blk_cell BK191.1 0).trans rfl, (blk_cell BK191.1 1).trans rfl, (blk_cell BK191.1 2).trans rfl, (blk_cell BK191.1 3).trans rfl, (blk_cell BK191.1 4).trans rfl, hx200_0, ((HB.1.cell (World.block_lt_of_cell? w _ hw201_0)).trans hw201_0), ((HB.1.cell (World.block_lt_of_cell? w _ hw201_1)).trans hw201_1), ((HB.1.cell (World.block_lt_of_cell? w _ hw201_2)).trans hw201_2), ((HB.1.cell (World.block_lt_of_cell? w _ hw201_3)).trans hw201_3), ((HB.1.cell (World.block_lt_of_cell? w _ hw201_4)).trans hw201_4)⟩ (fun hHeld => ?_); refine with_tabW spec_Clocks.tab18 spec_Clocks.bits18 (fun HT_ HW_ => ?_)
          generalize wc.drew = w44 at HO_5 HO_6 HO_8 HO_11 BK191 HB hx200_0 hx201_0 hx201_1 hx201_2 hx201_3 hx201_4 hHeld ⊢
          refine zPu 0 ?_
          refine zPu 1 ?_
          refine zPu 2 ?_
          refine zPu 3 ?_
          refine zPu 8 ?_
          refine zTk11 4 hHeld ?_
          refine zPu 5 ?_
          refine zPu 6 ?_
          refine zTk11 7 hHeld ?_
          refine zTk11 9 hHeld ?_
          refine zPu 10 ?_
          refine done_ (done_of HT_.1 (by kernel_rfl)) ?_
          have p202 : 0 ≤ (x12_3 : Int) := zA
          have q202 : x12_3 < (x8_2.length : Int) := zA
          obtain ⟨ad202, e202, hx202_0⟩ := Kd.at_int (Kd.R_reads' HO_8.1).2.2 x12_3 p202 q202
          obtain rfl : ad200 = ad202 := (by injection e202)
          obtain ⟨Ao46, co46, eo46⟩ := Kd.S_slice HO_5.1
          subst eo46
          have p203 : 0 ≤ ((rd x8_2 x12_3) : Int) := zA
          have q203 : (rd x8_2 x12_3) < (x5_2.length : Int) := zA
          obtain ⟨ad203, A203_0, c203_0, e203, hx203_0, hl203_0, hi203_0⟩ := at_L3 (Kd.S_reads' HO_5.1).2.2 (rd x8_2 x12_3) p203 q203
          cases e203
          obtain ⟨ce203, hce203, hMe203, hcc203⟩ := Kd.S_get HO_5.1 [] (rd x8_2 x12_3) p203 (by first | exact q203 | exact zA | (have e_ := (Kd.S_reads' HO_5.1).1; omega))
          obtain ⟨ve203_0, rfl, ge203_0⟩ := hMe203
          have hv203_0 := hcc203 0 _ rfl
          rw [Nat.add_zero, show ((Kd.slice 3 (Kd.int .i64))).sz = 1 from rfl, Nat.mul_one] at hv203_0
          replace hv203_0 := Option.some.inj (hv203_0.symm.trans hx203_0)
          rw [hv203_0] at ge203_0
          have HL203_0 := zM (show Kd.R (Kd.int .i64) 3 _ _ _ _ (rd_L3 x5_2 (rd x8_2 x12_3)) from ge203_0)
          clear hv203_0 ge203_0 hcc203 hce203
          have HR203_0 := zM hi203_0
          have HC203_0 := zM hl203_0
          clear hi203_0 hl203_0
          replace q203 := eq_true q203
          obtain ⟨Ao47, co47, eo47⟩ := Kd.R_slice HO_11.1
          subst eo47
          try go_wp2_with (first | ((with_reducible refine zG Try.func41 77 #[.slice Ao47 x11_3.length co47, .slice A203_0 (rd_L3 x5_2 (rd x8_2 x12_3)).length c203_0] ?_); (with_reducible refine (spec_ClockJoin.calls kj28 _ _ x11_3 _ _ (rd_L3 x5_2 (rd x8_2 x12_3)) t204 _ ?side1 ?side2 ?side3 ?side4 A43.1).mono ?_); (case side1 => exact zC (Kd.R_reads' HO_11.1).2.2); (case side2 => exact (Kd.R_reads' HO_11.1).2.1); (case side3 => exact zC HR203_0.1); (case side4 => exact HC203_0.1); rintro e w48 ⟨v205, rfl, ho0, hb⟩; refine ⟨_, rfl, ?_⟩; replace HO_5 := zM (Kd.S_elder' (zS HO_5.1) (Kd.R_base ho0) hb); replace HO_6 := zM (Kd.S_elder' (zS HO_6.1) (Kd.R_base ho0) hb); have HO206 := zM (Kd.R_lower (Kd.R_new' (Kd.R_new' (Kd.R_new' ho0 (Kd.R_lt (zR HO_8.1))) (Kd.R_lt (zR HO_11.1))) (Kd.R_lt (zR HL203_0.1))) (below_size zB1)); replace HO_8 := zM (Kd.R_elder' (zR HO_8.1) (Kd.R_base ho0) hb); replace BK191 := zM (zb BK191.1 hb); replace HB := zM (below_step zB1 hb); clear hb ho0))
          go_roundg kj28
          case measure => have := HK1.1; have := HK2.1; have := HK3.1; have := HJ28.1; omega
          case rel => exact ⟨(t204), (wrap64 (x12_3 + 1)), zJJ, H', ⟨by have := HK1.1; have := HK2.1; have := HK3.1; have := HJ28.1; omega⟩, ⟨by refine zrS ?_; exact Kd.S_mono HO_5.1 (fun _ hk => ⟨hk.1.1, ⟨hk.1.2.1, hk.2⟩⟩)⟩, ⟨by refine zrS ?_; exact Kd.S_mono HO_6.1 (fun _ hk => ⟨hk.1.1, ⟨hk.1.2.1, hk.2⟩⟩)⟩, ⟨by refine zrR ?_; exact Kd.R_mono HO_8.1 (fun _ hk => hk.2)⟩, ⟨by refine zrR ?_; exact Kd.R_mono HO206.1 (fun _ hk => hk.1.1.2)⟩, ⟨zK BK191.1⟩, ⟨zB1⟩⟩
         replace c36 := Bool.eq_false_iff.mpr c36
         subst c36
         rw [if_neg zF] at H
         replace H := zIt H
         obtain ⟨c51b0, H⟩ := H
         replace H := zIt H
         obtain ⟨c52b0, H⟩ := H
         obtain ⟨y208, hy208⟩ : ∃ y_ : List Int, y_ = (x11_3.set (((rd_T31 l1 x9_2).f0) : Int).toNat (wrap64 ((rd x11_3 ((rd_T31 l1 x9_2).f0)) + 1))) := ⟨_, rfl⟩
         replace H : ((spec_l20Swap.f ((rd_T31 l1 x9_2).f0) ((rd_T31 l1 x9_2).f1) ((rd_T31 l1 x9_2).f2) ((rd_T31 l1 x9_2).f3) ((rd_T31 l1 x9_2).f4)).bind fun t209 => (if t209 = true then (if x8_2.length < 17592186044416 then (if ((rd_T31 l1 x9_2).f0) < (x6_2.length : Int) then ((some (x6_2.set (((rd_T31 l1 x9_2).f0) : Int).toNat y208 : List (List Int))).bind fun y213 => ((some (([] : List Int) : List Int)).bind fun y214 => (if y214.length + (rd_L3 y213 ((rd_T31 l1 x9_2).f0)).length < 17592186044416 then (if x5_2.length < 5864062014805 then (spec_Clocks.l1 kj28 l1 (x5_2 ++ [(y214 ++ (rd_L3 y213 ((rd_T31 l1 x9_2).f0)))]) y213 (x8_2 ++ [x9_2]) (wrap64 (x9_2 + 1))) else (none)) else (none)))) else (none)) else (none)) else (if ((rd_T31 l1 x9_2).f0) < (x6_2.length : Int) then ((some (x6_2.set (((rd_T31 l1 x9_2).f0) : Int).toNat y208 : List (List Int))).bind fun y224 => ((some (([] : List Int) : List Int)).bind fun y225 => (if y225.length + (rd_L3 y224 ((rd_T31 l1 x9_2).f0)).length < 17592186044416 then (if x5_2.length < 5864062014805 then (spec_Clocks.l1 kj28 l1 (x5_2 ++ [(y225 ++ (rd_L3 y224 ((rd_T31 l1 x9_2).f0)))]) y224 x8_2 (wrap64 (x9_2 + 1))) else (none)) else (none)))) else (none)))) = some r := by first | (rw [hy208]; with_reducible exact H) | (have H2_ := (Option.bind_some _ _).symm.trans H; rw [hy208]; with_reducible exact H2_) | (have H2_ := (Option.bind_some _ _).symm.trans H; with_reducible exact H2_) | with_reducible exact H | (rw [hy208]; exact H) | exact H
         have Ny208 := zM hy208
         clear hy208
         replace H := zO H
         obtain ⟨t209, A54, H⟩ := H
         by_cases c55 : t209 = true
         rotate_left
         ·replace c55 := Bool.eq_false_iff.mpr c55
          subst c55
          rw [if_neg zF] at H
          replace H := zIt H
          obtain ⟨c76b0, H⟩ := H
          obtain ⟨y224, hy224⟩ : ∃ y_ : List (List Int), y_ = (x6_2.set (((rd_T31 l1 x9_2).f0) : Int).toNat y208) := ⟨_, rfl⟩
          replace H : ((some (([] : List Int) : List Int)).bind fun y225 => (if y225.length + (rd_L3 y224 ((rd_T31 l1 x9_2).f0)).length < 17592186044416 then (if x5_2.length < 5864062014805 then (spec_Clocks.l1 kj28 l1 (x5_2 ++ [(y225 ++ (rd_L3 y224 ((rd_T31 l1 x9_2).f0)))]) y224 x8_2 (wrap64 (x9_2 + 1))) else (none)) else (none))) = some r := by first | (rw [hy224]; with_reducible exact H) | (have H2_ := (Option.bind_some _ _).symm.trans H; rw [hy224]; with_reducible exact H2_) | (have H2_ := (Option.bind_some _ _).symm.trans H; with_reducible exact H2_) | with_reducible exact H | (rw [hy224]; exact H) | exact H
          have Ny224 := zM hy224
          clear hy224
          obtain ⟨y225, hy225⟩ : ∃ y_ : List Int, y_ = (([] : List Int)) := ⟨_, rfl⟩
          replace H : (if y225.length + (rd_L3 y224 ((rd_T31 l1 x9_2).f0)).length < 17592186044416 then (if x5_2.length < 5864062014805 then (spec_Clocks.l1 kj28 l1 (x5_2 ++ [(y225 ++ (rd_L3 y224 ((rd_T31 l1 x9_2).f0)))]) y224 x8_2 (wrap64 (x9_2 + 1))) else (none)) else (none)) = some r := by first | (rw [hy225]; with_reducible exact H) | (have H2_ := (Option.bind_some _ _).symm.trans H; rw [hy225]; with_reducible exact H2_) | (have H2_ := (Option.bind_some _ _).symm.trans H; with_reducible exact H2_) | with_reducible exact H | (rw [hy225]; exact H) | exact H
          have Ny225 := zM hy225
          clear hy225
          replace H := zIn H
          obtain ⟨LMc78, H⟩ := H
          obtain ⟨y229, hy229⟩ : ∃ y_ : List Int, y_ = (y225 ++ (rd_L3 y224 ((rd_T31 l1 x9_2).f0))) := ⟨_, rfl⟩
          replace H : (if x5_2.length < 5864062014805 then (spec_Clocks.l1 kj28 l1 (x5_2 ++ [y229]) y224 x8_2 (wrap64 (x9_2 + 1))) else (none)) = some r := by first | (rw [hy229]; with_reducible exact H) | (have H2_ := (Option.bind_some _ _).symm.trans H; rw [hy229]; with_reducible exact H2_) | (have H2_ := (Option.bind_some _ _).symm.trans H; with_reducible exact H2_) | with_reducible exact H | (rw [hy229]; exact H) | exact H
          have Ny229 := zM hy229
          clear hy229
          replace H := zIn H
          obtain ⟨LMc79, H⟩ := H
          obtain ⟨y232, hy232⟩ : ∃ y_ : List (List Int), y_ = (x5_2 ++ [y229]) := ⟨_, rfl⟩
          replace H : (spec_Clocks.l1 kj28 l1 y232 y224 x8_2 (wrap64 (x9_2 + 1))) = some r := by first | (rw [hy232]; with_reducible exact H) | (have H2_ := (Option.bind_some _ _).symm.trans H; rw [hy232]; with_reducible exact H2_) | (have H2_ := (Option.bind_some _ _).symm.trans H; with_reducible exact H2_) | with_reducible exact H | (rw [hy232]; exact H) | exact H
          have Ny232 := zM hy232
          clear hy232
          have H' := zM H
          clear H
          try go_wp2
          replace HO_5 := zM (Kd.S_drew HO_5.1)
          replace HO_6 := zM (Kd.S_drew HO_6.1)
          replace HO_8 := zM (Kd.R_drew HO_8.1)
          replace HO_11 := zM (Kd.R_drew HO_11.1)
          replace BK191 := zM (blk_drew BK191.1)
          replace HB := zM (below_drew1 HB.1)
          obtain ⟨Ao81, co81, eo81⟩ := Kd.R_slice HO_11.1
          (first | subst eo81 | (injection eo81 with f1_ f2_ f3_; have f4_ := f1_.symm; have f5_ := f3_.symm; clear f1_ f2_ f3_; subst f4_; subst f5_))
          have p207 : 0 ≤ (((rd_T31 l1 x9_2).f0) : Int) := zA
          have q207 : ((rd_T31 l1 x9_2).f0) < (x11_3.length : Int) := zA
          obtain ⟨ad207, e207, hx207_0⟩ := Kd.at_int (Kd.R_reads' HO_11.1).2.2 ((rd_T31 l1 x9_2).f0) p207 q207
          cases e207
          replace p207 := eq_true p207
          replace q207 := eq_true q207
          have p53 : 0 ≤ (((rd_T31 l1 x9_2).f0) : Int) := zA
          have q53 : (((rd_T31 l1 x9_2).f0) : Int) < ((x11_3.length : Int) : Int) := zA
          obtain ⟨go53, co53, eo53, gb53, gl53, cl53, HG53⟩ := Kd.R_form HO_11.1 (by omega)
          (first | cases eo53 | (injection eo53 with ea_ en_ ec_; (first | subst ea_ | (injection ea_ with ea_; subst ea_)); subst ec_; clear en_))
          have GB53 := zM gb53
          have GG53 := zM HG53
          clear gb53 gl53 HG53
          (first | simp only [add_plain] at hx207_0 | skip)
          obtain ⟨hx53_0, hf53_0⟩ := Kd.R_celln 0 HO_11.1 (((rd_T31 l1 x9_2).f0) : Int) p53 q53
          have HP82 := Kd.R_putn HO_11.1 (((rd_T31 l1 x9_2).f0) : Int) (wrap64 ((rd x11_3 ((rd_T31 l1 x9_2).f0)) + 1))
          rw [← Ny208.1] at HP82
          have HQ82 := zM HP82
          clear HP82
          refine start_ (n := 11) (S := fun w' => w'.cell? ⟨gb191, 0, none⟩ = some (.int .i64 ((rd_T31 l1 x9_2).f0)) ∧ w'.cell? ⟨gb191, 1, none⟩ = some (.int .i64 ((rd_T31 l1 x9_2).f1)) ∧ w'.cell? ⟨gb191, 2, none⟩ = some (.int .i64 ((rd_T31 l1 x9_2).f2)) ∧ w'.cell? ⟨gb191, 3, none⟩ = some (.int .i64 ((rd_T31 l1 x9_2).f3)) ∧ w'.cell? ⟨gb191, 4, none⟩ = some (.int .i64 ((rd_T31 l1 x9_2).f4)) ∧ w'.cell? ⟨go53, (((rd_T31 l1 x9_2).f0)).toNat, none⟩ = some (.int .i64 (rd x11_3 ((rd_T31 l1 x9_2).f0)))) (ds := [10]) zq4_0 (by kernel_rfl) rfl rfl ⟨(blk_cell BK191.1 0).trans rfl, (blk_cell BK191.1 1).trans rfl, (blk_cell BK191.1 2).trans rfl, (blk_cell BK191.1 3).trans rfl, (blk_cell BK191.1 4).trans rfl, hx207_0⟩ (fun hHeld => ?_); refine with_tabW spec_Clocks.tab20 spec_Clocks.bits20 (fun HT_ HW_ => ?_)
          generalize wc.drew = w80 at HO_5 HO_6 HO_8 HO_11 BK191 HB GG53 HQ82 hf53_0 hx207_0 hx53_0 hHeld ⊢
          refine zPu 0 ?_
          refine zPu 1 ?_
          refine zPu 3 ?_
          refine zPu 4 ?_
          refine zTk6 2 hHeld ?_
          refine zTk6 5 hHeld ?_
          refine zPu 6 ?_
          refine zTk6 7 hHeld ?_
          refine zPu 8 ?_
          refine zPu 9 ?_
          refine last_ (i := 10) (N := none) zq4_11 rfl rfl (one_of HT_.1 (by kernel_rfl)) (by decide) (fun K hK => ?_)
          refine skip_ (w1 := ?_) (by rfl) rfl ?_ ?_
          rotate_left
          ·go_simp
           rfl
          refine hK.out _ _ ?_
          clear hK K
          refine done_ (done_of HT_.1 (by kernel_rfl)) ?_
          have hnr_ := Kd.R_ne HO_11.1 BK191.1 (by decide)
          have hnb_ : gb191 ≠ go53 := fun e_ => hnr_ (congrArg some e_)
          have hnc_ : go53 ≠ gb191 := fun e_ => hnb_ e_.symm
          try go_wp2_with (first | ((with_reducible refine zG Try.func40 89 #[.agg #[.int .i64 ((rd_T31 l1 x9_2).f0), .int .i64 ((rd_T31 l1 x9_2).f1), .int .i64 ((rd_T31 l1 x9_2).f2), .int .i64 ((rd_T31 l1 x9_2).f3), .int .i64 ((rd_T31 l1 x9_2).f4)]] ?_); (with_reducible refine (spec_l20Swap.calls ((rd_T31 l1 x9_2).f0) ((rd_T31 l1 x9_2).f1) ((rd_T31 l1 x9_2).f2) ((rd_T31 l1 x9_2).f3) ((rd_T31 l1 x9_2).f4) false _ A54.1).mono ?_); rintro e w84 ⟨rfl, hb⟩; refine ⟨_, rfl, ?_⟩; replace HO_5 := zM (Kd.S_below (by refine zrS ?_; exact (Kd.S_mono (Kd.S_far (p := ⟨go53, (((rd_T31 l1 x9_2).f0) : Int).toNat, none⟩) (Kd.S_mono HO_5.1 (fun k_ hk => (⟨hk, fun e_ => hk.2.2 (by rw [e_]; rfl)⟩ : _ ∧ k_ ≠ go53))) (fun _ hk => hk.2) (.int .i64 (wrap64 ((rd x11_3 ((rd_T31 l1 x9_2).f0)) + 1)))) (fun _ h_ => h_.1))) hb); replace HO_6 := zM (Kd.S_below (by refine zrS ?_; exact (Kd.S_mono (Kd.S_far (p := ⟨go53, (((rd_T31 l1 x9_2).f0) : Int).toNat, none⟩) (Kd.S_mono HO_6.1 (fun k_ hk => (⟨hk, fun e_ => hk.2.2 (by rw [e_]; rfl)⟩ : _ ∧ k_ ≠ go53))) (fun _ hk => hk.2) (.int .i64 (wrap64 ((rd x11_3 ((rd_T31 l1 x9_2).f0)) + 1)))) (fun _ h_ => h_.1))) hb); replace HO_8 := zM (Kd.R_below (by refine zrR ?_; exact (Kd.R_mono (Kd.R_far (p := ⟨go53, (((rd_T31 l1 x9_2).f0) : Int).toNat, none⟩) (Kd.R_mono HO_8.1 (fun k_ hk => (⟨hk, fun e_ => hk (by rw [e_]; rfl)⟩ : _ ∧ k_ ≠ go53))) (fun _ hk => hk.2) (.int .i64 (wrap64 ((rd x11_3 ((rd_T31 l1 x9_2).f0)) + 1)))) (fun _ h_ => h_.1))) hb); replace BK191 := zM (blk_below (g := gb191) (o := .cells #[.int .i64 ((rd_T31 l1 x9_2).f0), .int .i64 ((rd_T31 l1 x9_2).f1), .int .i64 ((rd_T31 l1 x9_2).f2), .int .i64 ((rd_T31 l1 x9_2).f3), .int .i64 ((rd_T31 l1 x9_2).f4)] 31 (0, 0)) (by refine zP ?_; refine blk_far ?_ (by have h_ := Kd.R_ne HO_11.1 BK191.1 (by decide); intro e_; exact h_ (by rw [e_]; rfl)) _; refine zP ?_; exact BK191.1) hb); replace HO_11 := zM (Kd.R_below (zR HQ82.out) hb); replace HB := zM (below_step zB1 hb); clear hb; have hcz85 := zc_5 (w := w84) BK191.1; have p77 : 0 ≤ (((rd_T31 l1 x9_2).f0) : Int) := zA; have q77 : (((rd_T31 l1 x9_2).f0) : Int) < ((x6_2.length : Int) : Int) := zA; obtain ⟨go77, co77, eo77, gb77, gl77, cl77, HG77⟩ := Kd.S_form HO_6.1 (by omega); (first | cases eo77 | (injection eo77 with ea_ en_ ec_; (first | subst ea_ | (injection ea_ with ea_; subst ea_)); subst ec_; clear en_)); have GB77 := zM gb77; clear gb77 gl77 HG77; obtain ⟨_, ce77, hcl77, hM77, hcc77, hfr77, _, _⟩ := Kd.S_elem HO_6.1 [] (((rd_T31 l1 x9_2).f0) : Int) p77 q77; obtain ⟨ve77_0, rfl, ge77_0⟩ := hM77; have hx77_0 := hcc77 0 _ rfl; have hf77_0 := hfr77 0; (try simp only [show ((Kd.slice 3 (Kd.int .i64))).sz = 1 from rfl, Nat.mul_one, Nat.add_zero] at hx77_0); (try simp only [show ((Kd.slice 3 (Kd.int .i64))).sz = 1 from rfl, Nat.mul_one, Nat.add_zero] at hf77_0); clear hcl77 hcc77 hfr77; replace q77 := eq_true q77; have HX86 := zM (show Kd.S (Kd.slice 3 (Kd.int .i64)) 29 w84 w.heap.size (fun k_ => ((fun k_ => some k_ ≠ (u5 : Value).ownBlock ∧ some k_ ≠ (u8 : Value).ownBlock)) k_ ∧ ¬ ((fun k_ => some k_ = (.slice (some ⟨go53, 0, none⟩) x11_3.length co81 : Value).ownBlock)) k_) (.slice (some ⟨go77, 0, none⟩) x6_2.length co27) x6_2 from (by refine zrS ?_; exact Kd.S_mono HO_6.1 (fun k_ hk => ⟨⟨hk.1, hk.2.1⟩, fun e_ => hk.2.2 e_⟩))); obtain ⟨oki86, ce86, hcl86, hM86, hcc86, hfr86, hoki86, hH86⟩ := Kd.S_elem HX86.out [] (((rd_T31 l1 x9_2).f0) : Int) zA (by have h_ : (((rd_T31 l1 x9_2).f0) : Int) < ((x6_2.length : Int) : Int) := zA; first | exact h_ | (have e_ := (Kd.S_reads' HO_6.1).1; omega) | simpa using h_); obtain ⟨ve86_0, rfl, ge86_0⟩ := hM86; have HP86 := Kd.S_seg hH86 zA (by have h_ : (((rd_T31 l1 x9_2).f0) : Int) < ((x6_2.length : Int) : Int) := zA; first | exact h_ | (have e_ := (Kd.S_reads' HO_6.1).1; omega) | simpa using h_) (seg := [.slice (some ⟨go53, 0, none⟩) x11_3.length co81]) (j := 0) (show 1 ≤ 1 from by decide) (x' := y208) (Kd.M_row (Kd.R_mono (Kd.R_tight rfl (Kd.R_mono (ok' := fun k_ => ((fun k_ => some k_ ≠ (u5 : Value).ownBlock ∧ some k_ ≠ (u8 : Value).ownBlock)) k_ ∧ k_ ≠ go77) (Kd.R_apart' (Kd.R_apart' (HO_11.1) (Kd.S_typed HO_5.1) (by decide)) (Kd.S_typed HO_6.1) (by decide)) (fun k_ hk => ⟨⟨hk.1.2, hk.1.1⟩, fun e_ => (hk.2) (by rw [e_]; rfl)⟩))) (fun _ h_ => Or.inr (h_)))) (fun _ hk => hk) (fun k_ hk_ => ((Kd.R_mono (ok' := fun k_ => ((fun k_ => some k_ ≠ (u5 : Value).ownBlock ∧ some k_ ≠ (u8 : Value).ownBlock)) k_ ∧ k_ ≠ go77) (Kd.R_apart' (Kd.R_apart' (HO_11.1) (Kd.S_typed HO_5.1) (by decide)) (Kd.S_typed HO_6.1) (by decide)) (fun k_ hk => ⟨⟨hk.1.2, hk.1.1⟩, fun e_ => (hk.2) (by rw [e_]; rfl)⟩))).1 k_ hk_.symm); have hx86_0 := hcc86 0 _ rfl; (try simp only [show ((Kd.slice 3 (Kd.int .i64))).sz = 1 from rfl, Nat.mul_one, Nat.add_zero] at hx86_0); have hf86_0 := hfr86 0; (try simp only [show ((Kd.slice 3 (Kd.int .i64))).sz = 1 from rfl, Nat.mul_one, Nat.add_zero] at hf86_0); clear hcl86 hcc86 hfr86 hoki86 hH86; (try simp only [show ((Kd.slice 3 (Kd.int .i64))).sz = 1 from rfl, Nat.mul_one, Nat.add_zero] at HP86)) | ((with_reducible refine gate_store (t := 29) (p := 98) rfl ?_); refine store_event (t := 29) (p := 98) (v := ?vo_w87) (w1 := (w84.setCell ⟨go77, (((rd_T31 l1 x9_2).f0) : Int).toNat, none⟩ (.slice (some ⟨go53, 0, none⟩) x11_3.length co81))) ?hg ?ho ?hn ?hr ?_; (case ho => rfl); (case hg => rfl); (case hn => rfl); (case hr => exact zHH); intro w87 hw; have hg : w84.grownBy w87 (some go77) := (by rw [hw]; exact HP86.2); have hp_ : Kd.S (Kd.slice 3 (Kd.int .i64)) 29 w87 w.heap.size (fun k_ => some k_ ≠ (u5 : Value).ownBlock ∧ some k_ ≠ (u8 : Value).ownBlock) (.slice (some ⟨go77, 0, none⟩) x6_2.length co27) y224 := (by rw [hw, Ny224.1]; exact HP86.1); clear HP86; replace HO_5 := zM (Kd.S_after (v := (.slice (some ⟨go77, 0, none⟩) x6_2.length co27)) (v1 := (.slice (some ⟨go77, 0, none⟩) x6_2.length co27)) (ok := (fun k_ => some k_ ≠ (u8 : Value).ownBlock ∧ some k_ ≠ (.slice (some ⟨go53, 0, none⟩) x11_3.length co81 : Value).ownBlock)) (by refine zrS ?_; exact Kd.S_mono HO_5.1 (fun _ hk => ⟨⟨hk.2.1, hk.2.2⟩, hk.1⟩)) hg (.inl rfl)); replace HO_8 := zM (Kd.R_over' (v := (.slice (some ⟨go77, 0, none⟩) x6_2.length co27)) (zR HO_8.1) (Kd.S_typed HO_6.1) (by decide) hg); replace HO_6 := zM hp_; replace HB := zM ((by rw [hw]; exact below_set (HB.1) GB77.1 : Below w.heap.size w w87)); try clear HO_11; have HST_ := zM (show w87.cell? ⟨go77, (((rd_T31 l1 x9_2).f0) : Int).toNat, none⟩ = some (.slice (some ⟨go53, 0, none⟩) x11_3.length co81) by rw [hw]; first | exact World.cell?_setCell_same _ _ _ hx86_0 | exact World.cell?_setCell_same _ _ _ hx77_0); clear hg hw hp_) | ((with_reducible refine gate_dst (N := 100) rfl ?_); refine Kd.R_lit (Kd.int .i64) _ 3 ?hg (N := 100) ?hd (xs := ([] : List Int)) (inner := []) (ok := fun _ => True) (okp := fun _ => True) ?hr ?hp (fun _ hk => hk) trivial (Below.refl _ _) (Nat.le_refl _) (by simp) ?_; (case hd => rfl); (case hg => rfl); (case hr => exact zHH); (case hp => exact (Reps.none _ _)); intro v226 w88 ho89 hb hg_ hnew_; clear hg_ hnew_; (first | rw [← Ny225.1] at ho89 | (simp only [Int.reduceToNat] at ho89; rw [← Ny225.1] at ho89)); replace HO_5 := zM (Kd.S_elder' (zS HO_5.1) (Kd.R_base ho89) hb); replace HO_6 := zM (Kd.S_elder' (zS HO_6.1) (Kd.R_base ho89) hb); have HO227 := zM (Kd.R_lower (Kd.R_new' ho89 (Kd.R_lt (zR HO_8.1))) (below_size zB1)); replace HO_8 := zM (Kd.R_elder' (zR HO_8.1) (Kd.R_base ho89) hb); replace HB := zM (below_step zB1 hb); have hst_ := zM ((hb.cell (World.block_lt_of_cell? w87 _ HST_.out)).trans HST_.out); clear HST_; have HST_ := hst_; clear hst_; clear hb ho89; have p228 : 0 ≤ (((rd_T31 l1 x9_2).f0) : Int) := zA; have q228 : ((rd_T31 l1 x9_2).f0) < (y224.length : Int) := (by have h_ : (((rd_T31 l1 x9_2).f0) : Int) < ((x6_2.length : Int) : Int) := zA; first | (have e_ := (Kd.S_reads' HO_6.1).1; omega) | simpa only [Ny224.1, List.length_set] using h_); obtain ⟨ad228, A228_0, c228_0, e228, hx228_0, hl228_0, hi228_0⟩ := at_L3 (Kd.S_reads' HO_6.1).2.2 ((rd_T31 l1 x9_2).f0) p228 q228; obtain rfl : (⟨go77, 0, none⟩ : Addr) = ad228 := (by injection e228); obtain ⟨ce228, hce228, hMe228, hcc228⟩ := Kd.S_get HO_6.1 [] ((rd_T31 l1 x9_2).f0) p228 (by first | exact q228 | exact zA | (have e_ := (Kd.S_reads' HO_6.1).1; omega)); obtain ⟨ve228_0, rfl, ge228_0⟩ := hMe228; have hv228_0 := hcc228 0 _ rfl; rw [Nat.add_zero, show ((Kd.slice 3 (Kd.int .i64))).sz = 1 from rfl, Nat.mul_one] at hv228_0; replace hv228_0 := Option.some.inj (hv228_0.symm.trans hx228_0); rw [hv228_0] at ge228_0; clear hv228_0 ge228_0; clear hcc228 hce228; (first | simp only [add_plain] at hx228_0 | simp only [add_at] at hx228_0 | simp only [Addr.add, Nat.zero_add] at hx228_0 | skip); obtain ⟨rfl, hsn_, rfl⟩ : (some ⟨go53, 0, none⟩) = A228_0 ∧ x11_3.length = (rd_L3 y224 ((rd_T31 l1 x9_2).f0)).length ∧ co81 = c228_0 := Value.slice.inj (Option.some.inj (HST_.out.symm.trans hx228_0)); have HSN_ := zM hsn_; clear hsn_ HST_; have HR228_0 := zM hi228_0; clear hi228_0 hl228_0; skip) | ((with_reducible refine gate_builtin (b := .append) (xs := #[.tmp 100, .tmp 101]) rfl ?_); rw [HSN_.out]; at_builtin; refine Kd.R_append_rows (Kd.int .i64) (w0 := w) w.heap.size rfl (.tmp 100) (.tmp 101) 29 3 (.int .i64 0) 8 rfl Try.underlying29 info3 rfl (by decide) (by omega) v226 y225 (rd_L3 y224 ((rd_T31 l1 x9_2).f0)) _ _ _ (fun k_ => some k_ ≠ (u8 : Value).ownBlock) (fun _ => False) rfl rfl ?aO ?aR (fun _ _ h => h) (fun _ h => h.elim) ?aF ?aB ?aS ?aL ?_; (case aR => exact zC HR228_0.1); (case aB => exact zB1); (case aF => exact (fun k_ hk => Kd.fresh' (Kd.R_lt (zR HO_8.1)) k_ hk)); (case aO => exact (by refine zrR ?_; exact Kd.R_mono HO227.1 (fun _ hk => hk.2))); (case aS => exact (below_size zB1)); (case aL => have := LMc78.out; omega); intro v230 w91 ho hb hg hat; rw [← Ny229.1] at ho; replace HO_5 := zM (Kd.S_after (ok := (fun k_ => some k_ ≠ (.slice (some ⟨go77, 0, none⟩) x6_2.length co27 : Value).ownBlock ∧ some k_ ≠ (u8 : Value).ownBlock)) (by refine zrS ?_; exact Kd.S_mono HO_5.1 (fun _ hk => ⟨⟨hk.1.2, hk.1.1.1⟩, hk.2⟩)) hg hat); replace HO_6 := zM (Kd.S_after (ok := (fun k_ => some k_ ≠ (u5 : Value).ownBlock ∧ some k_ ≠ (u8 : Value).ownBlock)) (zS HO_6.1) hg hat); replace HO_8 := zM (Kd.R_after (ok := (fun _ => True)) (by refine zrR ?_; exact Kd.R_mono HO_8.1 (fun _ hk => ⟨trivial, hk.2⟩)) hg hat); replace HB := zM hb; have HO231 := zM ho; clear HO227; clear ho hb hg hat; obtain ⟨Ao93, co93, eo93⟩ := Kd.R_slice HO231.1; subst eo93) | ((with_reducible refine gate_builtin (b := .append) (xs := #[.tmp 99, .tmp 103]) rfl ?_); at_builtin; refine Kd.S_append (Kd.slice 3 (Kd.int .i64)) (w0 := w) w.heap.size rfl (.tmp 99) (.tmp 103) 35 29 (.slice none 0 0) 24 rfl Try.underlying35 info29 rfl (by decide) (by omega) u5 x5_2 y229 [.slice Ao93 y229.length co93] (fun k_ => some k_ ≠ (.slice (some ⟨go77, 0, none⟩) x6_2.length co27 : Value).ownBlock ∧ some k_ ≠ (u8 : Value).ownBlock) (fun k_ => some k_ = (.slice Ao93 y229.length co93 : Value).ownBlock) rfl rfl ?aP (fun k_ hk_ => ((Kd.R_mono (ok' := fun k_ => ((fun k_ => some k_ ≠ (.slice (some ⟨go77, 0, none⟩) x6_2.length co27 : Value).ownBlock ∧ some k_ ≠ (u8 : Value).ownBlock)) k_ ∧ some k_ ≠ (u5 : Value).ownBlock) (Kd.R_apart' (Kd.R_apart' (HO231.1) (Kd.S_typed HO_6.1) (by decide)) (Kd.S_typed HO_5.1) (by decide)) (fun k_ hk => ⟨⟨hk.1.2, hk.1.1⟩, hk.2⟩))).1 k_ hk_.symm) ?aF ?aO ?aB ?aS ?aL ?_; (case aP => exact Kd.M_row (Kd.R_mono (Kd.R_tight rfl (Kd.R_mono (ok' := fun k_ => ((fun k_ => some k_ ≠ (.slice (some ⟨go77, 0, none⟩) x6_2.length co27 : Value).ownBlock ∧ some k_ ≠ (u8 : Value).ownBlock)) k_ ∧ some k_ ≠ (u5 : Value).ownBlock) (Kd.R_apart' (Kd.R_apart' (HO231.1) (Kd.S_typed HO_6.1) (by decide)) (Kd.S_typed HO_5.1) (by decide)) (fun k_ hk => ⟨⟨hk.1.2, hk.1.1⟩, hk.2⟩))) (fun _ h_ => h_))); (case aB => exact zB1); (case aF => exact (fun k_ hk => ⟨Kd.fresh' (Kd.S_lt (zS HO_6.1)) k_ hk, Kd.fresh' (Kd.R_lt (zR HO_8.1)) k_ hk⟩)); (case aO => exact (by refine zrS ?_; exact Kd.S_mono HO_5.1 (fun k_ hk => ⟨⟨hk.1.1, hk.1.2⟩, fun e_ => hk.2 e_⟩))); (case aS => exact (below_size zB1)); (case aL => have := LMc79.out; omega); intro v233 w92 ho hb hg hat; rw [← Ny232.1] at ho; replace HO_6 := zM (Kd.S_after (ok := (fun k_ => some k_ ≠ (u8 : Value).ownBlock ∧ some k_ ≠ (.slice Ao93 y229.length co93 : Value).ownBlock)) (by refine zrS ?_; exact Kd.S_mono HO_6.1 (fun _ hk => ⟨⟨hk.1.2, hk.2⟩, hk.1.1⟩)) hg hat); replace HO_8 := zM (Kd.R_over' (zR HO_8.1) (Kd.S_typed (zS HO_5.1)) (by decide) hg); replace HB := zM hb; have HO234 := zM ho; clear HO_5 HO231; clear ho hb hg hat))
          go_roundg kj28
          case measure => have := HK1.1; have := HK2.1; have := HK3.1; have := HJ28.1; omega
          case rel => exact ⟨(y232), (y224), (x8_2), (wrap64 (x9_2 + 1)), zJJ, H', ⟨by have := HK1.1; have := HK2.1; have := HK3.1; have := HJ28.1; omega⟩, ⟨zS HO234.1⟩, ⟨by refine zrS ?_; exact Kd.S_mono HO_6.1 (fun _ hk => ⟨hk.2, hk.1.1⟩)⟩, ⟨by refine zrR ?_; exact Kd.R_mono HO_8.1 (fun _ hk => trivial)⟩, ⟨zB1⟩⟩
         subst c55
         rw [if_pos rfl] at H
         replace H := zIn H
         obtain ⟨LMc56, H⟩ := H
         obtain ⟨y210, hy210⟩ : ∃ y_ : List Int, y_ = (x8_2 ++ [x9_2]) := ⟨_, rfl⟩
         replace H : (if ((rd_T31 l1 x9_2).f0) < (x6_2.length : Int) then ((some (x6_2.set (((rd_T31 l1 x9_2).f0) : Int).toNat y208 : List (List Int))).bind fun y213 => ((some (([] : List Int) : List Int)).bind fun y214 => (if y214.length + (rd_L3 y213 ((rd_T31 l1 x9_2).f0)).length < 17592186044416 then (if x5_2.length < 5864062014805 then (spec_Clocks.l1 kj28 l1 (x5_2 ++ [(y214 ++ (rd_L3 y213 ((rd_T31 l1 x9_2).f0)))]) y213 y210 (wrap64 (x9_2 + 1))) else (none)) else (none)))) else (none)) = some r := by first | (rw [hy210]; with_reducible exact H) | (have H2_ := (Option.bind_some _ _).symm.trans H; rw [hy210]; with_reducible exact H2_) | (have H2_ := (Option.bind_some _ _).symm.trans H; with_reducible exact H2_) | with_reducible exact H | (rw [hy210]; exact H) | exact H
         have Ny210 := zM hy210
         clear hy210
         replace H := zIt H
         obtain ⟨c57b0, H⟩ := H
         obtain ⟨y213, hy213⟩ : ∃ y_ : List (List Int), y_ = (x6_2.set (((rd_T31 l1 x9_2).f0) : Int).toNat y208) := ⟨_, rfl⟩
         replace H : ((some (([] : List Int) : List Int)).bind fun y214 => (if y214.length + (rd_L3 y213 ((rd_T31 l1 x9_2).f0)).length < 17592186044416 then (if x5_2.length < 5864062014805 then (spec_Clocks.l1 kj28 l1 (x5_2 ++ [(y214 ++ (rd_L3 y213 ((rd_T31 l1 x9_2).f0)))]) y213 y210 (wrap64 (x9_2 + 1))) else (none)) else (none))) = some r := by first | (rw [hy213]; with_reducible exact H) | (have H2_ := (Option.bind_some _ _).symm.trans H; rw [hy213]; with_reducible exact H2_) | (have H2_ := (Option.bind_some _ _).symm.trans H; with_reducible exact H2_) | with_reducible exact H | (rw [hy213]; exact H) | exact H
         have Ny213 := zM hy213
         clear hy213
         obtain ⟨y214, hy214⟩ : ∃ y_ : List Int, y_ = (([] : List Int)) := ⟨_, rfl⟩
         replace H : (if y214.length + (rd_L3 y213 ((rd_T31 l1 x9_2).f0)).length < 17592186044416 then (if x5_2.length < 5864062014805 then (spec_Clocks.l1 kj28 l1 (x5_2 ++ [(y214 ++ (rd_L3 y213 ((rd_T31 l1 x9_2).f0)))]) y213 y210 (wrap64 (x9_2 + 1))) else (none)) else (none)) = some r := by first | (rw [hy214]; with_reducible exact H) | (have H2_ := (Option.bind_some _ _).symm.trans H; rw [hy214]; with_reducible exact H2_) | (have H2_ := (Option.bind_some _ _).symm.trans H; with_reducible exact H2_) | with_reducible exact H | (rw [hy214]; exact H) | exact H
         have Ny214 := zM hy214
         clear hy214
         replace H := zIn H
         obtain ⟨LMc59, H⟩ := H
         obtain ⟨y218, hy218⟩ : ∃ y_ : List Int, y_ = (y214 ++ (rd_L3 y213 ((rd_T31 l1 x9_2).f0))) := ⟨_, rfl⟩
         replace H : (if x5_2.length < 5864062014805 then (spec_Clocks.l1 kj28 l1 (x5_2 ++ [y218]) y213 y210 (wrap64 (x9_2 + 1))) else (none)) = some r := by first | (rw [hy218]; with_reducible exact H) | (have H2_ := (Option.bind_some _ _).symm.trans H; rw [hy218]; with_reducible exact H2_) | (have H2_ := (Option.bind_some _ _).symm.trans H; with_reducible exact H2_) | with_reducible exact H | (rw [hy218]; exact H) | exact H
         have Ny218 := zM hy218
         clear hy218
         replace H := zIn H
         obtain ⟨LMc60, H⟩ := H
         obtain ⟨y221, hy221⟩ : ∃ y_ : List (List Int), y_ = (x5_2 ++ [y218]) := ⟨_, rfl⟩
         replace H : (spec_Clocks.l1 kj28 l1 y221 y213 y210 (wrap64 (x9_2 + 1))) = some r := by first | (rw [hy221]; with_reducible exact H) | (have H2_ := (Option.bind_some _ _).symm.trans H; rw [hy221]; with_reducible exact H2_) | (have H2_ := (Option.bind_some _ _).symm.trans H; with_reducible exact H2_) | with_reducible exact H | (rw [hy221]; exact H) | exact H
         have Ny221 := zM hy221
         clear hy221
         have H' := zM H
         clear H
         try go_wp2
         replace HO_5 := zM (Kd.S_drew HO_5.1)
         replace HO_6 := zM (Kd.S_drew HO_6.1)
         replace HO_8 := zM (Kd.R_drew HO_8.1)
         replace HO_11 := zM (Kd.R_drew HO_11.1)
         replace BK191 := zM (blk_drew BK191.1)
         replace HB := zM (below_drew1 HB.1)
         obtain ⟨Ao62, co62, eo62⟩ := Kd.R_slice HO_11.1
         (first | subst eo62 | (injection eo62 with f1_ f2_ f3_; have f4_ := f1_.symm; have f5_ := f3_.symm; clear f1_ f2_ f3_; subst f4_; subst f5_))
         have p207 : 0 ≤ (((rd_T31 l1 x9_2).f0) : Int) := zA
         have q207 : ((rd_T31 l1 x9_2).f0) < (x11_3.length : Int) := zA
         obtain ⟨ad207, e207, hx207_0⟩ := Kd.at_int (Kd.R_reads' HO_11.1).2.2 ((rd_T31 l1 x9_2).f0) p207 q207
         cases e207
         replace p207 := eq_true p207
         replace q207 := eq_true q207
         have p53 : 0 ≤ (((rd_T31 l1 x9_2).f0) : Int) := zA
         have q53 : (((rd_T31 l1 x9_2).f0) : Int) < ((x11_3.length : Int) : Int) := zA
         obtain ⟨go53, co53, eo53, gb53, gl53, cl53, HG53⟩ := Kd.R_form HO_11.1 (by omega)
         (first | cases eo53 | (injection eo53 with ea_ en_ ec_; (first | subst ea_ | (injection ea_ with ea_; subst ea_)); subst ec_; clear en_))
         have GB53 := zM gb53
         have GG53 := zM HG53
         clear gb53 gl53 HG53
         (first | simp only [add_plain] at hx207_0 | skip)
         obtain ⟨hx53_0, hf53_0⟩ := Kd.R_celln 0 HO_11.1 (((rd_T31 l1 x9_2).f0) : Int) p53 q53
         have HP63 := Kd.R_putn HO_11.1 (((rd_T31 l1 x9_2).f0) : Int) (wrap64 ((rd x11_3 ((rd_T31 l1 x9_2).f0)) + 1))
         rw [← Ny208.1] at HP63
         have HQ63 := zM HP63
         clear HP63
         refine start_ (n := 11) (S := fun w' => w'.cell? ⟨gb191, 0, none⟩ = some (.int .i64 ((rd_T31 l1 x9_2).f0)) ∧ w'.cell? ⟨gb191, 1, none⟩ = some (.int .i64 ((rd_T31 l1 x9_2).f1)) ∧ w'.cell? ⟨gb191, 2, none⟩ = some (.int .i64 ((rd_T31 l1 x9_2).f2)) ∧ w'.cell? ⟨gb191, 3, none⟩ = some (.int .i64 ((rd_T31 l1 x9_2).f3)) ∧ w'.cell? ⟨gb191, 4, none⟩ = some (.int .i64 ((rd_T31 l1 x9_2).f4)) ∧ w'.cell? ⟨go53, (((rd_T31 l1 x9_2).f0)).toNat, none⟩ = some (.int .i64 (rd x11_3 ((rd_T31 l1 x9_2).f0)))) (ds := [10]) zq4_0 (by kernel_rfl) rfl rfl ⟨(blk_cell BK191.1 0).trans rfl, (blk_cell BK191.1 1).trans rfl, (blk_cell BK191.1 2).trans rfl, (blk_cell BK191.1 3).trans rfl, (blk_cell BK191.1 4).trans rfl, hx207_0⟩ (fun hHeld => ?_); refine with_tabW spec_Clocks.tab20 spec_Clocks.bits20 (fun HT_ HW_ => ?_)
         generalize wc.drew = w61 at HO_5 HO_6 HO_8 HO_11 BK191 HB GG53 HQ63 hf53_0 hx207_0 hx53_0 hHeld ⊢
         refine zPu 0 ?_
         refine zPu 1 ?_
         refine zPu 3 ?_
         refine zPu 4 ?_
         refine zTk6 2 hHeld ?_
         refine zTk6 5 hHeld ?_
         refine zPu 6 ?_
         refine zTk6 7 hHeld ?_
         refine zPu 8 ?_
         refine zPu 9 ?_
         refine last_ (i := 10) (N := none) zq4_11 rfl rfl (one_of HT_.1 (by kernel_rfl)) (by decide) (fun K hK => ?_)
         refine skip_ (w1 := ?_) (by rfl) rfl ?_ ?_
         rotate_left
         ·go_simp
          rfl
         refine hK.out _ _ ?_
         clear hK K
         refine done_ (done_of HT_.1 (by kernel_rfl)) ?_
         have hnr_ := Kd.R_ne HO_11.1 BK191.1 (by decide)
         have hnb_ : gb191 ≠ go53 := fun e_ => hnr_ (congrArg some e_)
         have hnc_ : go53 ≠ gb191 := fun e_ => hnb_ e_.symm
         try go_wp2_with (first | ((with_reducible refine zG Try.func40 89 #[.agg #[.int .i64 ((rd_T31 l1 x9_2).f0), .int .i64 ((rd_T31 l1 x9_2).f1), .int .i64 ((rd_T31 l1 x9_2).f2), .int .i64 ((rd_T31 l1 x9_2).f3), .int .i64 ((rd_T31 l1 x9_2).f4)]] ?_); (with_reducible refine (spec_l20Swap.calls ((rd_T31 l1 x9_2).f0) ((rd_T31 l1 x9_2).f1) ((rd_T31 l1 x9_2).f2) ((rd_T31 l1 x9_2).f3) ((rd_T31 l1 x9_2).f4) true _ A54.1).mono ?_); rintro e w65 ⟨rfl, hb⟩; refine ⟨_, rfl, ?_⟩; replace HO_5 := zM (Kd.S_below (by refine zrS ?_; exact (Kd.S_mono (Kd.S_far (p := ⟨go53, (((rd_T31 l1 x9_2).f0) : Int).toNat, none⟩) (Kd.S_mono HO_5.1 (fun k_ hk => (⟨hk, fun e_ => hk.2.2 (by rw [e_]; rfl)⟩ : _ ∧ k_ ≠ go53))) (fun _ hk => hk.2) (.int .i64 (wrap64 ((rd x11_3 ((rd_T31 l1 x9_2).f0)) + 1)))) (fun _ h_ => h_.1))) hb); replace HO_6 := zM (Kd.S_below (by refine zrS ?_; exact (Kd.S_mono (Kd.S_far (p := ⟨go53, (((rd_T31 l1 x9_2).f0) : Int).toNat, none⟩) (Kd.S_mono HO_6.1 (fun k_ hk => (⟨hk, fun e_ => hk.2.2 (by rw [e_]; rfl)⟩ : _ ∧ k_ ≠ go53))) (fun _ hk => hk.2) (.int .i64 (wrap64 ((rd x11_3 ((rd_T31 l1 x9_2).f0)) + 1)))) (fun _ h_ => h_.1))) hb); replace HO_8 := zM (Kd.R_below (by refine zrR ?_; exact (Kd.R_mono (Kd.R_far (p := ⟨go53, (((rd_T31 l1 x9_2).f0) : Int).toNat, none⟩) (Kd.R_mono HO_8.1 (fun k_ hk => (⟨hk, fun e_ => hk (by rw [e_]; rfl)⟩ : _ ∧ k_ ≠ go53))) (fun _ hk => hk.2) (.int .i64 (wrap64 ((rd x11_3 ((rd_T31 l1 x9_2).f0)) + 1)))) (fun _ h_ => h_.1))) hb); replace BK191 := zM (blk_below (g := gb191) (o := .cells #[.int .i64 ((rd_T31 l1 x9_2).f0), .int .i64 ((rd_T31 l1 x9_2).f1), .int .i64 ((rd_T31 l1 x9_2).f2), .int .i64 ((rd_T31 l1 x9_2).f3), .int .i64 ((rd_T31 l1 x9_2).f4)] 31 (0, 0)) (by refine zP ?_; refine blk_far ?_ (by have h_ := Kd.R_ne HO_11.1 BK191.1 (by decide); intro e_; exact h_ (by rw [e_]; rfl)) _; refine zP ?_; exact BK191.1) hb); replace HO_11 := zM (Kd.R_below (zR HQ63.out) hb); replace HB := zM (below_step zB1 hb); clear hb) | ((with_reducible refine gate_builtin (b := .append) (xs := #[.tmp 90, .tmp 92]) rfl ?_); at_builtin; refine Kd.R_append (Kd.int .i64) (w0 := w) w.heap.size rfl (.tmp 90) (.tmp 92) 29 3 (.int .i64 0) 8 rfl Try.underlying29 info3 rfl (by decide) (by omega) u8 x8_2 x9_2 [.int .i64 x9_2] (fun k_ => some k_ ≠ (.slice (some ⟨go53, 0, none⟩) x11_3.length co62 : Value).ownBlock) (fun _ => False) rfl rfl ?aP (fun _ hk => hk.elim) ?aF ?aO ?aB ?aS ?aL ?_; (case aP => exact rfl); (case aB => exact zB1); (case aF => exact (fun k_ hk => Kd.fresh' (Kd.R_lt (zR HO_11.1)) k_ hk)); (case aO => exact (zR HO_8.1)); (case aS => exact (below_size zB1)); (case aL => have := LMc56.out; omega); intro v211 w66 ho hb hg hat; rw [← Ny210.1] at ho; replace HO_5 := zM (Kd.S_after (ok := (fun k_ => some k_ ≠ (.slice (some ad195) x6_2.length co27 : Value).ownBlock ∧ some k_ ≠ (.slice (some ⟨go53, 0, none⟩) x11_3.length co62 : Value).ownBlock)) (by refine zrS ?_; exact Kd.S_mono HO_5.1 (fun _ hk => ⟨⟨hk.1, hk.2.2⟩, hk.2.1⟩)) hg hat); replace HO_6 := zM (Kd.S_after (ok := (fun k_ => some k_ ≠ (u5 : Value).ownBlock ∧ some k_ ≠ (.slice (some ⟨go53, 0, none⟩) x11_3.length co62 : Value).ownBlock)) (by refine zrS ?_; exact Kd.S_mono HO_6.1 (fun _ hk => ⟨⟨hk.1, hk.2.2⟩, hk.2.1⟩)) hg hat); replace HO_11 := zM (Kd.R_after (ok := (fun _ => True)) (by refine zrR ?_; exact Kd.R_mono HO_11.1 (fun _ hk => ⟨trivial, hk⟩)) hg hat); replace BK191 := zM (zg BK191.1 hg (Kd.R_ne HO_8.1 BK191.1 (by decide))); replace HB := zM hb; have HO212 := zM ho; clear HO_8; clear ho hb hg hat; have hcz67 := zc_5 (w := w66) BK191.1; have p58 : 0 ≤ (((rd_T31 l1 x9_2).f0) : Int) := zA; have q58 : (((rd_T31 l1 x9_2).f0) : Int) < ((x6_2.length : Int) : Int) := zA; obtain ⟨go58, co58, eo58, gb58, gl58, cl58, HG58⟩ := Kd.S_form HO_6.1 (by omega); (first | cases eo58 | (injection eo58 with ea_ en_ ec_; (first | subst ea_ | (injection ea_ with ea_; subst ea_)); subst ec_; clear en_)); have GB58 := zM gb58; clear gb58 gl58 HG58; (first | simp only [add_plain] at hx195_0 | skip); obtain ⟨_, ce58, hcl58, hM58, hcc58, hfr58, _, _⟩ := Kd.S_elem HO_6.1 [] (((rd_T31 l1 x9_2).f0) : Int) p58 q58; obtain ⟨ve58_0, rfl, ge58_0⟩ := hM58; have hx58_0 := hcc58 0 _ rfl; have hf58_0 := hfr58 0; (try simp only [show ((Kd.slice 3 (Kd.int .i64))).sz = 1 from rfl, Nat.mul_one, Nat.add_zero] at hx58_0); (try simp only [show ((Kd.slice 3 (Kd.int .i64))).sz = 1 from rfl, Nat.mul_one, Nat.add_zero] at hf58_0); clear hcl58 hcc58 hfr58; replace q58 := eq_true q58; have n_ := zM (Kd.S_mono (ok' := (fun k_ => some k_ ≠ (u5 : Value).ownBlock ∧ some k_ ≠ (.slice (some ⟨go53, 0, none⟩) x11_3.length co62 : Value).ownBlock ∧ some k_ ≠ (v211 : Value).ownBlock)) HO_6.1 (fun k_ hk => ⟨hk.1.1, ⟨hk.1.2, hk.2⟩⟩)); clear HO_6; have HO_6 := n_; clear n_; have HX68 := zM (show Kd.S (Kd.slice 3 (Kd.int .i64)) 29 w66 w.heap.size (fun k_ => ((fun k_ => some k_ ≠ (u5 : Value).ownBlock ∧ some k_ ≠ (v211 : Value).ownBlock)) k_ ∧ ¬ ((fun k_ => some k_ = (.slice (some ⟨go53, 0, none⟩) x11_3.length co62 : Value).ownBlock)) k_) (.slice (some ⟨go58, 0, none⟩) x6_2.length co27) x6_2 from (by refine zrS ?_; exact Kd.S_mono HO_6.1 (fun k_ hk => ⟨⟨hk.1, hk.2.2⟩, fun e_ => hk.2.1 e_⟩))); obtain ⟨oki68, ce68, hcl68, hM68, hcc68, hfr68, hoki68, hH68⟩ := Kd.S_elem HX68.out [] (((rd_T31 l1 x9_2).f0) : Int) zA (by have h_ : (((rd_T31 l1 x9_2).f0) : Int) < ((x6_2.length : Int) : Int) := zA; first | exact h_ | (have e_ := (Kd.S_reads' HO_6.1).1; omega) | simpa using h_); obtain ⟨ve68_0, rfl, ge68_0⟩ := hM68; have HP68 := Kd.S_seg hH68 zA (by have h_ : (((rd_T31 l1 x9_2).f0) : Int) < ((x6_2.length : Int) : Int) := zA; first | exact h_ | (have e_ := (Kd.S_reads' HO_6.1).1; omega) | simpa using h_) (seg := [.slice (some ⟨go53, 0, none⟩) x11_3.length co62]) (j := 0) (show 1 ≤ 1 from by decide) (x' := y208) (Kd.M_row (Kd.R_mono (Kd.R_tight rfl (Kd.R_mono (ok' := fun k_ => ((fun k_ => some k_ ≠ (u5 : Value).ownBlock ∧ some k_ ≠ (v211 : Value).ownBlock)) k_ ∧ k_ ≠ go58) (Kd.R_apart' (Kd.R_apart' (HO_11.1) (Kd.S_typed HO_5.1) (by decide)) (Kd.S_typed HO_6.1) (by decide)) (fun k_ hk => ⟨⟨hk.1.2, hk.1.1.2⟩, fun e_ => (hk.2) (by rw [e_]; rfl)⟩))) (fun _ h_ => Or.inr (h_)))) (fun _ hk => hk) (fun k_ hk_ => ((Kd.R_mono (ok' := fun k_ => ((fun k_ => some k_ ≠ (u5 : Value).ownBlock ∧ some k_ ≠ (v211 : Value).ownBlock)) k_ ∧ k_ ≠ go58) (Kd.R_apart' (Kd.R_apart' (HO_11.1) (Kd.S_typed HO_5.1) (by decide)) (Kd.S_typed HO_6.1) (by decide)) (fun k_ hk => ⟨⟨hk.1.2, hk.1.1.2⟩, fun e_ => (hk.2) (by rw [e_]; rfl)⟩))).1 k_ hk_.symm); have hx68_0 := hcc68 0 _ rfl; (try simp only [show ((Kd.slice 3 (Kd.int .i64))).sz = 1 from rfl, Nat.mul_one, Nat.add_zero] at hx68_0); have hf68_0 := hfr68 0; (try simp only [show ((Kd.slice 3 (Kd.int .i64))).sz = 1 from rfl, Nat.mul_one, Nat.add_zero] at hf68_0); clear hcl68 hcc68 hfr68 hoki68 hH68; (try simp only [show ((Kd.slice 3 (Kd.int .i64))).sz = 1 from rfl, Nat.mul_one, Nat.add_zero] at HP68)) | ((with_reducible refine gate_store (t := 29) (p := 98) rfl ?_); refine store_event (t := 29) (p := 98) (v := ?vo_w69) (w1 := (w66.setCell ⟨go58, (((rd_T31 l1 x9_2).f0) : Int).toNat, none⟩ (.slice (some ⟨go53, 0, none⟩) x11_3.length co62))) ?hg ?ho ?hn ?hr ?_; (case ho => rfl); (case hg => rfl); (case hn => rfl); (case hr => exact zHH); intro w69 hw; have hg : w66.grownBy w69 (some go58) := (by rw [hw]; exact HP68.2); have hp_ : Kd.S (Kd.slice 3 (Kd.int .i64)) 29 w69 w.heap.size (fun k_ => some k_ ≠ (u5 : Value).ownBlock ∧ some k_ ≠ (v211 : Value).ownBlock) (.slice (some ⟨go58, 0, none⟩) x6_2.length co27) y213 := (by rw [hw, Ny213.1]; exact HP68.1); clear HP68; replace HO_5 := zM (Kd.S_after (v := (.slice (some ⟨go58, 0, none⟩) x6_2.length co27)) (v1 := (.slice (some ⟨go58, 0, none⟩) x6_2.length co27)) (ok := (fun k_ => some k_ ≠ (.slice (some ⟨go53, 0, none⟩) x11_3.length co62 : Value).ownBlock ∧ some k_ ≠ (v211 : Value).ownBlock)) (by refine zrS ?_; exact Kd.S_mono HO_5.1 (fun _ hk => ⟨⟨hk.1.2, hk.2⟩, hk.1.1⟩)) hg (.inl rfl)); replace HO212 := zM (Kd.R_over' (v := (.slice (some ⟨go58, 0, none⟩) x6_2.length co27)) (zR HO212.1) (Kd.S_typed HO_6.1) (by decide) hg); replace HO_6 := zM hp_; replace HB := zM ((by rw [hw]; exact below_set (HB.1) GB58.1 : Below w.heap.size w w69)); try clear HO_11; have HST_ := zM (show w69.cell? ⟨go58, (((rd_T31 l1 x9_2).f0) : Int).toNat, none⟩ = some (.slice (some ⟨go53, 0, none⟩) x11_3.length co62) by rw [hw]; first | exact World.cell?_setCell_same _ _ _ hx68_0 | exact World.cell?_setCell_same _ _ _ hx58_0); clear hg hw hp_) | ((with_reducible refine gate_dst (N := 100) rfl ?_); refine Kd.R_lit (Kd.int .i64) _ 3 ?hg (N := 100) ?hd (xs := ([] : List Int)) (inner := []) (ok := fun _ => True) (okp := fun _ => True) ?hr ?hp (fun _ hk => hk) trivial (Below.refl _ _) (Nat.le_refl _) (by simp) ?_; (case hd => rfl); (case hg => rfl); (case hr => exact zHH); (case hp => exact (Reps.none _ _)); intro v215 w70 ho71 hb hg_ hnew_; clear hg_ hnew_; (first | rw [← Ny214.1] at ho71 | (simp only [Int.reduceToNat] at ho71; rw [← Ny214.1] at ho71)); replace HO_5 := zM (Kd.S_elder' (zS HO_5.1) (Kd.R_base ho71) hb); replace HO_6 := zM (Kd.S_elder' (zS HO_6.1) (Kd.R_base ho71) hb); have HO216 := zM (Kd.R_lower (Kd.R_new' ho71 (Kd.R_lt (zR HO212.1))) (below_size zB1)); replace HO212 := zM (Kd.R_elder' (zR HO212.1) (Kd.R_base ho71) hb); replace HB := zM (below_step zB1 hb); have hst_ := zM ((hb.cell (World.block_lt_of_cell? w69 _ HST_.out)).trans HST_.out); clear HST_; have HST_ := hst_; clear hst_; clear hb ho71; have p217 : 0 ≤ (((rd_T31 l1 x9_2).f0) : Int) := zA; have q217 : ((rd_T31 l1 x9_2).f0) < (y213.length : Int) := (by have h_ : (((rd_T31 l1 x9_2).f0) : Int) < ((x6_2.length : Int) : Int) := zA; first | (have e_ := (Kd.S_reads' HO_6.1).1; omega) | simpa only [Ny213.1, List.length_set] using h_); obtain ⟨ad217, A217_0, c217_0, e217, hx217_0, hl217_0, hi217_0⟩ := at_L3 (Kd.S_reads' HO_6.1).2.2 ((rd_T31 l1 x9_2).f0) p217 q217; obtain rfl : (⟨go58, 0, none⟩ : Addr) = ad217 := (by injection e217); obtain ⟨ce217, hce217, hMe217, hcc217⟩ := Kd.S_get HO_6.1 [] ((rd_T31 l1 x9_2).f0) p217 (by first | exact q217 | exact zA | (have e_ := (Kd.S_reads' HO_6.1).1; omega)); obtain ⟨ve217_0, rfl, ge217_0⟩ := hMe217; have hv217_0 := hcc217 0 _ rfl; rw [Nat.add_zero, show ((Kd.slice 3 (Kd.int .i64))).sz = 1 from rfl, Nat.mul_one] at hv217_0; replace hv217_0 := Option.some.inj (hv217_0.symm.trans hx217_0); rw [hv217_0] at ge217_0; clear hv217_0 ge217_0; clear hcc217 hce217; (first | simp only [add_plain] at hx217_0 | simp only [add_at] at hx217_0 | simp only [Addr.add, Nat.zero_add] at hx217_0 | skip); obtain ⟨rfl, hsn_, rfl⟩ : (some ⟨go53, 0, none⟩) = A217_0 ∧ x11_3.length = (rd_L3 y213 ((rd_T31 l1 x9_2).f0)).length ∧ co62 = c217_0 := Value.slice.inj (Option.some.inj (HST_.out.symm.trans hx217_0)); have HSN_ := zM hsn_; clear hsn_ HST_; have HR217_0 := zM hi217_0; clear hi217_0 hl217_0; skip) | ((with_reducible refine gate_builtin (b := .append) (xs := #[.tmp 100, .tmp 101]) rfl ?_); rw [HSN_.out]; at_builtin; refine Kd.R_append_rows (Kd.int .i64) (w0 := w) w.heap.size rfl (.tmp 100) (.tmp 101) 29 3 (.int .i64 0) 8 rfl Try.underlying29 info3 rfl (by decide) (by omega) v215 y214 (rd_L3 y213 ((rd_T31 l1 x9_2).f0)) _ _ _ (fun k_ => some k_ ≠ (v211 : Value).ownBlock) (fun _ => False) rfl rfl ?aO ?aR (fun _ _ h => h) (fun _ h => h.elim) ?aF ?aB ?aS ?aL ?_; (case aR => exact zC HR217_0.1); (case aB => exact zB1); (case aF => exact (fun k_ hk => Kd.fresh' (Kd.R_lt (zR HO212.1)) k_ hk)); (case aO => exact (by refine zrR ?_; exact Kd.R_mono HO216.1 (fun _ hk => hk.2))); (case aS => exact (below_size zB1)); (case aL => have := LMc59.out; omega); intro v219 w73 ho hb hg hat; rw [← Ny218.1] at ho; replace HO_5 := zM (Kd.S_after (ok := (fun k_ => some k_ ≠ (.slice (some ⟨go58, 0, none⟩) x6_2.length co27 : Value).ownBlock ∧ some k_ ≠ (v211 : Value).ownBlock)) (by refine zrS ?_; exact Kd.S_mono HO_5.1 (fun _ hk => ⟨⟨hk.1.2, hk.1.1.2⟩, hk.2⟩)) hg hat); replace HO_6 := zM (Kd.S_after (ok := (fun k_ => some k_ ≠ (u5 : Value).ownBlock ∧ some k_ ≠ (v211 : Value).ownBlock)) (zS HO_6.1) hg hat); replace HO212 := zM (Kd.R_after (ok := (fun _ => True)) (by refine zrR ?_; exact Kd.R_mono HO212.1 (fun _ hk => ⟨trivial, hk.2⟩)) hg hat); replace HB := zM hb; have HO220 := zM ho; clear HO216; clear ho hb hg hat; obtain ⟨Ao75, co75, eo75⟩ := Kd.R_slice HO220.1; subst eo75) | ((with_reducible refine gate_builtin (b := .append) (xs := #[.tmp 99, .tmp 103]) rfl ?_); at_builtin; refine Kd.S_append (Kd.slice 3 (Kd.int .i64)) (w0 := w) w.heap.size rfl (.tmp 99) (.tmp 103) 35 29 (.slice none 0 0) 24 rfl Try.underlying35 info29 rfl (by decide) (by omega) u5 x5_2 y218 [.slice Ao75 y218.length co75] (fun k_ => some k_ ≠ (.slice (some ⟨go58, 0, none⟩) x6_2.length co27 : Value).ownBlock ∧ some k_ ≠ (v211 : Value).ownBlock) (fun k_ => some k_ = (.slice Ao75 y218.length co75 : Value).ownBlock) rfl rfl ?aP (fun k_ hk_ => ((Kd.R_mono (ok' := fun k_ => ((fun k_ => some k_ ≠ (.slice (some ⟨go58, 0, none⟩) x6_2.length co27 : Value).ownBlock ∧ some k_ ≠ (v211 : Value).ownBlock)) k_ ∧ some k_ ≠ (u5 : Value).ownBlock) (Kd.R_apart' (Kd.R_apart' (HO220.1) (Kd.S_typed HO_6.1) (by decide)) (Kd.S_typed HO_5.1) (by decide)) (fun k_ hk => ⟨⟨hk.1.2, hk.1.1⟩, hk.2⟩))).1 k_ hk_.symm) ?aF ?aO ?aB ?aS ?aL ?_; (case aP => exact Kd.M_row (Kd.R_mono (Kd.R_tight rfl (Kd.R_mono (ok' := fun k_ => ((fun k_ => some k_ ≠ (.slice (some ⟨go58, 0, none⟩) x6_2.length co27 : Value).ownBlock ∧ some k_ ≠ (v211 : Value).ownBlock)) k_ ∧ some k_ ≠ (u5 : Value).ownBlock) (Kd.R_apart' (Kd.R_apart' (HO220.1) (Kd.S_typed HO_6.1) (by decide)) (Kd.S_typed HO_5.1) (by decide)) (fun k_ hk => ⟨⟨hk.1.2, hk.1.1⟩, hk.2⟩))) (fun _ h_ => h_))); (case aB => exact zB1); (case aF => exact (fun k_ hk => ⟨Kd.fresh' (Kd.S_lt (zS HO_6.1)) k_ hk, Kd.fresh' (Kd.R_lt (zR HO212.1)) k_ hk⟩)); (case aO => exact (by refine zrS ?_; exact Kd.S_mono HO_5.1 (fun k_ hk => ⟨⟨hk.1.1, hk.1.2⟩, fun e_ => hk.2 e_⟩))); (case aS => exact (below_size zB1)); (case aL => have := LMc60.out; omega); intro v222 w74 ho hb hg hat; rw [← Ny221.1] at ho; replace HO_6 := zM (Kd.S_after (ok := (fun k_ => some k_ ≠ (v211 : Value).ownBlock ∧ some k_ ≠ (.slice Ao75 y218.length co75 : Value).ownBlock)) (by refine zrS ?_; exact Kd.S_mono HO_6.1 (fun _ hk => ⟨⟨hk.1.2, hk.2⟩, hk.1.1⟩)) hg hat); replace HO212 := zM (Kd.R_over' (zR HO212.1) (Kd.S_typed (zS HO_5.1)) (by decide) hg); replace HB := zM hb; have HO223 := zM ho; clear HO_5 HO220; clear ho hb hg hat))
         go_roundg kj28
         case measure => have := HK1.1; have := HK2.1; have := HK3.1; have := HJ28.1; omega
         case rel => exact ⟨(y221), (y213), (y210), (wrap64 (x9_2 + 1)), zJJ, H', ⟨by have := HK1.1; have := HK2.1; have := HK3.1; have := HJ28.1; omega⟩, ⟨zS HO223.1⟩, ⟨by refine zrS ?_; exact Kd.S_mono HO_6.1 (fun _ hk => ⟨hk.2, hk.1.1⟩)⟩, ⟨by refine zrR ?_; exact Kd.R_mono HO212.1 (fun _ hk => trivial)⟩, ⟨zB1⟩⟩

end Go.Proofs.Ytgbjengnkbomoaa.PFnKnows
