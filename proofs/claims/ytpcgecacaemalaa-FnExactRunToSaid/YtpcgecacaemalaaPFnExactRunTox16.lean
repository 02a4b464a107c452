-- made by wip/tools/myprint.py out of the seat's translation
import Derived.Test.YtpcgecacaemalaaPFnExactRunTox0
import Derived.Test.YtpcgecacaemalaaPFnExactRunTox15
namespace Go.Proofs.Ytpcgecacaemalaa.PFnExactRunTo
open Go.RowKit Go.Proofs.YtpcgecacaemalaaW.PrintWords Go.Proofs.YtpcgecacaemalaaW.PrintLast Go.Proofs.YtpcgecacaemalaaW.PrintMore
attribute [local go_sem] max2_int min2_int max_two min_two max_three min_three max_four min_four   -- for this text's walks alone
set_option linter.unusedVariables false
set_option linter.unusedSimpArgs false
set_option maxHeartbeats 8000000
set_option maxRecDepth 100000

/-! ### laws_szHartS: function 20 -/
def laws_szHartS.l0 : Nat → List (S95) → Int → Int → Option (Int)
 | 0, _, _, _ => none
 | k + 1, x0, x1, x5 => if x5 < (x0.length : Int) then (if 0 ≤ x5 then ((laws_szHart.f ((rd_T95 x0 x5).f0) ((rd_T95 x0 x5).f1) ((rd_T95 x0 x5).f2) x1).bind fun t480 => (if t480 < 0 then (some (-1)) else (laws_szHartS.l0 k x0 t480 (wrap64 (x5 + 1))))) else (none)) else (some x1)
def laws_szHartS.f (k : Nat) (l0 : List (S95)) (a1 : Int) : Option (Int) := if (wrap64 (a1 - (l0.length : Int))) < 0 then (some (-1)) else (laws_szHartS.l0 k l0 (wrap64 (a1 - (l0.length : Int))) 0)
theorem laws_szHartS.mono_l : ∀ k, (∀ y0 y1 y2, LeO (laws_szHartS.l0 k y0 y1 y2) (laws_szHartS.l0 (k + 1) y0 y1 y2))
 | 0 => fun _ _ _ r h => by simp [laws_szHartS.l0] at h
 | k + 1 => by
  have ih0 := laws_szHartS.mono_l k
  ·intros
   unfold laws_szHartS.l0
   exact zL
theorem laws_szHartS.mono : ∀ a0 a1 k, LeO (laws_szHartS.f k a0 a1) (laws_szHartS.f (k + 1) a0 a1) := by
 intro a0 a1 k
 have ih0 := laws_szHartS.mono_l k
 unfold laws_szHartS.f
 exact zL
theorem laws_szHartS.calls (k : Nat) (A0 : Option Addr) (c0 : Nat) (l0 : List (S95)) (a1 : Int) (r : Int) (w : World) (hr0 : Kd.C k95 w A0 l0.length l0) (hc0 : l0.length ≤ c0) (h : laws_szHartS.f k l0 a1 = some r) :
  Calls Try.prog 20 #[.slice A0 l0.length c0, .int .i64 a1] w fun e w' => e = .returned (.int .i64 r) ∧ Below w.heap.size w w' := by
 have hu95 := Try.underlying95
 have HR0 := zM hr0
 have HC0 := zM hc0
 clear hr0 hc0
 have HB := zM (Below.refl w.heap.size w)
 unfold laws_szHartS.f at h
 have H := h
 clear h
 by_cases c3 : (wrap64 (a1 - (l0.length : Int))) < 0
 ·rw [if_pos c3] at H
  have c3b0 := decide_eq_true c3
  clear c3
  obtain rfl := Option.some.inj H
  go_enter Try.func20, Try.ntmps20
  go_wp2
  go_ret
  exact ⟨zE, zB1⟩
 rw [if_neg c3] at H
 have c3b0 := decide_eq_false c3
 clear c3
 have H' := zM H
 clear H
 go_enter Try.func20, Try.ntmps20
 go_wp2
 go_loopg [1, 5] k (fun kq v1 v5 w' => ∃ (x1_1 : Int) (x5_1 : Int), v1 = .int .i64 x1_1 ∧ v5 = .int .i64 x5_1 ∧ Aside0 (laws_szHartS.l0 kq l0 x1_1 x5_1 = some r) ∧ Aside0 (kq ≤ k) ∧ Aside0 (Below w.heap.size w w'))
 case atStart => exact ⟨(wrap64 (a1 - (l0.length : Int))), (0), zJJ, zJJ, H', ⟨Nat.le_refl _⟩, ⟨zB1⟩⟩
 case round =>
  clear H'
  obtain ⟨x1_1, x5_1, rfl, rfl, HA, HK1, HB⟩ := hrel
  cases gk with
  | zero => exact absurd HA.1 (by simp [laws_szHartS.l0])
  | succ k1 =>
   have H := HA.1
   clear HA
   simp only [laws_szHartS.l0] at H
   by_cases c4 : x5_1 < (l0.length : Int)
   rotate_left
   ·rw [if_neg c4] at H
    have c4b0 := decide_eq_false c4
    clear c4
    obtain rfl := Option.some.inj H
    go_wp2
    go_ret
    exact ⟨zE, zB1⟩
   rw [if_pos c4] at H
   have c4b0 := decide_eq_true c4
   clear c4
   replace H := zIt H
   obtain ⟨c5b0, H⟩ := H
   replace H := zO H
   obtain ⟨t480, A6, H⟩ := H
   by_cases c7 : t480 < 0
   ·rw [if_pos c7] at H
    have c7b0 := decide_eq_true c7
    clear c7
    obtain rfl := Option.some.inj H
    obtain ⟨p479, q479, ad479, A479_0, c479_0, e479, hx479_0, hx479_1, hx479_2, hl479_0, hi479_0⟩ := zRd (at_T95 HR0.1 x5_1)
    cases e479
    replace hx479_0 := zHx HB.1 hx479_0
    replace hx479_1 := zHx HB.1 hx479_1
    replace hx479_2 := zHx HB.1 hx479_2
    have HR479_0 := zM hi479_0
    have HC479_0 := zM hl479_0
    clear hi479_0 hl479_0
    go_wp2_with (first | ((with_reducible refine zG Try.func80 23 #[.agg #[.slice A479_0 ((rd_T95 l0 x5_1).f0).length c479_0, .int .i64 ((rd_T95 l0 x5_1).f1), .int .i64 ((rd_T95 l0 x5_1).f2)], .int .i64 x1_1] ?_); (with_reducible refine (laws_szHart.calls _ _ ((rd_T95 l0 x5_1).f0) ((rd_T95 l0 x5_1).f1) ((rd_T95 l0 x5_1).f2) x1_1 t480 _ ?side1 ?side2 A6.1).mono ?_); (case side1 => exact zC (Kd.C_below HR479_0.1 HB.1)); (case side2 => exact HC479_0.1); rintro e w8 ⟨rfl, hb⟩; refine ⟨_, rfl, ?_⟩; replace HB := zM (below_step zB1 hb); clear hb))
    go_ret
    exact ⟨zE, zB1⟩
   rw [if_neg c7] at H
   have c7b0 := decide_eq_false c7
   clear c7
   have H' := zM H
   clear H
   obtain ⟨p479, q479, ad479, A479_0, c479_0, e479, hx479_0, hx479_1, hx479_2, hl479_0, hi479_0⟩ := zRd (at_T95 HR0.1 x5_1)
   cases e479
   replace hx479_0 := zHx HB.1 hx479_0
   replace hx479_1 := zHx HB.1 hx479_1
   replace hx479_2 := zHx HB.1 hx479_2
   have HR479_0 := zM hi479_0
   have HC479_0 := zM hl479_0
   clear hi479_0 hl479_0
   go_wp2_with (first | ((with_reducible refine zG Try.func80 23 #[.agg #[.slice A479_0 ((rd_T95 l0 x5_1).f0).length c479_0, .int .i64 ((rd_T95 l0 x5_1).f1), .int .i64 ((rd_T95 l0 x5_1).f2)], .int .i64 x1_1] ?_); (with_reducible refine (laws_szHart.calls _ _ ((rd_T95 l0 x5_1).f0) ((rd_T95 l0 x5_1).f1) ((rd_T95 l0 x5_1).f2) x1_1 t480 _ ?side1 ?side2 A6.1).mono ?_); (case side1 => exact zC (Kd.C_below HR479_0.1 HB.1)); (case side2 => exact HC479_0.1); rintro e w9 ⟨rfl, hb⟩; refine ⟨_, rfl, ?_⟩; replace HB := zM (below_step zB1 hb); clear hb))
   go_roundg k1
   case measure => have := HK1.1; omega
   case rel => exact ⟨(t480), (wrap64 (x5_1 + 1)), zJJ, zJJ, H', ⟨by have := HK1.1; omega⟩, ⟨zB1⟩⟩

/-! ### laws_szWatch: function 21 -/
def laws_szWatch.f (l0_0 : List Int) (l0_1 : List Int) (a1 : Int) : Option (Int) := (laws_szIntS.f l0_0 a1).bind fun t482 => (if t482 < 0 then (some (-1)) else ((laws_szIntS.f l0_1 t482).bind fun t483 => (if t483 < 0 then (some (-1)) else (some t483))))
theorem laws_szWatch.calls (A0_0 : Option Addr) (c0_0 : Nat) (l0_0 : List Int) (A0_1 : Option Addr) (c0_1 : Nat) (l0_1 : List Int) (a1 : Int) (r : Int) (w : World) (hr0_0 : Kd.C (Kd.int .i64) w A0_0 l0_0.length l0_0) (hc0_0 : l0_0.length ≤ c0_0) (hr0_1 : Kd.C (Kd.int .i64) w A0_1 l0_1.length l0_1) (hc0_1 : l0_1.length ≤ c0_1) (h : laws_szWatch.f l0_0 l0_1 a1 = some r) :
  Calls Try.prog 21 #[.agg #[.slice A0_0 l0_0.length c0_0, .slice A0_1 l0_1.length c0_1], .int .i64 a1] w fun e w' => e = .returned (.int .i64 r) ∧ Below w.heap.size w w' := by
 have hu40 := Try.underlying40
 have HR0_0 := zM hr0_0
 have HC0_0 := zM hc0_0
 clear hr0_0 hc0_0
 have HR0_1 := zM hr0_1
 have HC0_1 := zM hc0_1
 clear hr0_1 hc0_1
 have HB := zM (Below.refl w.heap.size w)
 unfold laws_szWatch.f at h
 have H := h
 clear h
 replace H := zO H
 obtain ⟨t482, A3, H⟩ := H
 by_cases c4 : t482 < 0
 ·rw [if_pos c4] at H
  have c4b0 := decide_eq_true c4
  clear c4
  obtain rfl := Option.some.inj H
  go_enter Try.func21, Try.ntmps21
  go_wp2_with (first | ((with_reducible refine zBx 2 40 #[.slice A0_0 l0_0.length c0_0, .slice A0_1 l0_1.length c0_1] ?_); intro gb481 hg w5 hbox hb; have BK481 := zM hbox; have GW481 := zM (zW hg (below_size zB1)); have GE481 := zM (zW hg (below_size zB1)); replace HB := zM (below_step zB1 hb); clear hb hbox hg; have hcz6 := zc_2 (w := w5) BK481.1) | ((with_reducible refine zG Try.func81 8 #[.slice A0_0 l0_0.length c0_0, .int .i64 a1] ?_); (with_reducible refine (laws_szIntS.calls _ _ l0_0 a1 t482 _ ?side1 ?side2 A3.1).mono ?_); (case side1 => exact zC (Kd.C_below HR0_0.1 HB.1)); (case side2 => exact HC0_0.1); rintro e w' ⟨rfl, ⟨nd, rfl⟩⟩; refine ⟨_, rfl, ?_⟩))
  go_ret
  exact ⟨zE, zB1⟩
 rw [if_neg c4] at H
 have c4b0 := decide_eq_false c4
 clear c4
 replace H := zO H
 obtain ⟨t483, A7, H⟩ := H
 by_cases c8 : t483 < 0
 ·rw [if_pos c8] at H
  have c8b0 := decide_eq_true c8
  clear c8
  obtain rfl := Option.some.inj H
  go_enter Try.func21, Try.ntmps21
  go_wp2_with (first | ((with_reducible refine zBx 2 40 #[.slice A0_0 l0_0.length c0_0, .slice A0_1 l0_1.length c0_1] ?_); intro gb481 hg w9 hbox hb; have BK481 := zM hbox; have GW481 := zM (zW hg (below_size zB1)); have GE481 := zM (zW hg (below_size zB1)); replace HB := zM (below_step zB1 hb); clear hb hbox hg; have hcz10 := zc_2 (w := w9) BK481.1) | ((with_reducible refine zG Try.func81 8 #[.slice A0_0 l0_0.length c0_0, .int .i64 a1] ?_); (with_reducible refine (laws_szIntS.calls _ _ l0_0 a1 t482 _ ?side1 ?side2 A3.1).mono ?_); (case side1 => exact zC (Kd.C_below HR0_0.1 HB.1)); (case side2 => exact HC0_0.1); rintro e w' ⟨rfl, ⟨nd, rfl⟩⟩; refine ⟨_, rfl, ?_⟩) | ((with_reducible refine zG Try.func81 14 #[.slice A0_1 l0_1.length c0_1, .int .i64 t482] ?_); (with_reducible refine (laws_szIntS.calls _ _ l0_1 t482 t483 _ ?side1 ?side2 A7.1).mono ?_); (case side1 => repeat (first | exact (Kd.C_below HR0_1.1 zB1) | (with_reducible refine Kd.C_alloc ?_ _) | (with_reducible refine Kd.C_drewN ?_ _) | (with_reducible refine Kd.C_drew ?_))); (case side2 => exact HC0_1.1); rintro e w' ⟨rfl, ⟨nd, rfl⟩⟩; refine ⟨_, rfl, ?_⟩))
  go_ret
  exact ⟨zE, zB1⟩
 rw [if_neg c8] at H
 have c8b0 := decide_eq_false c8
 clear c8
 obtain rfl := Option.some.inj H
 go_enter Try.func21, Try.ntmps21
 go_wp2_with (first | ((with_reducible refine zBx 2 40 #[.slice A0_0 l0_0.length c0_0, .slice A0_1 l0_1.length c0_1] ?_); intro gb481 hg w11 hbox hb; have BK481 := zM hbox; have GW481 := zM (zW hg (below_size zB1)); have GE481 := zM (zW hg (below_size zB1)); replace HB := zM (below_step zB1 hb); clear hb hbox hg; have hcz12 := zc_2 (w := w11) BK481.1) | ((with_reducible refine zG Try.func81 8 #[.slice A0_0 l0_0.length c0_0, .int .i64 a1] ?_); (with_reducible refine (laws_szIntS.calls _ _ l0_0 a1 t482 _ ?side1 ?side2 A3.1).mono ?_); (case side1 => exact zC (Kd.C_below HR0_0.1 HB.1)); (case side2 => exact HC0_0.1); rintro e w' ⟨rfl, ⟨nd, rfl⟩⟩; refine ⟨_, rfl, ?_⟩) | ((with_reducible refine zG Try.func81 14 #[.slice A0_1 l0_1.length c0_1, .int .i64 t482] ?_); (with_reducible refine (laws_szIntS.calls _ _ l0_1 t482 t483 _ ?side1 ?side2 A7.1).mono ?_); (case side1 => repeat (first | exact (Kd.C_below HR0_1.1 zB1) | (with_reducible refine Kd.C_alloc ?_ _) | (with_reducible refine Kd.C_drewN ?_ _) | (with_reducible refine Kd.C_drew ?_))); (case side2 => exact HC0_1.1); rintro e w' ⟨rfl, ⟨nd, rfl⟩⟩; refine ⟨_, rfl, ?_⟩))
 go_ret
 exact ⟨zE, zB1⟩

/-! ### laws_toIntS: function 22 -/
def laws_toIntS.l0 : Nat → List Int → List Int → Int → Option (List Int)
 | 0, _, _, _ => none
 | k + 1, x0, x3, x4 => if x4 < (x0.length : Int) then (if 0 ≤ x4 then (if x4 < (x3.length : Int) then (laws_toIntS.l0 k x0 (x3.set (x4 : Int).toNat (rd x0 x4)) (wrap64 (x4 + 1))) else (none)) else (none)) else (some x3)
def laws_toIntS.f (k : Nat) (l0 : List Int) : Option (List Int) := if 0 ≤ (l0.length : Int) then (if ((l0.length : Int) : Int).toNat ≤ 35184372088832 then (laws_toIntS.l0 k l0 (List.replicate ((l0.length : Int) : Int).toNat 0) 0) else (none)) else (none)
theorem laws_toIntS.mono_l : ∀ k, (∀ y0 y1 y2, LeO (laws_toIntS.l0 k y0 y1 y2) (laws_toIntS.l0 (k + 1) y0 y1 y2))
 | 0 => fun _ _ _ r h => by simp [laws_toIntS.l0] at h
 | k + 1 => by
  have ih0 := laws_toIntS.mono_l k
  ·intros
   unfold laws_toIntS.l0
   exact zL
theorem laws_toIntS.mono : ∀ a0 k, LeO (laws_toIntS.f k a0) (laws_toIntS.f (k + 1) a0) := by
 intro a0 k
 have ih0 := laws_toIntS.mono_l k
 unfold laws_toIntS.f
 exact zL
theorem laws_toIntS.calls (k : Nat) (A0 : Option Addr) (c0 : Nat) (l0 : List Int) (r : List Int) (w : World) (hr0 : Kd.C (Kd.int .i64) w A0 l0.length l0) (hc0 : l0.length ≤ c0) (h : laws_toIntS.f k l0 = some r) :
  Calls Try.prog 22 #[.slice A0 l0.length c0] w fun e w' => ∃ v0_ : Value, e = .returned (v0_) ∧ Kd.R (Kd.int .i64) 3 w' w.heap.size (fun _ => True) v0_ r ∧ Below w.heap.size w w' := by
 have HR0 := zM hr0
 have HC0 := zM hc0
 clear hr0 hc0
 have HB := zM (Below.refl w.heap.size w)
 unfold laws_toIntS.f at h
 have H := h
 clear h
 replace H := zIp H
 obtain ⟨c2, H⟩ := H
 have c2b0 := eq_true c2
 have c2b1 : decide (0 ≤ (l0.length : Int)) = true := decide_eq_true c2
 clear c2
 replace H := zIp H
 obtain ⟨c3, H⟩ := H
 have c3b0 := eq_true c3
 have c3b1 : decide (((l0.length : Int) : Int).toNat ≤ 35184372088832) = true := decide_eq_true c3
 clear c3
 generalize hy484 : ((List.replicate ((l0.length : Int) : Int).toNat 0) : List Int) = y484 at H
 have Ny484 := zM hy484.symm
 clear hy484
 have H' := zM H
 clear H
 go_enter Try.func22, Try.ntmps22
 go_wp2_with (first | ((with_reducible refine gate_dst (N := 7) rfl ?_); refine Kd.R_make (Kd.int .i64) _ 3 rfl (N := 7) rfl 24 _ _ rfl (l0.length : Int) rfl rfl Try.underlying24 (.int .i64 0) 8 info3 rfl (by decide) (by omega) 0 (ok := fun _ => True) (okp := fun _ => True) rfl (fun _ hk => hk) trivial zA (Nat.le_trans (Nat.mul_le_mul_right _ (zA : (l0.length : Int).toNat ≤ 35184372088832)) (by omega)) (Below.refl _ _) (Nat.le_refl _) ?_; intro v485 w4 ho5 hb hg_ hnew_; clear hg_ hnew_; (first | rw [← Ny484.1] at ho5 | (simp only [Int.reduceToNat] at ho5; rw [← Ny484.1] at ho5)); have HO486 := zM (Kd.R_lower ho5 (below_size zB1)); replace HB := zM (below_step zB1 hb); clear hb ho5))
 go_loopg [4] k (fun kq v4 w' => ∃ (x3_1 : List Int) (x4_1 : Int), v4 = .int .i64 x4_1 ∧ Aside0 (laws_toIntS.l0 kq l0 x3_1 x4_1 = some r) ∧ Aside0 (kq ≤ k) ∧ Aside0 (Kd.R (Kd.int .i64) 3 w' w.heap.size (fun _ => True) v485 x3_1) ∧ Aside0 (Below w.heap.size w w'))
 case atStart => exact ⟨(y484), (0), zJJ, H', ⟨Nat.le_refl _⟩, ⟨zR HO486.1⟩, ⟨zB1⟩⟩
 case round =>
  clear H'
  obtain ⟨x3_1, x4_1, rfl, HA, HK1, HO_3, HB⟩ := hrel
  cases gk with
  | zero => exact absurd HA.1 (by simp [laws_toIntS.l0])
  | succ k1 =>
   have H := HA.1
   clear HA
   simp only [laws_toIntS.l0] at H
   by_cases c6 : x4_1 < (l0.length : Int)
   rotate_left
   ·rw [if_neg c6] at H
    have c6b0 := decide_eq_false c6
    clear c6
    obtain rfl := Option.some.inj H
    go_wp2
    go_ret
    exact ⟨_, zE, zR HO_3.1, zB1⟩
   rw [if_pos c6] at H
   have c6b0 := decide_eq_true c6
   clear c6
   replace H := zIt H
   obtain ⟨c7b0, H⟩ := H
   replace H := zIt H
   obtain ⟨c8b0, H⟩ := H
   generalize hy488 : ((x3_1.set (x4_1 : Int).toNat (rd l0 x4_1)) : List Int) = y488 at H
   have Ny488 := zM hy488.symm
   clear hy488
   have H' := zM H
   clear H
   obtain ⟨p487, q487, ad487, e487, hx487_0⟩ := zRd (Kd.at_int HR0.1 x4_1)
   cases e487
   replace hx487_0 := zHx HB.1 hx487_0
   have p9 : 0 ≤ (x4_1 : Int) := zA
   have q9 : (x4_1 : Int) < ((x3_1.length : Int) : Int) := zA
   obtain ⟨go9, co9, eo9, gb9, gl9, cl9, HG9⟩ := Kd.R_form HO_3.1 (by omega)
   (first | cases eo9 | (injection eo9 with ea_ en_ ec_; (first | subst ea_ | (injection ea_ with ea_; subst ea_)); subst ec_; clear en_))
   have GB9 := zM gb9
   have GG9 := zM HG9
   clear gb9 gl9 HG9
   obtain ⟨hx9_0, hf9_0⟩ := Kd.R_celln 0 HO_3.1 (x4_1 : Int) p9 q9
   replace p9 := eq_true p9
   replace q9 := eq_true q9
   have HP10 := Kd.R_putg HO_3.1 (x4_1 : Int) (rd l0 x4_1)
   go_wp2_with (first | ((with_reducible refine gate_store (t := 3) (p := 20) rfl ?_); refine store_event (t := 3) (p := 20) (v := ?vo_w11) (w1 := (wr.setCell ⟨go9, (x4_1 : Int).toNat, none⟩ (.int .i64 (rd l0 x4_1)))) ?hg ?ho ?hn ?hr ?_; (case ho => rfl); (case hg => rfl); (case hn => rfl); (case hr => exact zHH); intro w11 hw; have hg : wr.grownBy w11 (some go9) := (by rw [hw]; exact HP10.2); have hp_ : Kd.R (Kd.int .i64) 3 w11 w.heap.size (fun _ => True) (.slice (some ⟨go9, 0, none⟩) x3_1.length co9) y488 := (by rw [hw, Ny488.1]; exact HP10.1); clear HP10; replace HO_3 := zM hp_; replace HB := zM ((by rw [hw]; exact below_set (HB.1) GB9.1 : Below w.heap.size w w11)); clear hg hw hp_))
   go_roundg k1
   case measure => have := HK1.1; omega
   case rel => exact ⟨(y488), (wrap64 (x4_1 + 1)), zJJ, H', ⟨by have := HK1.1; omega⟩, ⟨zR HO_3.1⟩, ⟨zB1⟩⟩

/-! ### laws_toHart: function 82 -/
def laws_toHart.f (k : Nat) (l0_0 : List Int) (a0_1 : Int) (a0_2 : Int) : Option (List Int × Int × Int) := (laws_toIntS.f k l0_0).bind fun t492 => (some (t492, a0_1, a0_2))
theorem laws_toHart.mono : ∀ a0 a1 a2 k, LeO (laws_toHart.f k a0 a1 a2) (laws_toHart.f (k + 1) a0 a1 a2) := by
 intro a0 a1 a2 k
 unfold laws_toHart.f
 have mo0 := @laws_toIntS.mono
 exact zL
theorem laws_toHart.calls (k : Nat) (A0_0 : Option Addr) (c0_0 : Nat) (l0_0 : List Int) (a0_1 : Int) (a0_2 : Int) (r1 : List Int) (r2 : Int) (r3 : Int) (w : World) (hr0_0 : Kd.C (Kd.int .i64) w A0_0 l0_0.length l0_0) (hc0_0 : l0_0.length ≤ c0_0) (h : laws_toHart.f k l0_0 a0_1 a0_2 = some (r1, r2, r3)) :
  Calls Try.prog 82 #[.agg #[.slice A0_0 l0_0.length c0_0, .int .i64 a0_1, .int .i64 a0_2]] w fun e w' => ∃ v0_ : Value, e = .returned (.agg #[v0_, .int .i64 r2, .int .i64 r3]) ∧ Kd.R (Kd.int .i64) 3 w' w.heap.size (fun _ => True) v0_ r1 ∧ Below w.heap.size w w' := by
 have hu95 := Try.underlying95
 have hu53 := Try.underlying53
 have HR0_0 := zM hr0_0
 have HC0_0 := zM hc0_0
 clear hr0_0 hc0_0
 have HB := zM (Below.refl w.heap.size w)
 unfold laws_toHart.f at h
 have H := h
 clear h
 replace H := zO H
 obtain ⟨t492, A2, H⟩ := H
 simp only [Option.some.injEq, Prod.mk.injEq] at H
 obtain ⟨rfl, rfl, rfl⟩ := H
 go_enter Try.func82, Try.ntmps82
 go_wp2_with (first | ((with_reducible refine zBx 1 95 #[.slice A0_0 l0_0.length c0_0, .int .i64 a0_1, .int .i64 a0_2] ?_); intro gb489 hg w3 hbox hb; have BK489 := zM hbox; have GW489 := zM (zW hg (below_size zB1)); have GE489 := zM (zW hg (below_size zB1)); replace HB := zM (below_step zB1 hb); clear hb hbox hg) | ((with_reducible refine zBx 2 53 #[.slice none 0 0, .int .i64 0, .int .i64 0] ?_); intro gb490 hg w4 hbox hb; have BK490 := zM hbox; have GW490 := zM (zW hg (below_size zB1)); have GE490 := zM (zW hg (below_size zB1)); replace HB := zM (below_step zB1 hb); have NB489_490 := zM ((zn BK489.1 hg : gb489 ≠ gb490)); have NB490_489 := zM ((zm BK489.1 hg : gb490 ≠ gb489)); replace BK489 := zM (zb BK489.1 hb); clear hb hbox hg) | ((with_reducible refine zBx 3 53 #[.slice none 0 0, .int .i64 0, .int .i64 0] ?_); intro gb491 hg w5 hbox hb; have BK491 := zM hbox; have GW491 := zM (zW hg (below_size zB1)); have GE491 := zM (zW hg (below_size zB1)); replace HB := zM (below_step zB1 hb); have NB489_491 := zM ((zn BK489.1 hg : gb489 ≠ gb491)); have NB491_489 := zM ((zm BK489.1 hg : gb491 ≠ gb489)); replace BK489 := zM (zb BK489.1 hb); have NB490_491 := zM ((zn BK490.1 hg : gb490 ≠ gb491)); have NB491_490 := zM ((zm BK490.1 hg : gb491 ≠ gb490)); replace BK490 := zM (zb BK490.1 hb); clear hb hbox hg; have hnb6 := NB489_490.1; have hnc6 := NB490_489.1; have hnb7 := NB489_491.1; have hnc7 := NB491_489.1; have hcz8 := zc_3 (w := w5) BK489.1) | ((with_reducible refine zG Try.func22 6 #[.slice A0_0 l0_0.length c0_0] ?_); (with_reducible refine (laws_toIntS.calls k _ _ l0_0 t492 _ ?side1 ?side2 A2.1).mono ?_); (case side1 => exact zC (Kd.C_below HR0_0.1 HB.1)); (case side2 => exact HC0_0.1); rintro e w9 ⟨v493, rfl, ho0, hb⟩; refine ⟨_, rfl, ?_⟩; have HO494 := zM (Kd.R_lower ho0 (below_size zB1)); replace BK489 := zM (zb BK489.1 hb); replace BK490 := zM (zb BK490.1 hb); replace BK491 := zM (zb BK491.1 hb); replace HB := zM (below_step zB1 hb); clear hb ho0; obtain ⟨Ao10, co10, eo10⟩ := Kd.R_slice HO494.1; subst eo10; have hnb11 := NB491_490.1; have hnc11 := NB490_491.1; have hcz12 := zc_3 (w := w9) BK491.1; have hcz13 := zc_3 (w := w9) BK489.1; have hcz14 := zc_3 (w := w9) BK490.1))
 refine bodyPost_ret (results_cell_row rfl _ _ gb490 53 #[.slice Ao10 t492.length co10, .int .i64 a0_1, .int .i64 a0_2] (0, 0) _ rfl zPq Try.underlying53 rfl (by kernel_rfl)) rfl ?_
 exact ⟨_, zE, by refine zrR ?_; exact Kd.R_mono (zfR (zfR (zfR (zgR (zgR (zgR (Kd.R_types (Kd.R_types HO494.1 BK491.1 (by decide)) BK490.1 (by decide)))))))) (fun _ hk => trivial), zB1⟩

/-! ### laws_toHartS: function 23 -/
def laws_toHartS.l0 : Nat → List (S95) → List (S53) → Int → Option ((List (S53)))
 | 0, _, _, _ => none
 | k + 1, x0, x3, x4 => if x4 < (x0.length : Int) then (if 0 ≤ x4 then ((laws_toHart.f k ((rd_T95 x0 x4).f0) ((rd_T95 x0 x4).f1) ((rd_T95 x0 x4).f2)).bind fun bt499 => (if x4 < (x3.length : Int) then (laws_toHartS.l0 k x0 (x3.set (x4 : Int).toNat (⟨bt499.1, bt499.2.1, bt499.2.2⟩ : S53)) (wrap64 (x4 + 1))) else (none))) else (none)) else (some x3)
def laws_toHartS.f (k : Nat) (l0 : List (S95)) : Option ((List (S53))) := if 0 ≤ (l0.length : Int) then (if ((l0.length : Int) : Int).toNat ≤ 7036874417766 then (laws_toHartS.l0 k l0 (List.replicate ((l0.length : Int) : Int).toNat z53) 0) else (none)) else (none)
theorem laws_toHartS.mono_l : ∀ k, (∀ y0 y1 y2, LeO (laws_toHartS.l0 k y0 y1 y2) (laws_toHartS.l0 (k + 1) y0 y1 y2))
 | 0 => fun _ _ _ r h => by simp [laws_toHartS.l0] at h
 | k + 1 => by
  have ih0 := laws_toHartS.mono_l k
  ·intros
   unfold laws_toHartS.l0
   have mo0 := @laws_toHart.mono
   exact zL
theorem laws_toHartS.mono : ∀ a0 k, LeO (laws_toHartS.f k a0) (laws_toHartS.f (k + 1) a0) := by
 intro a0 k
 have ih0 := laws_toHartS.mono_l k
 unfold laws_toHartS.f
 have mo0 := @laws_toHart.mono
 exact zL
theorem laws_toHartS.calls (k : Nat) (A0 : Option Addr) (c0 : Nat) (l0 : List (S95)) (r : List (S53)) (w : World) (hr0 : Kd.C k95 w A0 l0.length l0) (hc0 : l0.length ≤ c0) (h : laws_toHartS.f k l0 = some r) :
  Calls Try.prog 23 #[.slice A0 l0.length c0] w fun e w' => ∃ v0_ : Value, e = .returned (v0_) ∧ Kd.S k53 53 w' w.heap.size (fun _ => True) v0_ r ∧ Below w.heap.size w w' := by
 have hu95 := Try.underlying95
 have hu53 := Try.underlying53
 have HR0 := zM hr0
 have HC0 := zM hc0
 clear hr0 hc0
 have HB := zM (Below.refl w.heap.size w)
 unfold laws_toHartS.f at h
 have H := h
 clear h
 replace H := zIp H
 obtain ⟨c2, H⟩ := H
 have c2b0 := eq_true c2
 have c2b1 : decide (0 ≤ (l0.length : Int)) = true := decide_eq_true c2
 clear c2
 replace H := zIp H
 obtain ⟨c3, H⟩ := H
 have c3b0 := eq_true c3
 have c3b1 : decide (((l0.length : Int) : Int).toNat ≤ 7036874417766) = true := decide_eq_true c3
 clear c3
 generalize hy495 : ((List.replicate ((l0.length : Int) : Int).toNat z53) : List (S53)) = y495 at H
 have Ny495 := zM hy495.symm
 clear hy495
 have H' := zM H
 clear H
 go_enter Try.func23, Try.ntmps23
 go_wp2_with (first | ((with_reducible refine gate_dst (N := 7) rfl ?_); refine Kd.S_make k53 _ 53 rfl (N := 7) rfl 25 _ _ rfl (l0.length : Int) rfl rfl Try.underlying25 (.agg #[(.slice none 0 0), (.int .i64 0), (.int .i64 0)]) 40 info53 rfl (by decide) (by omega) z53 (ok := fun _ => True) (okp := fun _ => True) (k53_mkM _ _ _ z53 (Kd.R_nil _ _ _ _ _)) (fun _ hk => hk) trivial zA (Nat.le_trans (Nat.mul_le_mul_right _ (zA : (l0.length : Int).toNat ≤ 7036874417766)) (by omega)) (Below.refl _ _) (Nat.le_refl _) ?_; intro v496 w4 ho5 hb hg_ hnew_; clear hg_ hnew_; (first | rw [← Ny495.1] at ho5 | (simp only [Int.reduceToNat] at ho5; rw [← Ny495.1] at ho5)); have HO497 := zM (Kd.S_lower ho5 (below_size zB1)); replace HB := zM (below_step zB1 hb); clear hb ho5))
 go_loopg [4] k (fun kq v4 w' => ∃ (x3_1 : List (S53)) (x4_1 : Int), v4 = .int .i64 x4_1 ∧ Aside0 (laws_toHartS.l0 kq l0 x3_1 x4_1 = some r) ∧ Aside0 (kq ≤ k) ∧ Aside0 (Kd.S k53 53 w' w.heap.size (fun _ => True) v496 x3_1) ∧ Aside0 (Below w.heap.size w w'))
 case atStart => exact ⟨(y495), (0), zJJ, H', ⟨Nat.le_refl _⟩, ⟨zS HO497.1⟩, ⟨zB1⟩⟩
 case round =>
  clear H'
  obtain ⟨x3_1, x4_1, rfl, HA, HK1, HO_3, HB⟩ := hrel
  cases gk with
  | zero => exact absurd HA.1 (by simp [laws_toHartS.l0])
  | succ k1 =>
   have H := HA.1
   clear HA
   simp only [laws_toHartS.l0] at H
   by_cases c6 : x4_1 < (l0.length : Int)
   rotate_left
   ·rw [if_neg c6] at H
    have c6b0 := decide_eq_false c6
    clear c6
    obtain rfl := Option.some.inj H
    go_wp2
    go_ret
    exact ⟨_, zE, zS HO_3.1, zB1⟩
   rw [if_pos c6] at H
   have c6b0 := decide_eq_true c6
   clear c6
   replace H := zIt H
   obtain ⟨c7b0, H⟩ := H
   replace H := zO H
   obtain ⟨⟨t499, t502, t503⟩, A8, H⟩ := H
   try dsimp only at H
   replace H := zIt H
   obtain ⟨c9b0, H⟩ := H
   generalize hy504 : ((x3_1.set (x4_1 : Int).toNat (⟨t499, t502, t503⟩ : S53)) : List (S53)) = y504 at H
   have Ny504 := zM hy504.symm
   clear hy504
   have H' := zM H
   clear H
   obtain ⟨p498, q498, ad498, A498_0, c498_0, e498, hx498_0, hx498_1, hx498_2, hl498_0, hi498_0⟩ := zRd (at_T95 HR0.1 x4_1)
   cases e498
   replace hx498_0 := zHx HB.1 hx498_0
   replace hx498_1 := zHx HB.1 hx498_1
   replace hx498_2 := zHx HB.1 hx498_2
   have HR498_0 := zM hi498_0
   have HC498_0 := zM hl498_0
   clear hi498_0 hl498_0
   go_wp2_with (first | ((with_reducible refine zG Try.func82 20 #[.agg #[.slice A498_0 ((rd_T95 l0 x4_1).f0).length c498_0, .int .i64 ((rd_T95 l0 x4_1).f1), .int .i64 ((rd_T95 l0 x4_1).f2)]] ?_); (with_reducible refine (laws_toHart.calls k1 _ _ ((rd_T95 l0 x4_1).f0) ((rd_T95 l0 x4_1).f1) ((rd_T95 l0 x4_1).f2) t499 t502 t503 _ ?side1 ?side2 A8.1).mono ?_); (case side1 => exact zC (Kd.C_below HR498_0.1 HB.1)); (case side2 => exact HC498_0.1); rintro e w11 ⟨v500, rfl, ho0, hb⟩; refine ⟨_, rfl, ?_⟩; replace HO_3 := zM (Kd.S_elder' (zS HO_3.1) (Kd.R_base ho0) hb); have HO501 := zM (Kd.R_lower ho0 (below_size zB1)); replace HB := zM (below_step zB1 hb); clear hb ho0; have p10 : 0 ≤ (x4_1 : Int) := zA; have q10 : (x4_1 : Int) < ((x3_1.length : Int) : Int) := zA; obtain ⟨go10, co10, eo10, gb10, gl10, cl10, HG10⟩ := Kd.S_form HO_3.1 (by omega); (first | cases eo10 | (injection eo10 with ea_ en_ ec_; (first | subst ea_ | (injection ea_ with ea_; subst ea_)); subst ec_; clear en_)); have GB10 := zM gb10; have GG10 := zM HG10; clear gb10 gl10 HG10; obtain ⟨_, ce10, hcl10, hM10, hcc10, hfr10, _, _⟩ := Kd.S_elem HO_3.1 z53 (x4_1 : Int) p10 q10; obtain ⟨ve10_0, rfl, ge10_0⟩ := k53_openM hM10; have hx10_0 : w11.cell? ⟨go10, (x4_1 : Int).toNat * 3, none⟩ = some (ve10_0) := hcc10 0 _ rfl; have hx10_1 : w11.cell? ⟨go10, (x4_1 : Int).toNat * 3 + 1, none⟩ = some (.int .i64 ((rd_T53 x3_1 x4_1).f1)) := hcc10 1 _ rfl; have hx10_2 : w11.cell? ⟨go10, (x4_1 : Int).toNat * 3 + 2, none⟩ = some (.int .i64 ((rd_T53 x3_1 x4_1).f2)) := hcc10 2 _ rfl; have hf10_0 : w11.frozen? ⟨go10, (x4_1 : Int).toNat * 3, none⟩ = false := hfr10 0; have hf10_1 : w11.frozen? ⟨go10, (x4_1 : Int).toNat * 3 + 1, none⟩ = false := hfr10 1; have hf10_2 : w11.frozen? ⟨go10, (x4_1 : Int).toNat * 3 + 2, none⟩ = false := hfr10 2; clear hcl10 hcc10 hfr10 hM10; replace p10 := eq_true p10; replace q10 := eq_true q10; obtain ⟨Ao12, co12, eo12⟩ := Kd.R_slice HO501.1; subst eo12; have n_ := zM (Kd.S_mono (ok' := (fun k_ => some k_ ≠ (.slice Ao12 t499.length co12 : Value).ownBlock)) HO_3.1 (fun k_ hk => hk.2)); clear HO_3; have HO_3 := n_; clear n_; have HX13 := zM (show Kd.S k53 53 w11 w.heap.size (fun k_ => ((fun _ => True)) k_ ∧ ¬ ((fun k_ => some k_ = (.slice Ao12 t499.length co12 : Value).ownBlock)) k_) (.slice (some ⟨go10, 0, none⟩) x3_1.length co10) x3_1 from (by refine zrS ?_; exact Kd.S_mono HO_3.1 (fun k_ hk => ⟨trivial, fun e_ => hk e_⟩))); obtain ⟨oki13, ce13, hcl13, hM13, hcc13, hfr13, hoki13, hH13⟩ := Kd.S_elem HX13.out z53 (x4_1 : Int) zA (by have h_ : (x4_1 : Int) < ((x3_1.length : Int) : Int) := zA; first | exact h_ | (have e_ := (Kd.S_reads' HO_3.1).1; omega) | simpa using h_); obtain ⟨ve13_0, rfl, ge13_0⟩ := k53_openM hM13; have HP13 := Kd.S_seg hH13 zA (by have h_ : (x4_1 : Int) < ((x3_1.length : Int) : Int) := zA; first | exact h_ | (have e_ := (Kd.S_reads' HO_3.1).1; omega) | simpa using h_) (seg := [.slice Ao12 t499.length co12, .int .i64 t502, .int .i64 t503]) (j := 0) (show 3 ≤ 3 from by decide) (x' := (⟨t499, t502, t503⟩ : S53)) (k53_mkM _ _ _ (⟨t499, t502, t503⟩ : S53) (Kd.R_mono (Kd.R_tight rfl (Kd.R_mono (ok' := fun k_ => ((fun _ => True)) k_ ∧ k_ ≠ go10) (Kd.R_apart' (HO501.1) (Kd.S_typed HO_3.1) (by decide)) (fun k_ hk => ⟨trivial, fun e_ => (hk.2) (by rw [e_]; rfl)⟩))) (fun _ h_ => Or.inr (h_)))) (fun _ hk => hk) (fun k_ hk_ => ((Kd.R_mono (ok' := fun k_ => ((fun _ => True)) k_ ∧ k_ ≠ go10) (Kd.R_apart' (HO501.1) (Kd.S_typed HO_3.1) (by decide)) (fun k_ hk => ⟨trivial, fun e_ => (hk.2) (by rw [e_]; rfl)⟩))).1 k_ hk_.symm); have hx13_0 := hcc13 0 _ rfl; (try simp only [show (k53).sz = 3 from rfl, Nat.mul_one, Nat.add_zero] at hx13_0); have hf13_0 := hfr13 0; (try simp only [show (k53).sz = 3 from rfl, Nat.mul_one, Nat.add_zero] at hf13_0); have hx13_1 := hcc13 1 _ rfl; (try simp only [show (k53).sz = 3 from rfl, Nat.mul_one, Nat.add_zero] at hx13_1); have hf13_1 := hfr13 1; (try simp only [show (k53).sz = 3 from rfl, Nat.mul_one, Nat.add_zero] at hf13_1); have hx13_2 := hcc13 2 _ rfl; (try simp only [show (k53).sz = 3 from rfl, Nat.mul_one, Nat.add_zero] at hx13_2); have hf13_2 := hfr13 2; (try simp only [show (k53).sz = 3 from rfl, Nat.mul_one, Nat.add_zero] at hf13_2); clear hcl13 hcc13 hfr13 hM13 hoki13 hH13) | ((with_reducible refine gate_store (t := 53) (p := 21) rfl ?_); refine store_event (t := 53) (p := 21) (v := ?vo_w14) (w1 := (((w11.setCell ⟨go10, (x4_1 : Int).toNat * 3, none⟩ (.slice Ao12 t499.length co12)).setCell ⟨go10, (x4_1 : Int).toNat * 3 + 1, none⟩ (.int .i64 t502)).setCell ⟨go10, (x4_1 : Int).toNat * 3 + 2, none⟩ (.int .i64 t503))) ?hg ?ho ?hn ?hr ?_; (case ho => rfl); (case hg => rfl); (case hn => rfl); (case hr => exact zHH); intro w14 hw; have hg : w11.grownBy w14 (some go10) := (by rw [hw]; exact HP13.2); have hp_ : Kd.S k53 53 w14 w.heap.size (fun _ => True) (.slice (some ⟨go10, 0, none⟩) x3_1.length co10) y504 := (by rw [hw, Ny504.1]; exact HP13.1); clear HP13; replace HO_3 := zM hp_; replace HB := zM ((by rw [hw]; exact below_set (below_set (below_set (HB.1) GB10.1) GB10.1) GB10.1 : Below w.heap.size w w14)); clear HO501; clear hg hw hp_))
   go_roundg k1
   case measure => have := HK1.1; omega
   case rel => exact ⟨(y504), (wrap64 (x4_1 + 1)), zJJ, H', ⟨by have := HK1.1; omega⟩, ⟨zS HO_3.1⟩, ⟨zB1⟩⟩

/-! ### laws_toWatch: function 24 -/
def laws_toWatch.f (k : Nat) (l0_0 : List Int) (l0_1 : List Int) : Option (List Int × List Int) := (laws_toIntS.f k l0_0).bind fun t508 => ((laws_toIntS.f k l0_1).bind fun t511 => (some (t508, t511)))
theorem laws_toWatch.mono : ∀ a0 a1 k, LeO (laws_toWatch.f k a0 a1) (laws_toWatch.f (k + 1) a0 a1) := by
 intro a0 a1 k
 unfold laws_toWatch.f
 have mo0 := @laws_toIntS.mono
 exact zL
theorem laws_toWatch.calls (k : Nat) (A0_0 : Option Addr) (c0_0 : Nat) (l0_0 : List Int) (A0_1 : Option Addr) (c0_1 : Nat) (l0_1 : List Int) (r1 : List Int) (r2 : List Int) (w : World) (hr0_0 : Kd.C (Kd.int .i64) w A0_0 l0_0.length l0_0) (hc0_0 : l0_0.length ≤ c0_0) (hr0_1 : Kd.C (Kd.int .i64) w A0_1 l0_1.length l0_1) (hc0_1 : l0_1.length ≤ c0_1) (h : laws_toWatch.f k l0_0 l0_1 = some (r1, r2)) :
  Calls Try.prog 24 #[.agg #[.slice A0_0 l0_0.length c0_0, .slice A0_1 l0_1.length c0_1]] w fun e w' => ∃ v0_ v1_ : Value, e = .returned (.agg #[v0_, v1_]) ∧ Kd.R (Kd.int .i64) 3 w' w.heap.size (fun k_ => some k_ ≠ (v1_ : Value).ownBlock) v0_ r1 ∧ Kd.R (Kd.int .i64) 3 w' w.heap.size (fun k_ => some k_ ≠ (v0_ : Value).ownBlock) v1_ r2 ∧ Below w.heap.size w w' := by
 have hu40 := Try.underlying40
 have hu27 := Try.underlying27
 have HR0_0 := zM hr0_0
 have HC0_0 := zM hc0_0
 clear hr0_0 hc0_0
 have HR0_1 := zM hr0_1
 have HC0_1 := zM hc0_1
 clear hr0_1 hc0_1
 have HB := zM (Below.refl w.heap.size w)
 unfold laws_toWatch.f at h
 have H := h
 clear h
 replace H := zO H
 obtain ⟨t508, A2, H⟩ := H
 replace H := zO H
 obtain ⟨t511, A3, H⟩ := H
 simp only [Option.some.injEq, Prod.mk.injEq] at H
 obtain ⟨rfl, rfl⟩ := H
 go_enter Try.func24, Try.ntmps24
 go_wp2_with (first | ((with_reducible refine zBx 1 40 #[.slice A0_0 l0_0.length c0_0, .slice A0_1 l0_1.length c0_1] ?_); intro gb505 hg w4 hbox hb; have BK505 := zM hbox; have GW505 := zM (zW hg (below_size zB1)); have GE505 := zM (zW hg (below_size zB1)); replace HB := zM (below_step zB1 hb); clear hb hbox hg) | ((with_reducible refine zBx 2 27 #[.slice none 0 0, .slice none 0 0] ?_); intro gb506 hg w5 hbox hb; have BK506 := zM hbox; have GW506 := zM (zW hg (below_size zB1)); have GE506 := zM (zW hg (below_size zB1)); replace HB := zM (below_step zB1 hb); have NB505_506 := zM ((zn BK505.1 hg : gb505 ≠ gb506)); have NB506_505 := zM ((zm BK505.1 hg : gb506 ≠ gb505)); replace BK505 := zM (zb BK505.1 hb); clear hb hbox hg) | ((with_reducible refine zBx 3 27 #[.slice none 0 0, .slice none 0 0] ?_); intro gb507 hg w6 hbox hb; have BK507 := zM hbox; have GW507 := zM (zW hg (below_size zB1)); have GE507 := zM (zW hg (below_size zB1)); replace HB := zM (below_step zB1 hb); have NB505_507 := zM ((zn BK505.1 hg : gb505 ≠ gb507)); have NB507_505 := zM ((zm BK505.1 hg : gb507 ≠ gb505)); replace BK505 := zM (zb BK505.1 hb); have NB506_507 := zM ((zn BK506.1 hg : gb506 ≠ gb507)); have NB507_506 := zM ((zm BK506.1 hg : gb507 ≠ gb506)); replace BK506 := zM (zb BK506.1 hb); clear hb hbox hg; have hnb7 := NB505_506.1; have hnc7 := NB506_505.1; have hnb8 := NB505_507.1; have hnc8 := NB507_505.1; have hcz9 := zc_2 (w := w6) BK505.1) | ((with_reducible refine zG Try.func22 6 #[.slice A0_0 l0_0.length c0_0] ?_); (with_reducible refine (laws_toIntS.calls k _ _ l0_0 t508 _ ?side1 ?side2 A2.1).mono ?_); (case side1 => exact zC (Kd.C_below HR0_0.1 HB.1)); (case side2 => exact HC0_0.1); rintro e w10 ⟨v509, rfl, ho0, hb⟩; refine ⟨_, rfl, ?_⟩; have HO510 := zM (Kd.R_lower ho0 (below_size zB1)); replace BK505 := zM (zb BK505.1 hb); replace BK506 := zM (zb BK506.1 hb); replace BK507 := zM (zb BK507.1 hb); replace HB := zM (below_step zB1 hb); clear hb ho0; obtain ⟨Ao11, co11, eo11⟩ := Kd.R_slice HO510.1; subst eo11; have hnb12 := NB507_506.1; have hnc12 := NB506_507.1; have hcz13 := zc_2 (w := w10) BK507.1; have hcz14 := zc_2 (w := w10) BK505.1) | ((with_reducible refine zG Try.func22 10 #[.slice A0_1 l0_1.length c0_1] ?_); (with_reducible refine (laws_toIntS.calls k _ _ l0_1 t511 _ ?side1 ?side2 A3.1).mono ?_); (case side1 => exact Kd.C_below HR0_1.1 zB1); (case side2 => exact HC0_1.1); rintro e w15 ⟨v512, rfl, ho0, hb⟩; refine ⟨_, rfl, ?_⟩; have HO513 := zM (Kd.R_lower (Kd.R_new' ho0 (Kd.R_lt (by refine zrR ?_; exact (Kd.R_mono (zfR (Kd.R_types HO510.1 BK507.1 (by decide))) (fun _ h_ => h_.1))))) (below_size zB1)); replace HO510 := zM (Kd.R_elder' (by refine zrR ?_; exact (Kd.R_mono (zfR (Kd.R_types HO510.1 BK507.1 (by decide))) (fun _ h_ => h_.1))) (Kd.R_base ho0) hb); replace BK505 := zM (zf BK505.1 hb); replace BK506 := zM (zf BK506.1 hb); replace BK507 := zM (blk_below (g := gb507) (o := .cells #[.slice Ao11 t508.length co11, .slice none 0 0] 27 (0, 0)) zPq hb); replace HB := zM (below_step zB1 hb); clear hb ho0; obtain ⟨Ao16, co16, eo16⟩ := Kd.R_slice HO513.1; subst eo16; have hcz17 := zc_2 (w := w15) BK507.1; have hcz18 := zc_2 (w := w15) BK506.1))
 refine bodyPost_ret (results_cell_row rfl _ _ gb506 27 #[.slice Ao11 t508.length co11, .slice Ao16 t511.length co16] (0, 0) _ rfl zPq Try.underlying27 rfl (by kernel_rfl)) rfl ?_
 exact ⟨_, _, zE, by refine zrR ?_; exact Kd.R_mono (zfR (zfR (zgR (Kd.R_types (Kd.R_types HO510.1 BK507.1 (by decide)) BK506.1 (by decide))))) (fun _ hk => hk.1.1.2), by refine zrR ?_; exact Kd.R_mono (zfR (zfR (zgR (Kd.R_types (Kd.R_types HO513.1 BK507.1 (by decide)) BK506.1 (by decide))))) (fun _ hk => hk.1.1.2), zB1⟩

/-! ### laws_eqIntS: function 25 -/
def laws_eqIntS.l0 : Nat → List Int → List Int → Int → Option (Bool)
 | 0, _, _, _ => none
 | k + 1, x0, x1, x5 => if x5 < (x0.length : Int) then (if 0 ≤ x5 then (if x5 < (x1.length : Int) then (if (rd x0 x5) = (rd x1 x5) then (laws_eqIntS.l0 k x0 x1 (wrap64 (x5 + 1))) else (some false)) else (none)) else (none)) else (some true)
def laws_eqIntS.f (k : Nat) (l0 : List Int) (l1 : List Int) : Option (Bool) := if (l0.length : Int) = (l1.length : Int) then (laws_eqIntS.l0 k l0 l1 0) else (some false)
theorem laws_eqIntS.mono_l : ∀ k, (∀ y0 y1 y2, LeO (laws_eqIntS.l0 k y0 y1 y2) (laws_eqIntS.l0 (k + 1) y0 y1 y2))
 | 0 => fun _ _ _ r h => by simp [laws_eqIntS.l0] at h
 | k + 1 => by
  have ih0 := laws_eqIntS.mono_l k
  ·intros
   unfold laws_eqIntS.l0
   exact zL
theorem laws_eqIntS.mono : ∀ a0 a1 k, LeO (laws_eqIntS.f k a0 a1) (laws_eqIntS.f (k + 1) a0 a1) := by
 intro a0 a1 k
 have ih0 := laws_eqIntS.mono_l k
 unfold laws_eqIntS.f
 exact zL
theorem laws_eqIntS.calls (k : Nat) (A0 : Option Addr) (c0 : Nat) (l0 : List Int) (A1 : Option Addr) (c1 : Nat) (l1 : List Int) (r : Bool) (w : World) (hr0 : Kd.C (Kd.int .i64) w A0 l0.length l0) (hc0 : l0.length ≤ c0) (hr1 : Kd.C (Kd.int .i64) w A1 l1.length l1) (hc1 : l1.length ≤ c1) (h : laws_eqIntS.f k l0 l1 = some r) :
  Calls Try.prog 25 #[.slice A0 l0.length c0, .slice A1 l1.length c1] w fun e w' => e = .returned (.bool r) ∧ Drawn0 w w' := by
 have HR0 := zM hr0
 have HC0 := zM hc0
 clear hr0 hc0
 have HR1 := zM hr1
 have HC1 := zM hc1
 clear hr1 hc1
 unfold laws_eqIntS.f at h
 have H := h
 clear h
 by_cases c3 : (l0.length : Int) = (l1.length : Int)
 rotate_left
 ·rw [if_neg c3] at H
  have c3b0 : ((l0.length : Int) == (l1.length : Int)) = false := beq_eq_false_iff_ne.mpr c3
  have c3b1 : ((l0.length : Int) != (l1.length : Int)) = true := bne_iff_ne.mpr c3
  have c3b2 : (l0.length == l1.length) = false := by first | simpa using c3 | (simp at c3 ⊢; omega)
  obtain rfl := Option.some.inj H
  go_enter Try.func25, Try.ntmps25
  go_wp2
  repeat (go_quiet (fail); try go_wp2)
  go_ret
  exact ⟨zJJ, zDD⟩
 rw [if_pos c3] at H
 have c3b0 : ((l0.length : Int) == (l1.length : Int)) = true := beq_iff_eq.mpr c3
 have c3b1 : ((l0.length : Int) != (l1.length : Int)) = false := bne_eq_false_iff_eq.mpr c3
 have c3b2 : (l0.length == l1.length) = true := by first | simpa using c3 | (simp at c3 ⊢; omega)
 clear c3
 have H' := zM H
 clear H
 go_enter Try.func25, Try.ntmps25
 go_wp2
 repeat (go_quiet (fail); try go_wp2)
 go_loopg [5] k (fun kq v5 w' => ∃ (x5_1 : Int), v5 = .int .i64 x5_1 ∧ Aside0 (laws_eqIntS.l0 kq l0 l1 x5_1 = some r) ∧ Aside0 (kq ≤ k) ∧ Drawn0 w w')
 case atStart => exact ⟨(0), zJJ, H', ⟨Nat.le_refl _⟩, zDD⟩
 case round =>
  clear H'
  obtain ⟨x5_1, rfl, HA, HK1, ⟨m1, rfl⟩⟩ := hrel
  cases gk with
  | zero => exact absurd HA.1 (by simp [laws_eqIntS.l0])
  | succ k1 =>
   have H := HA.1
   clear HA
   simp only [laws_eqIntS.l0] at H
   by_cases c4 : x5_1 < (l0.length : Int)
   rotate_left
   ·rw [if_neg c4] at H
    have c4b0 := decide_eq_false c4
    clear c4
    obtain rfl := Option.some.inj H
    go_wp2
    repeat (go_quiet (fail); try go_wp2)
    go_ret
    exact ⟨zJJ, zDD⟩
   rw [if_pos c4] at H
   have c4b0 := decide_eq_true c4
   clear c4
   replace H := zIt H
   obtain ⟨c5b0, H⟩ := H
   replace H := zIt H
   obtain ⟨c6b0, H⟩ := H
   by_cases c7 : (rd l0 x5_1) = (rd l1 x5_1)
   rotate_left
   ·rw [if_neg c7] at H
    have c7b0 : ((rd l0 x5_1) == (rd l1 x5_1)) = false := beq_eq_false_iff_ne.mpr c7
    have c7b1 : ((rd l0 x5_1) != (rd l1 x5_1)) = true := bne_iff_ne.mpr c7
    obtain rfl := Option.some.inj H
    obtain ⟨p514, q514, ad514, e514, hx514_0⟩ := zRd (Kd.at_int HR0.1 x5_1)
    cases e514
    obtain ⟨p515, q515, ad515, e515, hx515_0⟩ := zRd (Kd.at_int HR1.1 x5_1)
    cases e515
    go_wp2
    repeat (go_quiet (fail); try go_wp2)
    go_ret
    exact ⟨zJJ, zDD⟩
   rw [if_pos c7] at H
   have c7b0 : ((rd l0 x5_1) == (rd l1 x5_1)) = true := beq_iff_eq.mpr c7
   have c7b1 : ((rd l0 x5_1) != (rd l1 x5_1)) = false := bne_eq_false_iff_eq.mpr c7
   clear c7
   have H' := zM H
   clear H
   obtain ⟨p514, q514, ad514, e514, hx514_0⟩ := zRd (Kd.at_int HR0.1 x5_1)
   cases e514
   obtain ⟨p515, q515, ad515, e515, hx515_0⟩ := zRd (Kd.at_int HR1.1 x5_1)
   cases e515
   go_wp2
   repeat (go_quiet (fail); try go_wp2)
   go_roundg k1
   case measure => have := HK1.1; omega
   case rel => exact ⟨(wrap64 (x5_1 + 1)), zJJ, H', ⟨by have := HK1.1; omega⟩, zDD⟩

/-! ### laws_eqHart: function 83 -/
def laws_eqHart.f (k : Nat) (l0_0 : List Int) (a0_1 : Int) (a0_2 : Int) (l1_0 : List Int) (a1_1 : Int) (a1_2 : Int) : Option (Bool) := (laws_eqIntS.f k l0_0 l1_0).bind fun t518 => (if t518 = true then (if a0_1 = a1_1 then (if a0_2 = a1_2 then (some true) else (some false)) else (some false)) else (some false))
theorem laws_eqHart.mono : ∀ a0 a1 a2 a3 a4 a5 k, LeO (laws_eqHart.f k a0 a1 a2 a3 a4 a5) (laws_eqHart.f (k + 1) a0 a1 a2 a3 a4 a5) := by
 intro a0 a1 a2 a3 a4 a5 k
 unfold laws_eqHart.f
 have mo0 := @laws_eqIntS.mono
 exact zL
theorem laws_eqHart.calls (k : Nat) (A0_0 : Option Addr) (c0_0 : Nat) (l0_0 : List Int) (a0_1 : Int) (a0_2 : Int) (A1_0 : Option Addr) (c1_0 : Nat) (l1_0 : List Int) (a1_1 : Int) (a1_2 : Int) (r : Bool) (w : World) (hr0_0 : Kd.C (Kd.int .i64) w A0_0 l0_0.length l0_0) (hc0_0 : l0_0.length ≤ c0_0) (hr1_0 : Kd.C (Kd.int .i64) w A1_0 l1_0.length l1_0) (hc1_0 : l1_0.length ≤ c1_0) (h : laws_eqHart.f k l0_0 a0_1 a0_2 l1_0 a1_1 a1_2 = some r) :
  Calls Try.prog 83 #[.agg #[.slice A0_0 l0_0.length c0_0, .int .i64 a0_1, .int .i64 a0_2], .agg #[.slice A1_0 l1_0.length c1_0, .int .i64 a1_1, .int .i64 a1_2]] w fun e w' => e = .returned (.bool r) ∧ Below w.heap.size w w' := by
 have hu53 := Try.underlying53
 have HR0_0 := zM hr0_0
 have HC0_0 := zM hc0_0
 clear hr0_0 hc0_0
 have HR1_0 := zM hr1_0
 have HC1_0 := zM hc1_0
 clear hr1_0 hc1_0
 have HB := zM (Below.refl w.heap.size w)
 unfold laws_eqHart.f at h
 have H := h
 clear h
 replace H := zO H
 obtain ⟨t518, A3, H⟩ := H
 by_cases c4 : t518 = true
 rotate_left
 ·replace c4 := Bool.eq_false_iff.mpr c4
  subst c4
  rw [if_neg zF] at H
  obtain rfl := Option.some.inj H
  go_enter Try.func83, Try.ntmps83
  go_wp2_with (first | ((with_reducible refine zBx 2 53 #[.slice A0_0 l0_0.length c0_0, .int .i64 a0_1, .int .i64 a0_2] ?_); intro gb516 hg w22 hbox hb; have BK516 := zM hbox; have GW516 := zM (zW hg (below_size zB1)); have GE516 := zM (zW hg (below_size zB1)); replace HB := zM (below_step zB1 hb); clear hb hbox hg) | ((with_reducible refine zBx 3 53 #[.slice A1_0 l1_0.length c1_0, .int .i64 a1_1, .int .i64 a1_2] ?_); intro gb517 hg w23 hbox hb; have BK517 := zM hbox; have GW517 := zM (zW hg (below_size zB1)); have GE517 := zM (zW hg (below_size zB1)); replace HB := zM (below_step zB1 hb); have NB516_517 := zM ((zn BK516.1 hg : gb516 ≠ gb517)); have NB517_516 := zM ((zm BK516.1 hg : gb517 ≠ gb516)); replace BK516 := zM (zb BK516.1 hb); clear hb hbox hg; have hnb24 := NB516_517.1; have hnc24 := NB517_516.1; have hcz25 := zc_3 (w := w23) BK516.1; have hcz26 := zc_3 (w := w23) BK517.1) | ((with_reducible refine zG Try.func25 9 #[.slice A0_0 l0_0.length c0_0, .slice A1_0 l1_0.length c1_0] ?_); (with_reducible refine (laws_eqIntS.calls k _ _ l0_0 _ _ l1_0 false _ ?side1 ?side2 ?side3 ?side4 A3.1).mono ?_); (case side1 => exact zC (Kd.C_below HR0_0.1 HB.1)); (case side2 => exact HC0_0.1); (case side3 => exact zC (Kd.C_below HR1_0.1 HB.1)); (case side4 => exact HC1_0.1); rintro e w' ⟨rfl, ⟨nd, rfl⟩⟩; refine ⟨_, rfl, ?_⟩))
  go_ret
  exact ⟨zE, zB1⟩
 subst c4
 rw [if_pos rfl] at H
 by_cases c5 : a0_1 = a1_1
 rotate_left
 ·rw [if_neg c5] at H
  have c5b0 : (a0_1 == a1_1) = false := beq_eq_false_iff_ne.mpr c5
  have c5b1 : (a0_1 != a1_1) = true := bne_iff_ne.mpr c5
  obtain rfl := Option.some.inj H
  go_enter Try.func83, Try.ntmps83
  go_wp2_with (first | ((with_reducible refine zBx 2 53 #[.slice A0_0 l0_0.length c0_0, .int .i64 a0_1, .int .i64 a0_2] ?_); intro gb516 hg w17 hbox hb; have BK516 := zM hbox; have GW516 := zM (zW hg (below_size zB1)); have GE516 := zM (zW hg (below_size zB1)); replace HB := zM (below_step zB1 hb); clear hb hbox hg) | ((with_reducible refine zBx 3 53 #[.slice A1_0 l1_0.length c1_0, .int .i64 a1_1, .int .i64 a1_2] ?_); intro gb517 hg w18 hbox hb; have BK517 := zM hbox; have GW517 := zM (zW hg (below_size zB1)); have GE517 := zM (zW hg (below_size zB1)); replace HB := zM (below_step zB1 hb); have NB516_517 := zM ((zn BK516.1 hg : gb516 ≠ gb517)); have NB517_516 := zM ((zm BK516.1 hg : gb517 ≠ gb516)); replace BK516 := zM (zb BK516.1 hb); clear hb hbox hg; have hnb19 := NB516_517.1; have hnc19 := NB517_516.1; have hcz20 := zc_3 (w := w18) BK516.1; have hcz21 := zc_3 (w := w18) BK517.1) | ((with_reducible refine zG Try.func25 9 #[.slice A0_0 l0_0.length c0_0, .slice A1_0 l1_0.length c1_0] ?_); (with_reducible refine (laws_eqIntS.calls k _ _ l0_0 _ _ l1_0 true _ ?side1 ?side2 ?side3 ?side4 A3.1).mono ?_); (case side1 => exact zC (Kd.C_below HR0_0.1 HB.1)); (case side2 => exact HC0_0.1); (case side3 => exact zC (Kd.C_below HR1_0.1 HB.1)); (case side4 => exact HC1_0.1); rintro e w' ⟨rfl, ⟨nd, rfl⟩⟩; refine ⟨_, rfl, ?_⟩))
  go_ret
  exact ⟨zE, zB1⟩
 rw [if_pos c5] at H
 have c5b0 : (a0_1 == a1_1) = true := beq_iff_eq.mpr c5
 have c5b1 : (a0_1 != a1_1) = false := bne_eq_false_iff_eq.mpr c5
 clear c5
 by_cases c6 : a0_2 = a1_2
 rotate_left
 ·rw [if_neg c6] at H
  have c6b0 : (a0_2 == a1_2) = false := beq_eq_false_iff_ne.mpr c6
  have c6b1 : (a0_2 != a1_2) = true := bne_iff_ne.mpr c6
  obtain rfl := Option.some.inj H
  go_enter Try.func83, Try.ntmps83
  go_wp2_with (first | ((with_reducible refine zBx 2 53 #[.slice A0_0 l0_0.length c0_0, .int .i64 a0_1, .int .i64 a0_2] ?_); intro gb516 hg w12 hbox hb; have BK516 := zM hbox; have GW516 := zM (zW hg (below_size zB1)); have GE516 := zM (zW hg (below_size zB1)); replace HB := zM (below_step zB1 hb); clear hb hbox hg) | ((with_reducible refine zBx 3 53 #[.slice A1_0 l1_0.length c1_0, .int .i64 a1_1, .int .i64 a1_2] ?_); intro gb517 hg w13 hbox hb; have BK517 := zM hbox; have GW517 := zM (zW hg (below_size zB1)); have GE517 := zM (zW hg (below_size zB1)); replace HB := zM (below_step zB1 hb); have NB516_517 := zM ((zn BK516.1 hg : gb516 ≠ gb517)); have NB517_516 := zM ((zm BK516.1 hg : gb517 ≠ gb516)); replace BK516 := zM (zb BK516.1 hb); clear hb hbox hg; have hnb14 := NB516_517.1; have hnc14 := NB517_516.1; have hcz15 := zc_3 (w := w13) BK516.1; have hcz16 := zc_3 (w := w13) BK517.1) | ((with_reducible refine zG Try.func25 9 #[.slice A0_0 l0_0.length c0_0, .slice A1_0 l1_0.length c1_0] ?_); (with_reducible refine (laws_eqIntS.calls k _ _ l0_0 _ _ l1_0 true _ ?side1 ?side2 ?side3 ?side4 A3.1).mono ?_); (case side1 => exact zC (Kd.C_below HR0_0.1 HB.1)); (case side2 => exact HC0_0.1); (case side3 => exact zC (Kd.C_below HR1_0.1 HB.1)); (case side4 => exact HC1_0.1); rintro e w' ⟨rfl, ⟨nd, rfl⟩⟩; refine ⟨_, rfl, ?_⟩))
  go_ret
  exact ⟨zE, zB1⟩
 rw [if_pos c6] at H
 have c6b0 : (a0_2 == a1_2) = true := beq_iff_eq.mpr c6
 have c6b1 : (a0_2 != a1_2) = false := bne_eq_false_iff_eq.mpr c6
 clear c6
 obtain rfl := Option.some.inj H
 go_enter Try.func83, Try.ntmps83
 go_wp2_with (first | ((with_reducible refine zBx 2 53 #[.slice A0_0 l0_0.length c0_0, .int .i64 a0_1, .int .i64 a0_2] ?_); intro gb516 hg w7 hbox hb; have BK516 := zM hbox; have GW516 := zM (zW hg (below_size zB1)); have GE516 := zM (zW hg (below_size zB1)); replace HB := zM (below_step zB1 hb); clear hb hbox hg) | ((with_reducible refine zBx 3 53 #[.slice A1_0 l1_0.length c1_0, .int .i64 a1_1, .int .i64 a1_2] ?_); intro gb517 hg w8 hbox hb; have BK517 := zM hbox; have GW517 := zM (zW hg (below_size zB1)); have GE517 := zM (zW hg (below_size zB1)); replace HB := zM (below_step zB1 hb); have NB516_517 := zM ((zn BK516.1 hg : gb516 ≠ gb517)); have NB517_516 := zM ((zm BK516.1 hg : gb517 ≠ gb516)); replace BK516 := zM (zb BK516.1 hb); clear hb hbox hg; have hnb9 := NB516_517.1; have hnc9 := NB517_516.1; have hcz10 := zc_3 (w := w8) BK516.1; have hcz11 := zc_3 (w := w8) BK517.1) | ((with_reducible refine zG Try.func25 9 #[.slice A0_0 l0_0.length c0_0, .slice A1_0 l1_0.length c1_0] ?_); (with_reducible refine (laws_eqIntS.calls k _ _ l0_0 _ _ l1_0 true _ ?side1 ?side2 ?side3 ?side4 A3.1).mono ?_); (case side1 => exact zC (Kd.C_below HR0_0.1 HB.1)); (case side2 => exact HC0_0.1); (case side3 => exact zC (Kd.C_below HR1_0.1 HB.1)); (case side4 => exact HC1_0.1); rintro e w' ⟨rfl, ⟨nd, rfl⟩⟩; refine ⟨_, rfl, ?_⟩))
 go_ret
 exact ⟨zE, zB1⟩

end Go.Proofs.Ytpcgecacaemalaa.PFnExactRunTo
