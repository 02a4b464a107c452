-- made by wip/tools/myprint.py out of the seat's translation
import Derived.Test.YtgbjengnkbomoaaPFnRacesx0
import Derived.Test.YtgbjengnkbomoaaPFnRacesx13
namespace Go.Proofs.Ytgbjengnkbomoaa.PFnRaces
open Go.RowKit Go.Proofs.YtgbjengnkbomoaaW.PrintWords Go.Proofs.YtgbjengnkbomoaaW.PrintLast Go.Proofs.YtgbjengnkbomoaaW.PrintMore
attribute [local go_sem] max2_int min2_int max_two min_two max_three min_three max_four min_four   -- for this text's walks alone
set_option linter.unusedVariables false
set_option linter.unusedSimpArgs false
set_option maxHeartbeats 8000000
set_option maxRecDepth 100000

/-! ### spec_ClockWithin: function 45 -/
mutual
def spec_ClockWithin.l0 : Nat → List Int → List Int → Int → Option (Bool)
 | 0, _, _, _ => none
 | k + 1, x0, x1, x5 => if x5 < (x0.length : Int) then (spec_ClockWithin.j1 k x0 x1 x5 (decide (x5 < (x1.length : Int)))) else (spec_ClockWithin.j1 k x0 x1 x5 false)
def spec_ClockWithin.j1 : Nat → List Int → List Int → Int → Bool → Option (Bool)
 | 0, _, _, _, _ => none
 | k + 1, x0, x1, x5, x15 => if x15 = true then (if 0 ≤ x5 then (if x5 < (x0.length : Int) then (if x5 < (x1.length : Int) then (if (rd x0 x5) > (rd x1 x5) then (some false) else (spec_ClockWithin.l0 k x0 x1 (wrap64 (x5 + 1)))) else (none)) else (none)) else (none)) else (some ((x0.length : Int) == (x1.length : Int)))
end
def spec_ClockWithin.f (k : Nat) (l0 : List Int) (l1 : List Int) : Option (Bool) := spec_ClockWithin.l0 k l0 l1 0
theorem spec_ClockWithin.mono_l : ∀ k, (∀ y0 y1 y2, LeO (spec_ClockWithin.l0 k y0 y1 y2) (spec_ClockWithin.l0 (k + 1) y0 y1 y2)) ∧ (∀ y0 y1 y2 y3, LeO (spec_ClockWithin.j1 k y0 y1 y2 y3) (spec_ClockWithin.j1 (k + 1) y0 y1 y2 y3))
 | 0 => ⟨fun _ _ _ r h => by simp [spec_ClockWithin.l0] at h, fun _ _ _ _ r h => by simp [spec_ClockWithin.j1] at h⟩
 | k + 1 => by
  obtain ⟨ih0, ih1⟩ := spec_ClockWithin.mono_l k
  refine ⟨?_, ?_⟩
  ·intros
   unfold spec_ClockWithin.l0
   exact zL
  ·intros
   unfold spec_ClockWithin.j1
   exact zL
theorem spec_ClockWithin.mono : ∀ a0 a1 k, LeO (spec_ClockWithin.f k a0 a1) (spec_ClockWithin.f (k + 1) a0 a1) := by
 intro a0 a1 k
 obtain ⟨ih0, ih1⟩ := spec_ClockWithin.mono_l k
 unfold spec_ClockWithin.f
 exact zL
theorem spec_ClockWithin.calls (k : Nat) (A0 : Option Addr) (c0 : Nat) (l0 : List Int) (A1 : Option Addr) (c1 : Nat) (l1 : List Int) (r : Bool) (w : World) (hr0 : Kd.C (Kd.int .i64) w A0 l0.length l0) (hc0 : l0.length ≤ c0) (hr1 : Kd.C (Kd.int .i64) w A1 l1.length l1) (hc1 : l1.length ≤ c1) (h : spec_ClockWithin.f k l0 l1 = some r) :
  Calls Try.prog 45 #[.slice A0 l0.length c0, .slice A1 l1.length c1] w fun e w' => e = .returned (.bool r) ∧ Drawn0 w w' := by
 have HR0 := zM hr0
 have HC0 := zM hc0
 clear hr0 hc0
 have HR1 := zM hr1
 have HC1 := zM hc1
 clear hr1 hc1
 unfold spec_ClockWithin.f at h
 have H := h
 clear h
 have H' := zM H
 clear H
 go_enter Try.func45, Try.ntmps45
 go_wp2
 repeat (go_quiet (fail); try go_wp2)
 go_loopg [5] k (fun kq v5 w' => ∃ (x5_1 : Int), v5 = .int .i64 x5_1 ∧ Aside0 (spec_ClockWithin.l0 kq l0 l1 x5_1 = some r) ∧ Aside0 (kq ≤ k) ∧ Drawn0 w w')
 case atStart => exact ⟨(0), zJJ, H', ⟨Nat.le_refl _⟩, zDD⟩
 case round =>
  clear H'
  obtain ⟨x5_1, rfl, HA, HK1, ⟨m1, rfl⟩⟩ := hrel
  cases gk with
  | zero => exact absurd HA.1 (by simp [spec_ClockWithin.l0])
  | succ k1 =>
   have H := HA.1
   clear HA
   simp only [spec_ClockWithin.l0] at H
   have HC3 := zM H
   clear H
   go_upto_region 2 with (fail)
   repeat (go_quiet (fail); go_upto_region 2 with (fail))
   go_cut [15] (fun v15 wc => ∃ (kq : Nat) (x15_2 : Bool), v15 = .bool x15_2 ∧ Aside0 (spec_ClockWithin.j1 kq l0 l1 x5_1 x15_2 = some r) ∧ Aside0 (kq ≤ k1) ∧ Drawn0 w wc)
   case first =>
    have H := HC3.1
    clear HC3
    by_cases c4 : x5_1 < (l0.length : Int)
    rotate_left
    ·rw [if_neg c4] at H
     have c4b0 := decide_eq_false c4
     clear c4
     (first | rw [c4b0] | (simp only [i64_w, i32_w]; rw [c4b0]) | skip)
     have H' := zM H
     clear H
     go_wp2
     repeat (go_quiet (fail); try go_wp2)
     go_meet
     case rel => exact ⟨_, (false), zJJ, H', ⟨by have := HK1.1; first | omega | exact Nat.le_refl _⟩, zDD⟩
    rw [if_pos c4] at H
    have c4b0 := decide_eq_true c4
    clear c4
    (first | rw [c4b0] | (simp only [i64_w, i32_w]; rw [c4b0]) | skip)
    have H' := zM H
    clear H
    go_wp2
    repeat (go_quiet (fail); try go_wp2)
    go_meet
    case rel => exact ⟨_, (decide (x5_1 < (l1.length : Int))), zJJ, H', ⟨by have := HK1.1; first | omega | exact Nat.le_refl _⟩, zDD⟩
   case rest =>
    clear HC3
    obtain ⟨kq, x15_2, rfl, HA, HJ2, ⟨mc2, rfl⟩⟩ := hcut
    cases kq with
    | zero => exact absurd HA.1 (by simp [spec_ClockWithin.j1])
    | succ kj2 =>
     have H := HA.1
     clear HA
     simp only [spec_ClockWithin.j1] at H
     by_cases c5 : x15_2 = true
     rotate_left
     ·replace c5 := Bool.eq_false_iff.mpr c5
      subst c5
      rw [if_neg zF] at H
      obtain rfl := Option.some.inj H
      go_wp2
      repeat (go_quiet (fail); try go_wp2)
      go_ret
      exact ⟨zJJ, zDD⟩
     subst c5
     rw [if_pos rfl] at H
     replace H := zIt H
     obtain ⟨c6b0, H⟩ := H
     replace H := zIt H
     obtain ⟨c7b0, H⟩ := H
     replace H := zIt H
     obtain ⟨c8b0, H⟩ := H
     by_cases c9 : (rd l0 x5_1) > (rd l1 x5_1)
     ·rw [if_pos c9] at H
      have c9b0 := decide_eq_true c9
      clear c9
      obtain rfl := Option.some.inj H
      obtain ⟨p740, q740, ad740, e740, hx740_0⟩ := zRd (Kd.at_int HR0.1 x5_1)
      cases e740
      obtain ⟨p741, q741, ad741, e741, hx741_0⟩ := zRd (Kd.at_int HR1.1 x5_1)
      cases e741
      go_wp2
      repeat (go_quiet (fail); try go_wp2)
      go_ret
      exact ⟨zJJ, zDD⟩
     rw [if_neg c9] at H
     have c9b0 := decide_eq_false c9
     clear c9
     have H' := zM H
     clear H
     obtain ⟨p740, q740, ad740, e740, hx740_0⟩ := zRd (Kd.at_int HR0.1 x5_1)
     cases e740
     obtain ⟨p741, q741, ad741, e741, hx741_0⟩ := zRd (Kd.at_int HR1.1 x5_1)
     cases e741
     go_wp2
     repeat (go_quiet (fail); try go_wp2)
     go_roundg kj2
     case measure => have := HK1.1; have := HJ2.1; omega
     case rel => exact ⟨(wrap64 (x5_1 + 1)), zJJ, H', ⟨by have := HK1.1; have := HJ2.1; omega⟩, zDD⟩

/-! ### spec_l20Meet: function 47 -/
def spec_l20Meet.f (a0_0 : Int) (a0_1 : Int) (a0_2 : Int) (a0_3 : Int) (a0_4 : Int) (a1_0 : Int) (a1_1 : Int) (a1_2 : Int) (a1_3 : Int) (a1_4 : Int) : Option (Bool) := if a0_0 = a1_0 then (some false) else (if a0_2 ≥ 0 then (if a0_2 = a1_2 then (if a0_4 ≥ 0 then ((spec_l20Swap.f a0_0 a0_1 a0_2 a0_3 a0_4).bind fun t744 => (if t744 = true then ((spec_l20Swap.f a1_0 a1_1 a1_2 a1_3 a1_4).bind fun t745 => (some (!t745))) else (some (!false)))) else (if a1_4 ≥ 0 then ((spec_l20Swap.f a0_0 a0_1 a0_2 a0_3 a0_4).bind fun t746 => (if t746 = true then ((spec_l20Swap.f a1_0 a1_1 a1_2 a1_3 a1_4).bind fun t747 => (some (!t747))) else (some (!false)))) else (some false))) else (some false)) else (some false))
theorem spec_l20Meet.calls (a0_0 : Int) (a0_1 : Int) (a0_2 : Int) (a0_3 : Int) (a0_4 : Int) (a1_0 : Int) (a1_1 : Int) (a1_2 : Int) (a1_3 : Int) (a1_4 : Int) (r : Bool) (w : World) (h : spec_l20Meet.f a0_0 a0_1 a0_2 a0_3 a0_4 a1_0 a1_1 a1_2 a1_3 a1_4 = some r) :
  Calls Try.prog 47 #[.agg #[.int .i64 a0_0, .int .i64 a0_1, .int .i64 a0_2, .int .i64 a0_3, .int .i64 a0_4], .agg #[.int .i64 a1_0, .int .i64 a1_1, .int .i64 a1_2, .int .i64 a1_3, .int .i64 a1_4]] w fun e w' => e = .returned (.bool r) ∧ Below w.heap.size w w' := by
 have hu31 := Try.underlying31
 have HB := zM (Below.refl w.heap.size w)
 unfold spec_l20Meet.f at h
 have H := h
 clear h
 by_cases c3 : a0_0 = a1_0
 ·rw [if_pos c3] at H
  have c3b0 : (a0_0 == a1_0) = true := beq_iff_eq.mpr c3
  have c3b1 : (a0_0 != a1_0) = false := bne_eq_false_iff_eq.mpr c3
  clear c3
  obtain rfl := Option.some.inj H
  go_enter Try.func47, Try.ntmps47
  go_wp2_with (first | ((with_reducible refine zBx 2 31 #[.int .i64 a0_0, .int .i64 a0_1, .int .i64 a0_2, .int .i64 a0_3, .int .i64 a0_4] ?_); intro gb742 hg w4 hbox hb; have BK742 := zM hbox; have GW742 := zM (zW hg (below_size zB1)); have GE742 := zM (zW hg (below_size zB1)); replace HB := zM (below_step zB1 hb); clear hb hbox hg) | ((with_reducible refine zBx 3 31 #[.int .i64 a1_0, .int .i64 a1_1, .int .i64 a1_2, .int .i64 a1_3, .int .i64 a1_4] ?_); intro gb743 hg w5 hbox hb; have BK743 := zM hbox; have GW743 := zM (zW hg (below_size zB1)); have GE743 := zM (zW hg (below_size zB1)); replace HB := zM (below_step zB1 hb); have NB742_743 := zM ((zn BK742.1 hg : gb742 ≠ gb743)); have NB743_742 := zM ((zm BK742.1 hg : gb743 ≠ gb742)); replace BK742 := zM (zb BK742.1 hb); clear hb hbox hg; have hnb6 := NB742_743.1; have hnc6 := NB743_742.1; have hcz7 := zc_5 (w := w5) BK742.1; have hcz8 := zc_5 (w := w5) BK743.1))
  go_ret
  exact ⟨zE, zB1⟩
 rw [if_neg c3] at H
 have c3b0 : (a0_0 == a1_0) = false := beq_eq_false_iff_ne.mpr c3
 have c3b1 : (a0_0 != a1_0) = true := bne_iff_ne.mpr c3
 by_cases c9 : a0_2 ≥ 0
 rotate_left
 ·rw [if_neg c9] at H
  have c9b0 := decide_eq_false c9
  clear c9
  obtain rfl := Option.some.inj H
  go_enter Try.func47, Try.ntmps47
  go_wp2_with (first | ((with_reducible refine zBx 2 31 #[.int .i64 a0_0, .int .i64 a0_1, .int .i64 a0_2, .int .i64 a0_3, .int .i64 a0_4] ?_); intro gb742 hg w57 hbox hb; have BK742 := zM hbox; have GW742 := zM (zW hg (below_size zB1)); have GE742 := zM (zW hg (below_size zB1)); replace HB := zM (below_step zB1 hb); clear hb hbox hg) | ((with_reducible refine zBx 3 31 #[.int .i64 a1_0, .int .i64 a1_1, .int .i64 a1_2, .int .i64 a1_3, .int .i64 a1_4] ?_); intro gb743 hg w58 hbox hb; have BK743 := zM hbox; have GW743 := zM (zW hg (below_size zB1)); have GE743 := zM (zW hg (below_size zB1)); replace HB := zM (below_step zB1 hb); have NB742_743 := zM ((zn BK742.1 hg : gb742 ≠ gb743)); have NB743_742 := zM ((zm BK742.1 hg : gb743 ≠ gb742)); replace BK742 := zM (zb BK742.1 hb); clear hb hbox hg; have hnb59 := NB742_743.1; have hnc59 := NB743_742.1; have hcz60 := zc_5 (w := w58) BK742.1; have hcz61 := zc_5 (w := w58) BK743.1))
  go_ret
  exact ⟨zE, zB1⟩
 rw [if_pos c9] at H
 have c9b0 := decide_eq_true c9
 clear c9
 by_cases c10 : a0_2 = a1_2
 rotate_left
 ·rw [if_neg c10] at H
  have c10b0 : (a0_2 == a1_2) = false := beq_eq_false_iff_ne.mpr c10
  have c10b1 : (a0_2 != a1_2) = true := bne_iff_ne.mpr c10
  obtain rfl := Option.some.inj H
  go_enter Try.func47, Try.ntmps47
  go_wp2_with (first | ((with_reducible refine zBx 2 31 #[.int .i64 a0_0, .int .i64 a0_1, .int .i64 a0_2, .int .i64 a0_3, .int .i64 a0_4] ?_); intro gb742 hg w52 hbox hb; have BK742 := zM hbox; have GW742 := zM (zW hg (below_size zB1)); have GE742 := zM (zW hg (below_size zB1)); replace HB := zM (below_step zB1 hb); clear hb hbox hg) | ((with_reducible refine zBx 3 31 #[.int .i64 a1_0, .int .i64 a1_1, .int .i64 a1_2, .int .i64 a1_3, .int .i64 a1_4] ?_); intro gb743 hg w53 hbox hb; have BK743 := zM hbox; have GW743 := zM (zW hg (below_size zB1)); have GE743 := zM (zW hg (below_size zB1)); replace HB := zM (below_step zB1 hb); have NB742_743 := zM ((zn BK742.1 hg : gb742 ≠ gb743)); have NB743_742 := zM ((zm BK742.1 hg : gb743 ≠ gb742)); replace BK742 := zM (zb BK742.1 hb); clear hb hbox hg; have hnb54 := NB742_743.1; have hnc54 := NB743_742.1; have hcz55 := zc_5 (w := w53) BK742.1; have hcz56 := zc_5 (w := w53) BK743.1))
  go_ret
  exact ⟨zE, zB1⟩
 rw [if_pos c10] at H
 have c10b0 : (a0_2 == a1_2) = true := beq_iff_eq.mpr c10
 have c10b1 : (a0_2 != a1_2) = false := bne_eq_false_iff_eq.mpr c10
 clear c10
 by_cases c11 : a0_4 ≥ 0
 ·rw [if_pos c11] at H
  have c11b0 := decide_eq_true c11
  clear c11
  replace H := zO H
  obtain ⟨t744, A12, H⟩ := H
  by_cases c13 : t744 = true
  rotate_left
  ·replace c13 := Bool.eq_false_iff.mpr c13
   subst c13
   rw [if_neg zF] at H
   obtain rfl := Option.some.inj H
   go_enter Try.func47, Try.ntmps47
   go_wp2_with (first | ((with_reducible refine zBx 2 31 #[.int .i64 a0_0, .int .i64 a0_1, .int .i64 a0_2, .int .i64 a0_3, .int .i64 a0_4] ?_); intro gb742 hg w23 hbox hb; have BK742 := zM hbox; have GW742 := zM (zW hg (below_size zB1)); have GE742 := zM (zW hg (below_size zB1)); replace HB := zM (below_step zB1 hb); clear hb hbox hg) | ((with_reducible refine zBx 3 31 #[.int .i64 a1_0, .int .i64 a1_1, .int .i64 a1_2, .int .i64 a1_3, .int .i64 a1_4] ?_); intro gb743 hg w24 hbox hb; have BK743 := zM hbox; have GW743 := zM (zW hg (below_size zB1)); have GE743 := zM (zW hg (below_size zB1)); replace HB := zM (below_step zB1 hb); have NB742_743 := zM ((zn BK742.1 hg : gb742 ≠ gb743)); have NB743_742 := zM ((zm BK742.1 hg : gb743 ≠ gb742)); replace BK742 := zM (zb BK742.1 hb); clear hb hbox hg; have hnb25 := NB742_743.1; have hnc25 := NB743_742.1; have hcz26 := zc_5 (w := w24) BK742.1; have hcz27 := zc_5 (w := w24) BK743.1) | (go_at_call 40; (with_reducible refine (spec_l20Swap.calls a0_0 a0_1 a0_2 a0_3 a0_4 false _ A12.1).mono ?_); rintro e w28 ⟨rfl, hb⟩; replace BK742 := zM (zb BK742.1 hb); replace BK743 := zM (zb BK743.1 hb); replace HB := zM (below_step zB1 hb); clear hb))
   go_ret
   exact ⟨zE, zB1⟩
  subst c13
  rw [if_pos rfl] at H
  replace H := zO H
  obtain ⟨t745, A14, H⟩ := H
  obtain rfl := Option.some.inj H
  go_enter Try.func47, Try.ntmps47
  go_wp2_with (first | ((with_reducible refine zBx 2 31 #[.int .i64 a0_0, .int .i64 a0_1, .int .i64 a0_2, .int .i64 a0_3, .int .i64 a0_4] ?_); intro gb742 hg w15 hbox hb; have BK742 := zM hbox; have GW742 := zM (zW hg (below_size zB1)); have GE742 := zM (zW hg (below_size zB1)); replace HB := zM (below_step zB1 hb); clear hb hbox hg) | ((with_reducible refine zBx 3 31 #[.int .i64 a1_0, .int .i64 a1_1, .int .i64 a1_2, .int .i64 a1_3, .int .i64 a1_4] ?_); intro gb743 hg w16 hbox hb; have BK743 := zM hbox; have GW743 := zM (zW hg (below_size zB1)); have GE743 := zM (zW hg (below_size zB1)); replace HB := zM (below_step zB1 hb); have NB742_743 := zM ((zn BK742.1 hg : gb742 ≠ gb743)); have NB743_742 := zM ((zm BK742.1 hg : gb743 ≠ gb742)); replace BK742 := zM (zb BK742.1 hb); clear hb hbox hg; have hnb17 := NB742_743.1; have hnc17 := NB743_742.1; have hcz18 := zc_5 (w := w16) BK742.1; have hcz19 := zc_5 (w := w16) BK743.1) | (go_at_call 40; (with_reducible refine (spec_l20Swap.calls a0_0 a0_1 a0_2 a0_3 a0_4 true _ A12.1).mono ?_); rintro e w20 ⟨rfl, hb⟩; replace BK742 := zM (zb BK742.1 hb); replace BK743 := zM (zb BK743.1 hb); replace HB := zM (below_step zB1 hb); clear hb; have hcz21 := zc_5 (w := w20) BK743.1) | (go_at_call 40; (with_reducible refine (spec_l20Swap.calls a1_0 a1_1 a1_2 a1_3 a1_4 t745 _ A14.1).mono ?_); rintro e w22 ⟨rfl, hb⟩; replace BK742 := zM (zb BK742.1 hb); replace BK743 := zM (zb BK743.1 hb); replace HB := zM (below_step zB1 hb); clear hb))
  go_ret
  exact ⟨zE, zB1⟩
 rw [if_neg c11] at H
 have c11b0 := decide_eq_false c11
 clear c11
 by_cases c29 : a1_4 ≥ 0
 rotate_left
 ·rw [if_neg c29] at H
  have c29b0 := decide_eq_false c29
  clear c29
  obtain rfl := Option.some.inj H
  go_enter Try.func47, Try.ntmps47
  go_wp2_with (first | ((with_reducible refine zBx 2 31 #[.int .i64 a0_0, .int .i64 a0_1, .int .i64 a0_2, .int .i64 a0_3, .int .i64 a0_4] ?_); intro gb742 hg w47 hbox hb; have BK742 := zM hbox; have GW742 := zM (zW hg (below_size zB1)); have GE742 := zM (zW hg (below_size zB1)); replace HB := zM (below_step zB1 hb); clear hb hbox hg) | ((with_reducible refine zBx 3 31 #[.int .i64 a1_0, .int .i64 a1_1, .int .i64 a1_2, .int .i64 a1_3, .int .i64 a1_4] ?_); intro gb743 hg w48 hbox hb; have BK743 := zM hbox; have GW743 := zM (zW hg (below_size zB1)); have GE743 := zM (zW hg (below_size zB1)); replace HB := zM (below_step zB1 hb); have NB742_743 := zM ((zn BK742.1 hg : gb742 ≠ gb743)); have NB743_742 := zM ((zm BK742.1 hg : gb743 ≠ gb742)); replace BK742 := zM (zb BK742.1 hb); clear hb hbox hg; have hnb49 := NB742_743.1; have hnc49 := NB743_742.1; have hcz50 := zc_5 (w := w48) BK742.1; have hcz51 := zc_5 (w := w48) BK743.1))
  go_ret
  exact ⟨zE, zB1⟩
 rw [if_pos c29] at H
 have c29b0 := decide_eq_true c29
 clear c29
 replace H := zO H
 obtain ⟨t746, A30, H⟩ := H
 by_cases c31 : t746 = true
 rotate_left
 ·replace c31 := Bool.eq_false_iff.mpr c31
  subst c31
  rw [if_neg zF] at H
  obtain rfl := Option.some.inj H
  go_enter Try.func47, Try.ntmps47
  go_wp2_with (first | ((with_reducible refine zBx 2 31 #[.int .i64 a0_0, .int .i64 a0_1, .int .i64 a0_2, .int .i64 a0_3, .int .i64 a0_4] ?_); intro gb742 hg w41 hbox hb; have BK742 := zM hbox; have GW742 := zM (zW hg (below_size zB1)); have GE742 := zM (zW hg (below_size zB1)); replace HB := zM (below_step zB1 hb); clear hb hbox hg) | ((with_reducible refine zBx 3 31 #[.int .i64 a1_0, .int .i64 a1_1, .int .i64 a1_2, .int .i64 a1_3, .int .i64 a1_4] ?_); intro gb743 hg w42 hbox hb; have BK743 := zM hbox; have GW743 := zM (zW hg (below_size zB1)); have GE743 := zM (zW hg (below_size zB1)); replace HB := zM (below_step zB1 hb); have NB742_743 := zM ((zn BK742.1 hg : gb742 ≠ gb743)); have NB743_742 := zM ((zm BK742.1 hg : gb743 ≠ gb742)); replace BK742 := zM (zb BK742.1 hb); clear hb hbox hg; have hnb43 := NB742_743.1; have hnc43 := NB743_742.1; have hcz44 := zc_5 (w := w42) BK742.1; have hcz45 := zc_5 (w := w42) BK743.1) | (go_at_call 40; (with_reducible refine (spec_l20Swap.calls a0_0 a0_1 a0_2 a0_3 a0_4 false _ A30.1).mono ?_); rintro e w46 ⟨rfl, hb⟩; replace BK742 := zM (zb BK742.1 hb); replace BK743 := zM (zb BK743.1 hb); replace HB := zM (below_step zB1 hb); clear hb))
  go_ret
  exact ⟨zE, zB1⟩
 subst c31
 rw [if_pos rfl] at H
 replace H := zO H
 obtain ⟨t747, A32, H⟩ := H
 obtain rfl := Option.some.inj H
 go_enter Try.func47, Try.ntmps47
 go_wp2_with (first | ((with_reducible refine zBx 2 31 #[.int .i64 a0_0, .int .i64 a0_1, .int .i64 a0_2, .int .i64 a0_3, .int .i64 a0_4] ?_); intro gb742 hg w33 hbox hb; have BK742 := zM hbox; have GW742 := zM (zW hg (below_size zB1)); have GE742 := zM (zW hg (below_size zB1)); replace HB := zM (below_step zB1 hb); clear hb hbox hg) | ((with_reducible refine zBx 3 31 #[.int .i64 a1_0, .int .i64 a1_1, .int .i64 a1_2, .int .i64 a1_3, .int .i64 a1_4] ?_); intro gb743 hg w34 hbox hb; have BK743 := zM hbox; have GW743 := zM (zW hg (below_size zB1)); have GE743 := zM (zW hg (below_size zB1)); replace HB := zM (below_step zB1 hb); have NB742_743 := zM ((zn BK742.1 hg : gb742 ≠ gb743)); have NB743_742 := zM ((zm BK742.1 hg : gb743 ≠ gb742)); replace BK742 := zM (zb BK742.1 hb); clear hb hbox hg; have hnb35 := NB742_743.1; have hnc35 := NB743_742.1; have hcz36 := zc_5 (w := w34) BK742.1; have hcz37 := zc_5 (w := w34) BK743.1) | (go_at_call 40; (with_reducible refine (spec_l20Swap.calls a0_0 a0_1 a0_2 a0_3 a0_4 true _ A30.1).mono ?_); rintro e w38 ⟨rfl, hb⟩; replace BK742 := zM (zb BK742.1 hb); replace BK743 := zM (zb BK743.1 hb); replace HB := zM (below_step zB1 hb); clear hb; have hcz39 := zc_5 (w := w38) BK743.1) | (go_at_call 40; (with_reducible refine (spec_l20Swap.calls a1_0 a1_1 a1_2 a1_3 a1_4 t747 _ A32.1).mono ?_); rintro e w40 ⟨rfl, hb⟩; replace BK742 := zM (zb BK742.1 hb); replace BK743 := zM (zb BK743.1 hb); replace HB := zM (below_step zB1 hb); clear hb))
 go_ret
 exact ⟨zE, zB1⟩

end Go.Proofs.Ytgbjengnkbomoaa.PFnRaces
