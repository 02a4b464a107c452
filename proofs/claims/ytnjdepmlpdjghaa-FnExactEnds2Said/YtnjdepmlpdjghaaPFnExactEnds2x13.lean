-- made by wip/tools/myprint.py out of the seat's translation
import Derived.Test.YtnjdepmlpdjghaaPFnExactEnds2x0
import Derived.Test.YtnjdepmlpdjghaaPFnExactEnds2x12
namespace Go.Proofs.Ytnjdepmlpdjghaa.PFnExactEnds2
open Go.RowKit Go.Proofs.YtnjdepmlpdjghaaW.PrintWords Go.Proofs.YtnjdepmlpdjghaaW.PrintLast Go.Proofs.YtnjdepmlpdjghaaW.PrintMore
attribute [local go_sem] max2_int min2_int max_two min_two max_three min_three max_four min_four   -- for this text's walks alone
set_option linter.unusedVariables false
set_option linter.unusedSimpArgs false
set_option maxHeartbeats 8000000
set_option maxRecDepth 100000
abbrev zq13_0 : Array Bool := #[false, false, false, false, false, false, false, false, false, false]
abbrev zq13_1 : Array Bool := #[true, false, false, false, false, false, false, false, false, false]
abbrev zq13_2 : Array Bool := #[true, true, false, false, false, false, false, false, false, false]
abbrev zq13_3 : Array Bool := #[true, true, true, false, false, false, false, false, false, false]
abbrev zq13_4 : Array Bool := #[true, true, true, false, true, false, false, false, false, false]
abbrev zq13_5 : Array Bool := #[true, true, true, false, true, true, false, false, false, false]
abbrev zq13_6 : Array Bool := #[true, true, true, false, true, true, true, false, false, false]
abbrev zq13_7 : Array Bool := #[true, true, true, true, true, true, true, false, false, false]
abbrev zq13_8 : Array Bool := #[true, true, true, true, true, true, true, true, false, false]
abbrev zq13_9 : Array Bool := #[true, true, true, true, true, true, true, true, true, false]
abbrev zq13_10 : Array Bool := #[true, true, true, true, true, true, true, true, true, true]

/-! ### laws_eqIntSS: function 25 -/
def laws_eqIntSS.l0 : Nat → List (List Int) → List (List Int) → Int → Option (Bool)
 | 0, _, _, _ => none
 | k + 1, x0, x1, x5 => if x5 < (x0.length : Int) then (if 0 ≤ x5 then (if x5 < (x1.length : Int) then ((laws_eqIntS.f k (rd_L1 x0 x5) (rd_L1 x1 x5)).bind fun t398 => (if t398 = true then (laws_eqIntSS.l0 k x0 x1 (wrap64 (x5 + 1))) else (some false))) else (none)) else (none)) else (some true)
def laws_eqIntSS.f (k : Nat) (l0 : List (List Int)) (l1 : List (List Int)) : Option (Bool) := if (l0.length : Int) = (l1.length : Int) then (laws_eqIntSS.l0 k l0 l1 0) else (some false)
theorem laws_eqIntSS.mono_l : ∀ k, (∀ y0 y1 y2, LeO (laws_eqIntSS.l0 k y0 y1 y2) (laws_eqIntSS.l0 (k + 1) y0 y1 y2))
 | 0 => fun _ _ _ r h => by simp [laws_eqIntSS.l0] at h
 | k + 1 => by
  have ih0 := laws_eqIntSS.mono_l k
  ·intros
   unfold laws_eqIntSS.l0
   have mo0 := @laws_eqIntS.mono
   exact zL
theorem laws_eqIntSS.mono : ∀ a0 a1 k, LeO (laws_eqIntSS.f k a0 a1) (laws_eqIntSS.f (k + 1) a0 a1) := by
 intro a0 a1 k
 have ih0 := laws_eqIntSS.mono_l k
 unfold laws_eqIntSS.f
 have mo0 := @laws_eqIntS.mono
 exact zL
theorem laws_eqIntSS.calls (k : Nat) (A0 : Option Addr) (c0 : Nat) (l0 : List (List Int)) (A1 : Option Addr) (c1 : Nat) (l1 : List (List Int)) (r : Bool) (w : World) (hr0 : Kd.C (Kd.slice 3 (Kd.int .i64)) w A0 l0.length l0) (hc0 : l0.length ≤ c0) (hr1 : Kd.C (Kd.slice 3 (Kd.int .i64)) w A1 l1.length l1) (hc1 : l1.length ≤ c1) (h : laws_eqIntSS.f k l0 l1 = some r) :
  Calls Try.prog 25 #[.slice A0 l0.length c0, .slice A1 l1.length c1] w fun e w' => e = .returned (.bool r) ∧ Drawn0 w w' := by
 have HR0 := zM hr0
 have HC0 := zM hc0
 clear hr0 hc0
 have HR1 := zM hr1
 have HC1 := zM hc1
 clear hr1 hc1
 unfold laws_eqIntSS.f at h
 have H := h
 clear h
 by_cases c3 : (l0.length : Int) = (l1.length : Int)
 rotate_left
 ·rw [if_neg c3] at H
  have c3b0 : ((l0.length : Int) == (l1.length : Int)) = false := beq_eq_false_iff_ne.mpr c3
  have c3b1 : ((l0.length : Int) != (l1.length : Int)) = true := bne_iff_ne.mpr c3
  have c3b2 : (l0.length == l1.length) = false := by first | simpa using c3 | (simp at c3 ⊢; omega)
  obtain rfl := Option.some.inj H
  go_enter Try.func25, Try.ntmps25
  go_wp2
  repeat (go_quiet (fail); try go_wp2)
  go_ret
  exact ⟨zJJ, zDD⟩
 rw [if_pos c3] at H
 have c3b0 : ((l0.length : Int) == (l1.length : Int)) = true := beq_iff_eq.mpr c3
 have c3b1 : ((l0.length : Int) != (l1.length : Int)) = false := bne_eq_false_iff_eq.mpr c3
 have c3b2 : (l0.length == l1.length) = true := by first | simpa using c3 | (simp at c3 ⊢; omega)
 clear c3
 have H' := zM H
 clear H
 go_enter Try.func25, Try.ntmps25
 go_wp2
 repeat (go_quiet (fail); try go_wp2)
 go_loopg [5] k (fun kq v5 w' => ∃ (x5_1 : Int), v5 = .int .i64 x5_1 ∧ Aside0 (laws_eqIntSS.l0 kq l0 l1 x5_1 = some r) ∧ Aside0 (kq ≤ k) ∧ Drawn0 w w')
 case atStart => exact ⟨(0), zJJ, H', ⟨Nat.le_refl _⟩, zDD⟩
 case round =>
  clear H'
  try clear c1
  try clear c2
  try clear p2
  try clear c3
  try clear c3b0
  try clear c3b1
  try clear c3b2
  obtain ⟨x5_1, rfl, HA, HK1, ⟨m1, rfl⟩⟩ := hrel
  cases gk with
  | zero => exact absurd HA.1 (by simp [laws_eqIntSS.l0])
  | succ k1 =>
   have H := HA.1
   clear HA
   simp only [laws_eqIntSS.l0] at H
   by_cases c4 : x5_1 < (l0.length : Int)
   rotate_left
   ·rw [if_neg c4] at H
    have c4b0 := decide_eq_false c4
    clear c4
    obtain rfl := Option.some.inj H
    go_wp2
    repeat (go_quiet (fail); try go_wp2)
    go_ret
    exact ⟨zJJ, zDD⟩
   rw [if_pos c4] at H
   have c4b0 := decide_eq_true c4
   clear c4
   by_cases c5 : 0 ≤ x5_1
   rotate_left
   ·rw [if_neg c5] at H
    exact absurd H (by simp)
   rw [if_pos c5] at H
   have c5b0 := decide_eq_true c5
   clear c5
   by_cases c6 : x5_1 < (l1.length : Int)
   rotate_left
   ·rw [if_neg c6] at H
    exact absurd H (by simp)
   rw [if_pos c6] at H
   have c6b0 := decide_eq_true c6
   clear c6
   replace H := zO H
   obtain ⟨t398, A7, H⟩ := H
   by_cases c8 : t398 = true
   rotate_left
   ·replace c8 := Bool.eq_false_iff.mpr c8
    subst c8
    rw [if_neg zF] at H
    obtain rfl := Option.some.inj H
    have p396 : 0 ≤ (x5_1 : Int) := zA
    have q396 : x5_1 < (l0.length : Int) := zA
    obtain ⟨ad396, A396_0, c396_0, e396, hx396_0, hl396_0, hi396_0⟩ := at_L1 HR0.1 x5_1 p396 q396
    cases e396
    have HR396_0 := zM hi396_0
    have HC396_0 := zM hl396_0
    clear hi396_0 hl396_0
    replace p396 := eq_true p396
    replace q396 := eq_true q396
    have p397 : 0 ≤ (x5_1 : Int) := zA
    have q397 : x5_1 < (l1.length : Int) := zA
    obtain ⟨ad397, A397_0, c397_0, e397, hx397_0, hl397_0, hi397_0⟩ := at_L1 HR1.1 x5_1 p397 q397
    cases e397
    have HR397_0 := zM hi397_0
    have HC397_0 := zM hl397_0
    clear hi397_0 hl397_0
    replace p397 := eq_true p397
    replace q397 := eq_true q397
    go_wp2_with (first | (go_at_call 26; (with_reducible refine (laws_eqIntS.calls k1 _ _ (rd_L1 l0 x5_1) _ _ (rd_L1 l1 x5_1) false _ ?side1 ?side2 ?side3 ?side4 A7.1).mono ?_); (case side1 => exact zC HR396_0.1); (case side2 => exact HC396_0.1); (case side3 => exact zC HR397_0.1); (case side4 => exact HC397_0.1); rintro e w' ⟨rfl, ⟨nd, rfl⟩⟩; (try first | exact ⟨rfl, _, World.drewN_drewN _ _ _⟩ | exact ⟨rfl, _, Eq.trans (World.drewN_drewN _ _ _) (congrArg (World.drewN _) (Nat.add_assoc _ _ _))⟩)))
    repeat (go_quiet (first | (go_at_call 26; (with_reducible refine (laws_eqIntS.calls k1 _ _ (rd_L1 l0 x5_1) _ _ (rd_L1 l1 x5_1) false _ ?side1 ?side2 ?side3 ?side4 A7.1).mono ?_); (case side1 => exact zC HR396_0.1); (case side2 => exact HC396_0.1); (case side3 => exact zC HR397_0.1); (case side4 => exact HC397_0.1); rintro e w' ⟨rfl, ⟨nd, rfl⟩⟩; (try first | exact ⟨rfl, _, World.drewN_drewN _ _ _⟩ | exact ⟨rfl, _, Eq.trans (World.drewN_drewN _ _ _) (congrArg (World.drewN _) (Nat.add_assoc _ _ _))⟩))); try go_wp2_with (first | (go_at_call 26; (with_reducible refine (laws_eqIntS.calls k1 _ _ (rd_L1 l0 x5_1) _ _ (rd_L1 l1 x5_1) false _ ?side1 ?side2 ?side3 ?side4 A7.1).mono ?_); (case side1 => exact zC HR396_0.1); (case side2 => exact HC396_0.1); (case side3 => exact zC HR397_0.1); (case side4 => exact HC397_0.1); rintro e w' ⟨rfl, ⟨nd, rfl⟩⟩; (try first | exact ⟨rfl, _, World.drewN_drewN _ _ _⟩ | exact ⟨rfl, _, Eq.trans (World.drewN_drewN _ _ _) (congrArg (World.drewN _) (Nat.add_assoc _ _ _))⟩))))
    go_ret
    exact ⟨zJJ, zDD⟩
   subst c8
   rw [if_pos rfl] at H
   have H' := zM H
   clear H
   have p396 : 0 ≤ (x5_1 : Int) := zA
   have q396 : x5_1 < (l0.length : Int) := zA
   obtain ⟨ad396, A396_0, c396_0, e396, hx396_0, hl396_0, hi396_0⟩ := at_L1 HR0.1 x5_1 p396 q396
   cases e396
   have HR396_0 := zM hi396_0
   have HC396_0 := zM hl396_0
   clear hi396_0 hl396_0
   replace p396 := eq_true p396
   replace q396 := eq_true q396
   have p397 : 0 ≤ (x5_1 : Int) := zA
   have q397 : x5_1 < (l1.length : Int) := zA
   obtain ⟨ad397, A397_0, c397_0, e397, hx397_0, hl397_0, hi397_0⟩ := at_L1 HR1.1 x5_1 p397 q397
   cases e397
   have HR397_0 := zM hi397_0
   have HC397_0 := zM hl397_0
   clear hi397_0 hl397_0
   replace p397 := eq_true p397
   replace q397 := eq_true q397
   go_wp2_with (first | (go_at_call 26; (with_reducible refine (laws_eqIntS.calls k1 _ _ (rd_L1 l0 x5_1) _ _ (rd_L1 l1 x5_1) true _ ?side1 ?side2 ?side3 ?side4 A7.1).mono ?_); (case side1 => exact zC HR396_0.1); (case side2 => exact HC396_0.1); (case side3 => exact zC HR397_0.1); (case side4 => exact HC397_0.1); rintro e w' ⟨rfl, ⟨nd, rfl⟩⟩; (try first | exact ⟨rfl, _, World.drewN_drewN _ _ _⟩ | exact ⟨rfl, _, Eq.trans (World.drewN_drewN _ _ _) (congrArg (World.drewN _) (Nat.add_assoc _ _ _))⟩)))
   repeat (go_quiet (first | (go_at_call 26; (with_reducible refine (laws_eqIntS.calls k1 _ _ (rd_L1 l0 x5_1) _ _ (rd_L1 l1 x5_1) true _ ?side1 ?side2 ?side3 ?side4 A7.1).mono ?_); (case side1 => exact zC HR396_0.1); (case side2 => exact HC396_0.1); (case side3 => exact zC HR397_0.1); (case side4 => exact HC397_0.1); rintro e w' ⟨rfl, ⟨nd, rfl⟩⟩; (try first | exact ⟨rfl, _, World.drewN_drewN _ _ _⟩ | exact ⟨rfl, _, Eq.trans (World.drewN_drewN _ _ _) (congrArg (World.drewN _) (Nat.add_assoc _ _ _))⟩))); try go_wp2_with (first | (go_at_call 26; (with_reducible refine (laws_eqIntS.calls k1 _ _ (rd_L1 l0 x5_1) _ _ (rd_L1 l1 x5_1) true _ ?side1 ?side2 ?side3 ?side4 A7.1).mono ?_); (case side1 => exact zC HR396_0.1); (case side2 => exact HC396_0.1); (case side3 => exact zC HR397_0.1); (case side4 => exact HC397_0.1); rintro e w' ⟨rfl, ⟨nd, rfl⟩⟩; (try first | exact ⟨rfl, _, World.drewN_drewN _ _ _⟩ | exact ⟨rfl, _, Eq.trans (World.drewN_drewN _ _ _) (congrArg (World.drewN _) (Nat.add_assoc _ _ _))⟩))))
   go_roundg k1
   case measure => have := HK1.1; omega
   case rel => exact ⟨(wrap64 (x5_1 + 1)), zJJ, H', ⟨by have := HK1.1; omega⟩, zDD⟩

/-! ### laws_eqHart: function 60 -/
def laws_eqHart.f (k : Nat) (l0_0 : List Int) (a0_1 : Int) (a0_2 : Int) (l1_0 : List Int) (a1_1 : Int) (a1_2 : Int) : Option (Bool) := (laws_eqIntS.f k l0_0 l1_0).bind fun t401 => (if t401 = true then (if a0_1 = a1_1 then (if a0_2 = a1_2 then (some true) else (some false)) else (some false)) else (some false))
theorem laws_eqHart.mono : ∀ a0 a1 a2 a3 a4 a5 k, LeO (laws_eqHart.f k a0 a1 a2 a3 a4 a5) (laws_eqHart.f (k + 1) a0 a1 a2 a3 a4 a5) := by
 intro a0 a1 a2 a3 a4 a5 k
 unfold laws_eqHart.f
 have mo0 := @laws_eqIntS.mono
 exact zL
theorem laws_eqHart.calls (k : Nat) (A0_0 : Option Addr) (c0_0 : Nat) (l0_0 : List Int) (a0_1 : Int) (a0_2 : Int) (A1_0 : Option Addr) (c1_0 : Nat) (l1_0 : List Int) (a1_1 : Int) (a1_2 : Int) (r : Bool) (w : World) (hr0_0 : Kd.C (Kd.int .i64) w A0_0 l0_0.length l0_0) (hc0_0 : l0_0.length ≤ c0_0) (hr1_0 : Kd.C (Kd.int .i64) w A1_0 l1_0.length l1_0) (hc1_0 : l1_0.length ≤ c1_0) (h : laws_eqHart.f k l0_0 a0_1 a0_2 l1_0 a1_1 a1_2 = some r) :
  Calls Try.prog 60 #[.agg #[.slice A0_0 l0_0.length c0_0, .int .i64 a0_1, .int .i64 a0_2], .agg #[.slice A1_0 l1_0.length c1_0, .int .i64 a1_1, .int .i64 a1_2]] w fun e w' => e = .returned (.bool r) ∧ Below w.heap.size w w' := by
 have hu29 := Try.underlying29
 have HR0_0 := zM hr0_0
 have HC0_0 := zM hc0_0
 clear hr0_0 hc0_0
 have HR1_0 := zM hr1_0
 have HC1_0 := zM hc1_0
 clear hr1_0 hc1_0
 have HB := zM (Below.refl w.heap.size w)
 unfold laws_eqHart.f at h
 have H := h
 clear h
 replace H := zO H
 obtain ⟨t401, A3, H⟩ := H
 by_cases c4 : t401 = true
 rotate_left
 ·replace c4 := Bool.eq_false_iff.mpr c4
  subst c4
  rw [if_neg zF] at H
  obtain rfl := Option.some.inj H
  go_enter Try.func60, Try.ntmps60
  go_wp2_with (first | ((with_reducible refine gate_dst (N := 2) rfl ?_); refine box_event ?hg (N := 2) ?hd (cs := #[.slice A0_0 l0_0.length c0_0, .int .i64 a0_1, .int .i64 a0_2]) (t := 29) ?hr ?_; (case hd => rfl); (case hg => rfl); (case hr => exact zHH); intro gb399 hg w22 hbox hb; have BK399 := zM hbox; have GW399 := zM (zW hg (below_size zB0)); have GE399 := zM (zW hg (below_size zB0)); replace HB := zM (below_step zB0 hb); clear hb hbox hg) | ((with_reducible refine gate_dst (N := 3) rfl ?_); refine box_event ?hg (N := 3) ?hd (cs := #[.slice A1_0 l1_0.length c1_0, .int .i64 a1_1, .int .i64 a1_2]) (t := 29) ?hr ?_; (case hd => rfl); (case hg => rfl); (case hr => exact zHH); intro gb400 hg w23 hbox hb; have BK400 := zM hbox; have GW400 := zM (zW hg (below_size zB48)); have GE400 := zM (zW hg (below_size zB48)); replace HB := zM (below_step zB48 hb); have NB399_400 := zM ((zn BK399.1 hg : gb399 ≠ gb400)); have NB400_399 := zM ((zm BK399.1 hg : gb400 ≠ gb399)); replace BK399 := zM (zb BK399.1 hb); clear hb hbox hg; have hnb24 := NB399_400.1; have hnc24 := NB400_399.1; have hcz25 := zc_3 (w := w23) BK399.1; have hcz26 := zc_3 (w := w23) BK400.1) | ((with_reducible refine gate_callee (f := 26) rfl ?_); refine goesL_ (some 9) rfl rfl Try.func26 (by kernel_rfl) rfl #[.slice A0_0 l0_0.length c0_0, .slice A1_0 l1_0.length c1_0] rfl zT ?_; (with_reducible refine (laws_eqIntS.calls k _ _ l0_0 _ _ l1_0 false _ ?side1 ?side2 ?side3 ?side4 A3.1).mono ?_); (case side1 => exact zC (Kd.C_below HR0_0.1 HB.1)); (case side2 => exact HC0_0.1); (case side3 => exact zC (Kd.C_below HR1_0.1 HB.1)); (case side4 => exact HC1_0.1); rintro e w' ⟨rfl, ⟨nd, rfl⟩⟩; refine ⟨_, rfl, ?_⟩))
  go_ret
  exact ⟨zE, zB49⟩
 subst c4
 rw [if_pos rfl] at H
 by_cases c5 : a0_1 = a1_1
 rotate_left
 ·rw [if_neg c5] at H
  have c5b0 : (a0_1 == a1_1) = false := beq_eq_false_iff_ne.mpr c5
  have c5b1 : (a0_1 != a1_1) = true := bne_iff_ne.mpr c5
  obtain rfl := Option.some.inj H
  go_enter Try.func60, Try.ntmps60
  go_wp2_with (first | ((with_reducible refine gate_dst (N := 2) rfl ?_); refine box_event ?hg (N := 2) ?hd (cs := #[.slice A0_0 l0_0.length c0_0, .int .i64 a0_1, .int .i64 a0_2]) (t := 29) ?hr ?_; (case hd => rfl); (case hg => rfl); (case hr => exact zHH); intro gb399 hg w17 hbox hb; have BK399 := zM hbox; have GW399 := zM (zW hg (below_size zB0)); have GE399 := zM (zW hg (below_size zB0)); replace HB := zM (below_step zB0 hb); clear hb hbox hg) | ((with_reducible refine gate_dst (N := 3) rfl ?_); refine box_event ?hg (N := 3) ?hd (cs := #[.slice A1_0 l1_0.length c1_0, .int .i64 a1_1, .int .i64 a1_2]) (t := 29) ?hr ?_; (case hd => rfl); (case hg => rfl); (case hr => exact zHH); intro gb400 hg w18 hbox hb; have BK400 := zM hbox; have GW400 := zM (zW hg (below_size zB48)); have GE400 := zM (zW hg (below_size zB48)); replace HB := zM (below_step zB48 hb); have NB399_400 := zM ((zn BK399.1 hg : gb399 ≠ gb400)); have NB400_399 := zM ((zm BK399.1 hg : gb400 ≠ gb399)); replace BK399 := zM (zb BK399.1 hb); clear hb hbox hg; have hnb19 := NB399_400.1; have hnc19 := NB400_399.1; have hcz20 := zc_3 (w := w18) BK399.1; have hcz21 := zc_3 (w := w18) BK400.1) | ((with_reducible refine gate_callee (f := 26) rfl ?_); refine goesL_ (some 9) rfl rfl Try.func26 (by kernel_rfl) rfl #[.slice A0_0 l0_0.length c0_0, .slice A1_0 l1_0.length c1_0] rfl zT ?_; (with_reducible refine (laws_eqIntS.calls k _ _ l0_0 _ _ l1_0 true _ ?side1 ?side2 ?side3 ?side4 A3.1).mono ?_); (case side1 => exact zC (Kd.C_below HR0_0.1 HB.1)); (case side2 => exact HC0_0.1); (case side3 => exact zC (Kd.C_below HR1_0.1 HB.1)); (case side4 => exact HC1_0.1); rintro e w' ⟨rfl, ⟨nd, rfl⟩⟩; refine ⟨_, rfl, ?_⟩))
  go_ret
  exact ⟨zE, zB49⟩
 rw [if_pos c5] at H
 have c5b0 : (a0_1 == a1_1) = true := beq_iff_eq.mpr c5
 have c5b1 : (a0_1 != a1_1) = false := bne_eq_false_iff_eq.mpr c5
 clear c5
 by_cases c6 : a0_2 = a1_2
 rotate_left
 ·rw [if_neg c6] at H
  have c6b0 : (a0_2 == a1_2) = false := beq_eq_false_iff_ne.mpr c6
  have c6b1 : (a0_2 != a1_2) = true := bne_iff_ne.mpr c6
  obtain rfl := Option.some.inj H
  go_enter Try.func60, Try.ntmps60
  go_wp2_with (first | ((with_reducible refine gate_dst (N := 2) rfl ?_); refine box_event ?hg (N := 2) ?hd (cs := #[.slice A0_0 l0_0.length c0_0, .int .i64 a0_1, .int .i64 a0_2]) (t := 29) ?hr ?_; (case hd => rfl); (case hg => rfl); (case hr => exact zHH); intro gb399 hg w12 hbox hb; have BK399 := zM hbox; have GW399 := zM (zW hg (below_size zB0)); have GE399 := zM (zW hg (below_size zB0)); replace HB := zM (below_step zB0 hb); clear hb hbox hg) | ((with_reducible refine gate_dst (N := 3) rfl ?_); refine box_event ?hg (N := 3) ?hd (cs := #[.slice A1_0 l1_0.length c1_0, .int .i64 a1_1, .int .i64 a1_2]) (t := 29) ?hr ?_; (case hd => rfl); (case hg => rfl); (case hr => exact zHH); intro gb400 hg w13 hbox hb; have BK400 := zM hbox; have GW400 := zM (zW hg (below_size zB48)); have GE400 := zM (zW hg (below_size zB48)); replace HB := zM (below_step zB48 hb); have NB399_400 := zM ((zn BK399.1 hg : gb399 ≠ gb400)); have NB400_399 := zM ((zm BK399.1 hg : gb400 ≠ gb399)); replace BK399 := zM (zb BK399.1 hb); clear hb hbox hg; have hnb14 := NB399_400.1; have hnc14 := NB400_399.1; have hcz15 := zc_3 (w := w13) BK399.1; have hcz16 := zc_3 (w := w13) BK400.1) | ((with_reducible refine gate_callee (f := 26) rfl ?_); refine goesL_ (some 9) rfl rfl Try.func26 (by kernel_rfl) rfl #[.slice A0_0 l0_0.length c0_0, .slice A1_0 l1_0.length c1_0] rfl zT ?_; (with_reducible refine (laws_eqIntS.calls k _ _ l0_0 _ _ l1_0 true _ ?side1 ?side2 ?side3 ?side4 A3.1).mono ?_); (case side1 => exact zC (Kd.C_below HR0_0.1 HB.1)); (case side2 => exact HC0_0.1); (case side3 => exact zC (Kd.C_below HR1_0.1 HB.1)); (case side4 => exact HC1_0.1); rintro e w' ⟨rfl, ⟨nd, rfl⟩⟩; refine ⟨_, rfl, ?_⟩))
  go_ret
  exact ⟨zE, zB49⟩
 rw [if_pos c6] at H
 have c6b0 : (a0_2 == a1_2) = true := beq_iff_eq.mpr c6
 have c6b1 : (a0_2 != a1_2) = false := bne_eq_false_iff_eq.mpr c6
 clear c6
 obtain rfl := Option.some.inj H
 go_enter Try.func60, Try.ntmps60
 go_wp2_with (first | ((with_reducible refine gate_dst (N := 2) rfl ?_); refine box_event ?hg (N := 2) ?hd (cs := #[.slice A0_0 l0_0.length c0_0, .int .i64 a0_1, .int .i64 a0_2]) (t := 29) ?hr ?_; (case hd => rfl); (case hg => rfl); (case hr => exact zHH); intro gb399 hg w7 hbox hb; have BK399 := zM hbox; have GW399 := zM (zW hg (below_size zB0)); have GE399 := zM (zW hg (below_size zB0)); replace HB := zM (below_step zB0 hb); clear hb hbox hg) | ((with_reducible refine gate_dst (N := 3) rfl ?_); refine box_event ?hg (N := 3) ?hd (cs := #[.slice A1_0 l1_0.length c1_0, .int .i64 a1_1, .int .i64 a1_2]) (t := 29) ?hr ?_; (case hd => rfl); (case hg => rfl); (case hr => exact zHH); intro gb400 hg w8 hbox hb; have BK400 := zM hbox; have GW400 := zM (zW hg (below_size zB48)); have GE400 := zM (zW hg (below_size zB48)); replace HB := zM (below_step zB48 hb); have NB399_400 := zM ((zn BK399.1 hg : gb399 ≠ gb400)); have NB400_399 := zM ((zm BK399.1 hg : gb400 ≠ gb399)); replace BK399 := zM (zb BK399.1 hb); clear hb hbox hg; have hnb9 := NB399_400.1; have hnc9 := NB400_399.1; have hcz10 := zc_3 (w := w8) BK399.1; have hcz11 := zc_3 (w := w8) BK400.1) | ((with_reducible refine gate_callee (f := 26) rfl ?_); refine goesL_ (some 9) rfl rfl Try.func26 (by kernel_rfl) rfl #[.slice A0_0 l0_0.length c0_0, .slice A1_0 l1_0.length c1_0] rfl zT ?_; (with_reducible refine (laws_eqIntS.calls k _ _ l0_0 _ _ l1_0 true _ ?side1 ?side2 ?side3 ?side4 A3.1).mono ?_); (case side1 => exact zC (Kd.C_below HR0_0.1 HB.1)); (case side2 => exact HC0_0.1); (case side3 => exact zC (Kd.C_below HR1_0.1 HB.1)); (case side4 => exact HC1_0.1); rintro e w' ⟨rfl, ⟨nd, rfl⟩⟩; refine ⟨_, rfl, ?_⟩))
 go_ret
 exact ⟨zE, zB49⟩

/-! ### laws_eqHartS: function 27 -/
def laws_eqHartS.l0 : Nat → List (S29) → List (S29) → Int → Option (Bool)
 | 0, _, _, _ => none
 | k + 1, x0, x1, x5 => if x5 < (x0.length : Int) then (if 0 ≤ x5 then (if x5 < (x1.length : Int) then ((laws_eqHart.f k ((rd_T29 x0 x5).f0) ((rd_T29 x0 x5).f1) ((rd_T29 x0 x5).f2) ((rd_T29 x1 x5).f0) ((rd_T29 x1 x5).f1) ((rd_T29 x1 x5).f2)).bind fun t404 => (if t404 = true then (laws_eqHartS.l0 k x0 x1 (wrap64 (x5 + 1))) else (some false))) else (none)) else (none)) else (some true)
def laws_eqHartS.f (k : Nat) (l0 : List (S29)) (l1 : List (S29)) : Option (Bool) := if (l0.length : Int) = (l1.length : Int) then (laws_eqHartS.l0 k l0 l1 0) else (some false)
theorem laws_eqHartS.mono_l : ∀ k, (∀ y0 y1 y2, LeO (laws_eqHartS.l0 k y0 y1 y2) (laws_eqHartS.l0 (k + 1) y0 y1 y2))
 | 0 => fun _ _ _ r h => by simp [laws_eqHartS.l0] at h
 | k + 1 => by
  have ih0 := laws_eqHartS.mono_l k
  ·intros
   unfold laws_eqHartS.l0
   have mo0 := @laws_eqHart.mono
   exact zL
theorem laws_eqHartS.mono : ∀ a0 a1 k, LeO (laws_eqHartS.f k a0 a1) (laws_eqHartS.f (k + 1) a0 a1) := by
 intro a0 a1 k
 have ih0 := laws_eqHartS.mono_l k
 unfold laws_eqHartS.f
 have mo0 := @laws_eqHart.mono
 exact zL
def laws_eqHartS.T6 : Bool × List (List Nat × List Nat) := (true, [([], []), ([], []), ([0, 1], [0, 1]), ([2], [2]), ([], []), ([], []), ([4, 5], [4, 5]), ([6], [6]), ([3, 7], [3, 7]), ([8], [8])])
def laws_eqHartS.B6 : List Nat := [0, 0, 3, 7, 0, 0, 48, 112, 255, 511]
theorem laws_eqHartS.tab6 : rtab .any (opsOf Try.f27 6) = laws_eqHartS.T6 := by kernel_rfl
theorem laws_eqHartS.bits6 : waitsOk laws_eqHartS.T6.2 laws_eqHartS.B6 = true := by kernel_rfl
theorem laws_eqHartS.calls (k : Nat) (A0 : Option Addr) (c0 : Nat) (l0 : List (S29)) (A1 : Option Addr) (c1 : Nat) (l1 : List (S29)) (r : Bool) (w : World) (hr0 : Kd.C k29 w A0 l0.length l0) (hc0 : l0.length ≤ c0) (hr1 : Kd.C k29 w A1 l1.length l1) (hc1 : l1.length ≤ c1) (h : laws_eqHartS.f k l0 l1 = some r) :
  Calls Try.prog 27 #[.slice A0 l0.length c0, .slice A1 l1.length c1] w fun e w' => e = .returned (.bool r) ∧ Below w.heap.size w w' := by
 have hu29 := Try.underlying29
 have HR0 := zM hr0
 have HC0 := zM hc0
 clear hr0 hc0
 have HR1 := zM hr1
 have HC1 := zM hc1
 clear hr1 hc1
 have HB := zM (Below.refl w.heap.size w)
 unfold laws_eqHartS.f at h
 have H := h
 clear h
 by_cases c3 : (l0.length : Int) = (l1.length : Int)
 rotate_left
 ·rw [if_neg c3] at H
  have c3b0 : ((l0.length : Int) == (l1.length : Int)) = false := beq_eq_false_iff_ne.mpr c3
  have c3b1 : ((l0.length : Int) != (l1.length : Int)) = true := bne_iff_ne.mpr c3
  have c3b2 : (l0.length == l1.length) = false := by first | simpa using c3 | (simp at c3 ⊢; omega)
  obtain rfl := Option.some.inj H
  go_enter Try.func27, Try.ntmps27
  go_wp2
  go_ret
  exact ⟨zE, zB0⟩
 rw [if_pos c3] at H
 have c3b0 : ((l0.length : Int) == (l1.length : Int)) = true := beq_iff_eq.mpr c3
 have c3b1 : ((l0.length : Int) != (l1.length : Int)) = false := bne_eq_false_iff_eq.mpr c3
 have c3b2 : (l0.length == l1.length) = true := by first | simpa using c3 | (simp at c3 ⊢; omega)
 clear c3
 have H' := zM H
 clear H
 go_enter Try.func27, Try.ntmps27
 go_wp2
 go_loopg [5] k (fun kq v5 w' => ∃ (x5_1 : Int), v5 = .int .i64 x5_1 ∧ Aside0 (laws_eqHartS.l0 kq l0 l1 x5_1 = some r) ∧ Aside0 (kq ≤ k) ∧ Aside0 (Below w.heap.size w w'))
 case atStart => exact ⟨(0), zJJ, H', ⟨Nat.le_refl _⟩, ⟨zB0⟩⟩
 case round =>
  clear H'
  try clear c1
  try clear c2
  try clear p2
  try clear c3
  try clear c3b0
  try clear c3b1
  try clear c3b2
  obtain ⟨x5_1, rfl, HA, HK1, HB⟩ := hrel
  cases gk with
  | zero => exact absurd HA.1 (by simp [laws_eqHartS.l0])
  | succ k1 =>
   have H := HA.1
   clear HA
   simp only [laws_eqHartS.l0] at H
   by_cases c4 : x5_1 < (l0.length : Int)
   rotate_left
   ·rw [if_neg c4] at H
    have c4b0 := decide_eq_false c4
    clear c4
    obtain rfl := Option.some.inj H
    go_wp2
    go_ret
    exact ⟨zE, zB0⟩
   rw [if_pos c4] at H
   have c4b0 := decide_eq_true c4
   clear c4
   by_cases c5 : 0 ≤ x5_1
   rotate_left
   ·rw [if_neg c5] at H
    exact absurd H (by simp)
   rw [if_pos c5] at H
   have c5b0 := decide_eq_true c5
   clear c5
   by_cases c6 : x5_1 < (l1.length : Int)
   rotate_left
   ·rw [if_neg c6] at H
    exact absurd H (by simp)
   rw [if_pos c6] at H
   have c6b0 := decide_eq_true c6
   clear c6
   replace H := zO H
   obtain ⟨t404, A7, H⟩ := H
   by_cases c8 : t404 = true
   rotate_left
   ·replace c8 := Bool.eq_false_iff.mpr c8
    subst c8
    rw [if_neg zF] at H
    obtain rfl := Option.some.inj H
    try go_wp2
    replace HB := zM (below_drew1 HB.1)
    have p402 : 0 ≤ (x5_1 : Int) := zA
    have q402 : x5_1 < (l0.length : Int) := zA
    obtain ⟨ad402, A402_0, c402_0, e402, hx402_0, hx402_1, hx402_2, hl402_0, hi402_0⟩ := at_T29 HR0.1 x5_1 p402 q402
    have hw402_2 := hx402_2
    have hw402_1 := hx402_1
    have hw402_0 := hx402_0
    cases e402
    replace hx402_0 := (HB.1.cell (World.block_lt_of_cell? w _ hx402_0)).trans hx402_0
    replace hx402_1 := (HB.1.cell (World.block_lt_of_cell? w _ hx402_1)).trans hx402_1
    replace hx402_2 := (HB.1.cell (World.block_lt_of_cell? w _ hx402_2)).trans hx402_2
    have HR402_0 := zM hi402_0
    have HC402_0 := zM hl402_0
    clear hi402_0 hl402_0
    replace p402 := eq_true p402
    replace q402 := eq_true q402
    have p403 : 0 ≤ (x5_1 : Int) := zA
    have q403 : x5_1 < (l1.length : Int) := zA
    obtain ⟨ad403, A403_0, c403_0, e403, hx403_0, hx403_1, hx403_2, hl403_0, hi403_0⟩ := at_T29 HR1.1 x5_1 p403 q403
    have hw403_2 := hx403_2
    have hw403_1 := hx403_1
    have hw403_0 := hx403_0
    cases e403
    replace hx403_0 := (HB.1.cell (World.block_lt_of_cell? w _ hx403_0)).trans hx403_0
    replace hx403_1 := (HB.1.cell (World.block_lt_of_cell? w _ hx403_1)).trans hx403_1
    replace hx403_2 := (HB.1.cell (World.block_lt_of_cell? w _ hx403_2)).trans hx403_2
    have HR403_0 := zM hi403_0
    have HC403_0 := zM hl403_0
    clear hi403_0 hl403_0
    replace p403 := eq_true p403
    replace q403 := eq_true q403
    refine start_ (n := 10) (S := fun w' => w'.cell? (ad402.add ((x5_1).toNat * 3)) = some (.slice A402_0 ((rd_T29 l0 x5_1).f0).length c402_0) ∧ w'.cell? ⟨(ad402.add ((x5_1).toNat * 3)).block, (ad402.add ((x5_1).toNat * 3)).off + 1, none⟩ = some (.int .i64 ((rd_T29 l0 x5_1).f1)) ∧ w'.cell? ⟨(ad402.add ((x5_1).toNat * 3)).block, (ad402.add ((x5_1).toNat * 3)).off + 2, none⟩ = some (.int .i64 ((rd_T29 l0 x5_1).f2)) ∧ w'.cell? (ad403.add ((x5_1).toNat * 3)) = some (.slice A403_0 ((rd_T29 l1 x5_1).f0).length c403_0) ∧ w'.cell? ⟨(ad403.add ((x5_1).toNat * 3)).block, (ad403.add ((x5_1).toNat * 3)).off + 1, none⟩ = some (.int .i64 ((rd_T29 l1 x5_1).f1)) ∧ w'.cell? ⟨(ad403.add ((x5_1).toNat * 3)).block, (ad403.add ((x5_1).toNat * 3)).off + 2, none⟩ = some (.int .i64 ((rd_T29 l1 x5_1).f2))) (ds := []) zq13_0 (by kernel_rfl) rfl rfl ⟨((HB.1.cell (World.block_lt_of_cell? w _ hw402_0)).trans hw402_0), ((HB.1.cell (World.block_lt_of_cell? w _ hw402_1)).trans hw402_1), ((HB.1.cell (World.block_lt_of_cell? w _ hw402_2)).trans hw402_2), ((HB.1.cell (World.block_lt_of_cell? w _ hw403_0)).trans hw403_0), ((HB.1.cell (World.block_lt_of_cell? w _ hw403_1)).trans hw403_1), ((HB.1.cell (World.block_lt_of_cell? w _ hw403_2)).trans hw403_2)⟩ (fun hHeld => ?_); refine with_tabW laws_eqHartS.tab6 laws_eqHartS.bits6 (fun HT_ HW_ => ?_)
    generalize wr.drew = w11 at HB HR402_0 HR403_0 hx402_0 hx402_1 hx402_2 hx403_0 hx403_1 hx403_2 hHeld ⊢
    refine pure_ (i := 0) (N := some 17) (v := ?_) (a' := ?_) zq13_1 rfl rfl (any_of HT_.1 (by kernel_rfl)) (fun _ _ _ h => h) (Or.inl ⟨by rfl, ?_⟩) ?_ ?_
    rotate_left
    ·intro w'
     go_simp
     with_reducible rfl
    rotate_left
    ·exact zV
    refine pure_ (i := 1) (N := some 18) (v := ?_) (a' := ?_) zq13_2 rfl rfl (any_of HT_.1 (by kernel_rfl)) (fun _ _ _ h => h) (Or.inl ⟨by rfl, ?_⟩) ?_ ?_
    rotate_left
    ·intro w'
     go_simp
     with_reducible rfl
    rotate_left
    ·exact zV
    refine pure_ (i := 2) (N := some 19) (v := ?_) (a' := ?_) zq13_3 rfl rfl (any_of HT_.1 (by kernel_rfl)) (fun _ _ _ h => h) (Or.inl ⟨by rfl, ?_⟩) ?_ ?_
    rotate_left
    ·intro w'
     go_simp
     with_reducible rfl
    rotate_left
    ·exact zV
    refine pure_ (i := 4) (N := some 21) (v := ?_) (a' := ?_) zq13_4 rfl rfl (any_of HT_.1 (by kernel_rfl)) (fun _ _ _ h => h) (Or.inl ⟨by rfl, ?_⟩) ?_ ?_
    rotate_left
    ·intro w'
     go_simp
     with_reducible rfl
    rotate_left
    ·exact zV
    refine pure_ (i := 5) (N := some 22) (v := ?_) (a' := ?_) zq13_5 rfl rfl (any_of HT_.1 (by kernel_rfl)) (fun _ _ _ h => h) (Or.inl ⟨by rfl, ?_⟩) ?_ ?_
    rotate_left
    ·intro w'
     go_simp
     with_reducible rfl
    rotate_left
    ·exact zV
    refine pure_ (i := 6) (N := some 23) (v := ?_) (a' := ?_) zq13_6 rfl rfl (any_of HT_.1 (by kernel_rfl)) (fun _ _ _ h => h) (Or.inl ⟨by rfl, ?_⟩) ?_ ?_
    rotate_left
    ·intro w'
     go_simp
     with_reducible rfl
    rotate_left
    ·exact zV
    refine take_ (i := 3) (N := some 20) (v := ?_) (a' := ?_) zq13_7 rfl rfl (take_ofW HT_.1 HW_.1 (by kernel_rfl)) (fun _ _ _ h => h) (Or.inl ⟨by rfl, ?_⟩) hHeld ?_ ?_
    rotate_left
    ·rintro w' ⟨s0, s1, s2, s3, s4, s5⟩
     go_simp
     with_reducible rfl
    rotate_left
    ·exact zV
    refine take_ (i := 7) (N := some 24) (v := ?_) (a' := ?_) zq13_8 rfl rfl (take_ofW HT_.1 HW_.1 (by kernel_rfl)) (fun _ _ _ h => h) (Or.inl ⟨by rfl, ?_⟩) hHeld ?_ ?_
    rotate_left
    ·rintro w' ⟨s0, s1, s2, s3, s4, s5⟩
     go_simp
     with_reducible rfl
    rotate_left
    ·exact zV
    refine one_ (i := 8) (N := some 25) zq13_9 rfl rfl (one_of HT_.1 (by kernel_rfl)) (by decide) (fun K hK => ?_)
    refine goes_ Try.func60 (by kernel_rfl) rfl #[.agg #[.slice A402_0 ((rd_T29 l0 x5_1).f0).length c402_0, .int .i64 ((rd_T29 l0 x5_1).f1), .int .i64 ((rd_T29 l0 x5_1).f2)], .agg #[.slice A403_0 ((rd_T29 l1 x5_1).f0).length c403_0, .int .i64 ((rd_T29 l1 x5_1).f1), .int .i64 ((rd_T29 l1 x5_1).f2)]] (by rfl) rfl rfl zT ?_
    with_reducible refine (laws_eqHart.calls k1 _ _ ((rd_T29 l0 x5_1).f0) ((rd_T29 l0 x5_1).f1) ((rd_T29 l0 x5_1).f2) _ _ ((rd_T29 l1 x5_1).f0) ((rd_T29 l1 x5_1).f1) ((rd_T29 l1 x5_1).f2) false _ ?side1 ?side2 ?side3 ?side4 A7.1).mono ?_
    (case side1 => exact zC (Kd.C_below HR402_0.1 HB.1))
    (case side2 => exact HC402_0.1)
    (case side3 => exact zC (Kd.C_below HR403_0.1 HB.1))
    (case side4 => exact HC403_0.1)
    rintro e w12 ⟨rfl, hb⟩
    refine ⟨_, rfl, ?_⟩
    replace HB := zM (below_step zB0 hb)
    (try clear hb)
    (try clear hb2)
    (try clear hk)
    (try clear hi)
    refine hK.out _ _ ⟨((HB.1.cell (World.block_lt_of_cell? w _ hw402_0)).trans hw402_0), ((HB.1.cell (World.block_lt_of_cell? w _ hw402_1)).trans hw402_1), ((HB.1.cell (World.block_lt_of_cell? w _ hw402_2)).trans hw402_2), ((HB.1.cell (World.block_lt_of_cell? w _ hw403_0)).trans hw403_0), ((HB.1.cell (World.block_lt_of_cell? w _ hw403_1)).trans hw403_1), ((HB.1.cell (World.block_lt_of_cell? w _ hw403_2)).trans hw403_2)⟩ (fun hHeld => ?_)
    clear hK K
    refine norm_ (a' := ?_) ?_ ?_
    rotate_left
    ·show Act.put _ (some 25) _ = _
     simp only [Act.put, List.setIfInBounds_toArray, List.set_cons_zero, List.set_cons_succ, i64_w, i32_w]
     rfl
    refine pure_ (i := 9) (N := some 26) (v := ?_) (a' := ?_) zq13_10 rfl rfl (any_of HT_.1 (by kernel_rfl)) (fun _ _ _ h => h) (Or.inl ⟨by rfl, ?_⟩) ?_ ?_
    rotate_left
    ·intro w'
     go_simp
     with_reducible rfl
    rotate_left
    ·exact zV
    refine done_ (done_of HT_.1 (by kernel_rfl)) ?_
    try go_wp2
    go_ret
    exact ⟨zE, zB0⟩
   subst c8
   rw [if_pos rfl] at H
   have H' := zM H
   clear H
   try go_wp2
   replace HB := zM (below_drew1 HB.1)
   have p402 : 0 ≤ (x5_1 : Int) := zA
   have q402 : x5_1 < (l0.length : Int) := zA
   obtain ⟨ad402, A402_0, c402_0, e402, hx402_0, hx402_1, hx402_2, hl402_0, hi402_0⟩ := at_T29 HR0.1 x5_1 p402 q402
   have hw402_2 := hx402_2
   have hw402_1 := hx402_1
   have hw402_0 := hx402_0
   cases e402
   replace hx402_0 := (HB.1.cell (World.block_lt_of_cell? w _ hx402_0)).trans hx402_0
   replace hx402_1 := (HB.1.cell (World.block_lt_of_cell? w _ hx402_1)).trans hx402_1
   replace hx402_2 := (HB.1.cell (World.block_lt_of_cell? w _ hx402_2)).trans hx402_2
   have HR402_0 := zM hi402_0
   have HC402_0 := zM hl402_0
   clear hi402_0 hl402_0
   replace p402 := eq_true p402
   replace q402 := eq_true q402
   have p403 : 0 ≤ (x5_1 : Int) := zA
   have q403 : x5_1 < (l1.length : Int) := zA
   obtain ⟨ad403, A403_0, c403_0, e403, hx403_0, hx403_1, hx403_2, hl403_0, hi403_0⟩ := at_T29 HR1.1 x5_1 p403 q403
   have hw403_2 := hx403_2
   have hw403_1 := hx403_1
   have hw403_0 := hx403_0
   cases e403
   replace hx403_0 := (HB.1.cell (World.block_lt_of_cell? w _ hx403_0)).trans hx403_0
   replace hx403_1 := (HB.1.cell (World.block_lt_of_cell? w _ hx403_1)).trans hx403_1
   replace hx403_2 := (HB.1.cell (World.block_lt_of_cell? w _ hx403_2)).trans hx403_2
   have HR403_0 := zM hi403_0
   have HC403_0 := zM hl403_0
   clear hi403_0 hl403_0
   replace p403 := eq_true p403
   replace q403 := eq_true q403
   refine start_ (n := 10) (S := fun w' => w'.cell? (ad402.add ((x5_1).toNat * 3)) = some (.slice A402_0 ((rd_T29 l0 x5_1).f0).length c402_0) ∧ w'.cell? ⟨(ad402.add ((x5_1).toNat * 3)).block, (ad402.add ((x5_1).toNat * 3)).off + 1, none⟩ = some (.int .i64 ((rd_T29 l0 x5_1).f1)) ∧ w'.cell? ⟨(ad402.add ((x5_1).toNat * 3)).block, (ad402.add ((x5_1).toNat * 3)).off + 2, none⟩ = some (.int .i64 ((rd_T29 l0 x5_1).f2)) ∧ w'.cell? (ad403.add ((x5_1).toNat * 3)) = some (.slice A403_0 ((rd_T29 l1 x5_1).f0).length c403_0) ∧ w'.cell? ⟨(ad403.add ((x5_1).toNat * 3)).block, (ad403.add ((x5_1).toNat * 3)).off + 1, none⟩ = some (.int .i64 ((rd_T29 l1 x5_1).f1)) ∧ w'.cell? ⟨(ad403.add ((x5_1).toNat * 3)).block, (ad403.add ((x5_1).toNat * 3)).off + 2, none⟩ = some (.int .i64 ((rd_T29 l1 x5_1).f2))) (ds := []) zq13_0 (by kernel_rfl) rfl rfl ⟨((HB.1.cell (World.block_lt_of_cell? w _ hw402_0)).trans hw402_0), ((HB.1.cell (World.block_lt_of_cell? w _ hw402_1)).trans hw402_1), ((HB.1.cell (World.block_lt_of_cell? w _ hw402_2)).trans hw402_2), ((HB.1.cell (World.block_lt_of_cell? w _ hw403_0)).trans hw403_0), ((HB.1.cell (World.block_lt_of_cell? w _ hw403_1)).trans hw403_1), ((HB.1.cell (World.block_lt_of_cell? w _ hw403_2)).trans hw403_2)⟩ (fun hHeld => ?_); refine with_tabW laws_eqHartS.tab6 laws_eqHartS.bits6 (fun HT_ HW_ => ?_)
   generalize wr.drew = w9 at HB HR402_0 HR403_0 hx402_0 hx402_1 hx402_2 hx403_0 hx403_1 hx403_2 hHeld ⊢
   refine pure_ (i := 0) (N := some 17) (v := ?_) (a' := ?_) zq13_1 rfl rfl (any_of HT_.1 (by kernel_rfl)) (fun _ _ _ h => h) (Or.inl ⟨by rfl, ?_⟩) ?_ ?_
   rotate_left
   ·intro w'
    go_simp
    with_reducible rfl
   rotate_left
   ·exact zV
   refine pure_ (i := 1) (N := some 18) (v := ?_) (a' := ?_) zq13_2 rfl rfl (any_of HT_.1 (by kernel_rfl)) (fun _ _ _ h => h) (Or.inl ⟨by rfl, ?_⟩) ?_ ?_
   rotate_left
   ·intro w'
    go_simp
    with_reducible rfl
   rotate_left
   ·exact zV
   refine pure_ (i := 2) (N := some 19) (v := ?_) (a' := ?_) zq13_3 rfl rfl (any_of HT_.1 (by kernel_rfl)) (fun _ _ _ h => h) (Or.inl ⟨by rfl, ?_⟩) ?_ ?_
   rotate_left
   ·intro w'
    go_simp
    with_reducible rfl
   rotate_left
   ·exact zV
   refine pure_ (i := 4) (N := some 21) (v := ?_) (a' := ?_) zq13_4 rfl rfl (any_of HT_.1 (by kernel_rfl)) (fun _ _ _ h => h) (Or.inl ⟨by rfl, ?_⟩) ?_ ?_
   rotate_left
   ·intro w'
    go_simp
    with_reducible rfl
   rotate_left
   ·exact zV
   refine pure_ (i := 5) (N := some 22) (v := ?_) (a' := ?_) zq13_5 rfl rfl (any_of HT_.1 (by kernel_rfl)) (fun _ _ _ h => h) (Or.inl ⟨by rfl, ?_⟩) ?_ ?_
   rotate_left
   ·intro w'
    go_simp
    with_reducible rfl
   rotate_left
   ·exact zV
   refine pure_ (i := 6) (N := some 23) (v := ?_) (a' := ?_) zq13_6 rfl rfl (any_of HT_.1 (by kernel_rfl)) (fun _ _ _ h => h) (Or.inl ⟨by rfl, ?_⟩) ?_ ?_
   rotate_left
   ·intro w'
    go_simp
    with_reducible rfl
   rotate_left
   ·exact zV
   refine take_ (i := 3) (N := some 20) (v := ?_) (a' := ?_) zq13_7 rfl rfl (take_ofW HT_.1 HW_.1 (by kernel_rfl)) (fun _ _ _ h => h) (Or.inl ⟨by rfl, ?_⟩) hHeld ?_ ?_
   rotate_left
   ·rintro w' ⟨s0, s1, s2, s3, s4, s5⟩
    go_simp
    with_reducible rfl
   rotate_left
   ·exact zV
   refine take_ (i := 7) (N := some 24) (v := ?_) (a' := ?_) zq13_8 rfl rfl (take_ofW HT_.1 HW_.1 (by kernel_rfl)) (fun _ _ _ h => h) (Or.inl ⟨by rfl, ?_⟩) hHeld ?_ ?_
   rotate_left
   ·rintro w' ⟨s0, s1, s2, s3, s4, s5⟩
    go_simp
    with_reducible rfl
   rotate_left
   ·exact zV
   refine one_ (i := 8) (N := some 25) zq13_9 rfl rfl (one_of HT_.1 (by kernel_rfl)) (by decide) (fun K hK => ?_)
   refine goes_ Try.func60 (by kernel_rfl) rfl #[.agg #[.slice A402_0 ((rd_T29 l0 x5_1).f0).length c402_0, .int .i64 ((rd_T29 l0 x5_1).f1), .int .i64 ((rd_T29 l0 x5_1).f2)], .agg #[.slice A403_0 ((rd_T29 l1 x5_1).f0).length c403_0, .int .i64 ((rd_T29 l1 x5_1).f1), .int .i64 ((rd_T29 l1 x5_1).f2)]] (by rfl) rfl rfl zT ?_
   with_reducible refine (laws_eqHart.calls k1 _ _ ((rd_T29 l0 x5_1).f0) ((rd_T29 l0 x5_1).f1) ((rd_T29 l0 x5_1).f2) _ _ ((rd_T29 l1 x5_1).f0) ((rd_T29 l1 x5_1).f1) ((rd_T29 l1 x5_1).f2) true _ ?side1 ?side2 ?side3 ?side4 A7.1).mono ?_
   (case side1 => exact zC (Kd.C_below HR402_0.1 HB.1))
   (case side2 => exact HC402_0.1)
   (case side3 => exact zC (Kd.C_below HR403_0.1 HB.1))
   (case side4 => exact HC403_0.1)
   rintro e w10 ⟨rfl, hb⟩
   refine ⟨_, rfl, ?_⟩
   replace HB := zM (below_step zB0 hb)
   (try clear hb)
   (try clear hb2)
   (try clear hk)
   (try clear hi)
   refine hK.out _ _ ⟨((HB.1.cell (World.block_lt_of_cell? w _ hw402_0)).trans hw402_0), ((HB.1.cell (World.block_lt_of_cell? w _ hw402_1)).trans hw402_1), ((HB.1.cell (World.block_lt_of_cell? w _ hw402_2)).trans hw402_2), ((HB.1.cell (World.block_lt_of_cell? w _ hw403_0)).trans hw403_0), ((HB.1.cell (World.block_lt_of_cell? w _ hw403_1)).trans hw403_1), ((HB.1.cell (World.block_lt_of_cell? w _ hw403_2)).trans hw403_2)⟩ (fun hHeld => ?_)
   clear hK K
   refine norm_ (a' := ?_) ?_ ?_
   rotate_left
   ·show Act.put _ (some 25) _ = _
    simp only [Act.put, List.setIfInBounds_toArray, List.set_cons_zero, List.set_cons_succ, i64_w, i32_w]
    rfl
   refine pure_ (i := 9) (N := some 26) (v := ?_) (a' := ?_) zq13_10 rfl rfl (any_of HT_.1 (by kernel_rfl)) (fun _ _ _ h => h) (Or.inl ⟨by rfl, ?_⟩) ?_ ?_
   rotate_left
   ·intro w'
    go_simp
    with_reducible rfl
   rotate_left
   ·exact zV
   refine done_ (done_of HT_.1 (by kernel_rfl)) ?_
   try go_wp2
   go_roundg k1
   case measure => have := HK1.1; omega
   case rel => exact ⟨(wrap64 (x5_1 + 1)), zJJ, H', ⟨by have := HK1.1; omega⟩, ⟨zB0⟩⟩

/-! ### laws_markIntS: function 28 -/
def laws_markIntS.l0 : Nat → List Int → Int → Int → Option (Int × List Int)
 | 0, _, _, _ => none
 | k + 1, x0, x1, x5 => if x5 < (x0.length : Int) then (if 0 ≤ x5 then (laws_markIntS.l0 k (x0.set (x5 : Int).toNat x1) (wrap64 (x1 + 1)) (wrap64 (x5 + 1))) else (none)) else (some (x1, x0))
def laws_markIntS.f (k : Nat) (l0 : List Int) (a1 : Int) : Option (Int × List Int) := laws_markIntS.l0 k l0 a1 0
theorem laws_markIntS.mono_l : ∀ k, (∀ y0 y1 y2, LeO (laws_markIntS.l0 k y0 y1 y2) (laws_markIntS.l0 (k + 1) y0 y1 y2))
 | 0 => fun _ _ _ r h => by simp [laws_markIntS.l0] at h
 | k + 1 => by
  have ih0 := laws_markIntS.mono_l k
  ·intros
   unfold laws_markIntS.l0
   exact zL
theorem laws_markIntS.mono : ∀ a0 a1 k, LeO (laws_markIntS.f k a0 a1) (laws_markIntS.f (k + 1) a0 a1) := by
 intro a0 a1 k
 have ih0 := laws_markIntS.mono_l k
 unfold laws_markIntS.f
 exact zL
theorem laws_markIntS.calls (k : Nat) (P0_ : Nat → Prop) (u9000_ : Value) (l0 : List Int) (a1 : Int) (r1 : Int) (r2 : List Int) (w0 w : World) (hB : Below w0.heap.size w0 w) (ho0 : Kd.R (Kd.int .i64) 3 w w0.heap.size P0_ u9000_ l0) (h : laws_markIntS.f k l0 a1 = some (r1, r2)) :
  Calls Try.prog 28 #[u9000_, .int .i64 a1] w fun e w' => e = .returned (.int .i64 r1) ∧ Kd.R (Kd.int .i64) 3 w' w0.heap.size (fun k_ => (P0_ k_ ∨ w.heap.size ≤ k_)) u9000_ r2 ∧ Below w0.heap.size w0 w' ∧ Kept w w' (fun k_ => P0_ k_) := by
 have HO0 := zM (show Kd.R (Kd.int .i64) 3 w w0.heap.size (fun k_ => (P0_ k_ ∨ w.heap.size ≤ k_)) u9000_ l0 from Kd.R_mono ho0 (fun k_ hk => (.inl hk)))
 have HK := zM (Kept.refl w (fun k_ => P0_ k_))
 have HW0 := zM hB.size
 have HB := zM hB
 clear hB
 unfold laws_markIntS.f at h
 have H := h
 clear h
 have H' := zM H
 clear H
 go_enter Try.func28, Try.ntmps28
 go_wp2
 go_loopg [1, 5] k (fun kq v1 v5 w' => ∃ (x0_1 : List Int) (x1_1 : Int) (x5_1 : Int), v1 = .int .i64 x1_1 ∧ v5 = .int .i64 x5_1 ∧ Aside0 (laws_markIntS.l0 kq x0_1 x1_1 x5_1 = some (r1, r2)) ∧ Aside0 (kq ≤ k) ∧ Aside0 (Kd.R (Kd.int .i64) 3 w' w0.heap.size (fun k_ => (P0_ k_ ∨ w.heap.size ≤ k_)) u9000_ x0_1) ∧ Aside0 (Kept w w' (fun k_ => P0_ k_)) ∧ Aside0 (Below w0.heap.size w0 w'))
 case atStart => exact ⟨(l0), (a1), (0), zJJ, zJJ, H', ⟨Nat.le_refl _⟩, ⟨zR HO0.1⟩, ⟨zB39⟩, ⟨zB0⟩⟩
 case round =>
  clear H'
  try clear c2
  try clear p2
  obtain ⟨x0_1, x1_1, x5_1, rfl, rfl, HA, HK1, HO_0, HK, HB⟩ := hrel
  cases gk with
  | zero => exact absurd HA.1 (by simp [laws_markIntS.l0])
  | succ k1 =>
   have H := HA.1
   clear HA
   simp only [laws_markIntS.l0] at H
   by_cases c3 : x5_1 < (x0_1.length : Int)
   rotate_left
   ·rw [if_neg c3] at H
    have c3b0 := decide_eq_false c3
    clear c3
    simp only [Option.some.injEq, Prod.mk.injEq] at H
    obtain ⟨rfl, rfl⟩ := H
    obtain ⟨Ao9, co9, eo9⟩ := Kd.R_slice HO_0.1
    subst eo9
    go_wp2
    go_ret
    exact ⟨zE, zR HO_0.1, zB0, zB39⟩
   rw [if_pos c3] at H
   have c3b0 := decide_eq_true c3
   clear c3
   by_cases c4 : 0 ≤ x5_1
   rotate_left
   ·rw [if_neg c4] at H
    exact absurd H (by simp)
   rw [if_pos c4] at H
   have c4b0 := decide_eq_true c4
   clear c4
   obtain ⟨y405, hy405⟩ : ∃ y_ : List Int, y_ = (x0_1.set (x5_1 : Int).toNat x1_1) := ⟨_, rfl⟩
   replace H : (laws_markIntS.l0 k1 y405 (wrap64 (x1_1 + 1)) (wrap64 (x5_1 + 1))) = some (r1, r2) := by first | (rw [hy405]; with_reducible exact H) | (have H2_ := (Option.bind_some _ _).symm.trans H; rw [hy405]; with_reducible exact H2_) | (have H2_ := (Option.bind_some _ _).symm.trans H; with_reducible exact H2_) | with_reducible exact H | (rw [hy405]; exact H) | exact H
   have Ny405 := zM hy405
   clear hy405
   have H' := zM H
   clear H
   obtain ⟨Ao6, co6, eo6⟩ := Kd.R_slice HO_0.1
   subst eo6
   have p5 : 0 ≤ (x5_1 : Int) := zA
   have q5 : (x5_1 : Int) < ((x0_1.length : Int) : Int) := zA
   obtain ⟨go5, co5, eo5, gb5, gl5, cl5, HG5⟩ := Kd.R_form HO_0.1 (by omega)
   (first | cases eo5 | (injection eo5 with ea_ en_ ec_; (first | subst ea_ | (injection ea_ with ea_; subst ea_)); subst ec_; clear en_))
   have GB5 := zM gb5
   have GG5 := zM HG5
   clear gb5 gl5 HG5
   have HMgo5 := zM (show (P0_ go5 ∨ w.heap.size ≤ go5) from (HO_0.1.1 _ rfl))
   obtain ⟨hx5_0, hf5_0⟩ := Kd.R_celln 0 HO_0.1 (x5_1 : Int) p5 q5
   replace p5 := eq_true p5
   replace q5 := eq_true q5
   have HP7 := Kd.R_putg HO_0.1 (x5_1 : Int) x1_1
   go_wp2_with (first | ((with_reducible refine gate_store (t := 3) (p := 15) rfl ?_); refine store_event (t := 3) (p := 15) (v := ?vo_w8) (w1 := (wr.setCell ⟨go5, (x5_1 : Int).toNat, none⟩ (.int .i64 x1_1))) ?hg ?ho ?hn ?hr ?_; (case ho => rfl); (case hg => rfl); (case hn => rfl); (case hr => exact zHH); intro w8 hw; have hg : wr.grownBy w8 (some go5) := (by rw [hw]; exact HP7.2); have hp_ : Kd.R (Kd.int .i64) 3 w8 w0.heap.size (fun k_ => (P0_ k_ ∨ w.heap.size ≤ k_)) (.slice (some ⟨go5, 0, none⟩) x0_1.length co6) y405 := (by rw [hw, Ny405.1]; exact HP7.1); clear HP7; replace HB := zM ((by rw [hw]; exact below_set (HB.1) GB5.1 : Below w0.heap.size w0 w8)); replace HK := zM (Kept.of_grown (S := (fun k_ => P0_ k_)) hg zB39 (fun k_ e_ => (HO_0.1.1 k_ e_))); replace HO_0 := zM hp_; clear hg hw hp_))
   go_roundg k1
   case measure => have := HK1.1; omega
   case rel => exact ⟨(y405), (wrap64 (x1_1 + 1)), (wrap64 (x5_1 + 1)), zJJ, zJJ, H', ⟨by have := HK1.1; omega⟩, ⟨zR HO_0.1⟩, ⟨zB39⟩, ⟨zB0⟩⟩

/-! ### laws_markHartS: function 29 -/
def laws_markHartS.l0 : Nat → List S29 → Int → Int → Option (Int × List S29)
 | 0, _, _, _ => none
 | k + 1, x0, x1, x5 => if x5 < (x0.length : Int) then (if 0 ≤ x5 then ((laws_markIntS.f k ((rd_T29 x0 x5).f0) x1).bind fun b => laws_markHartS.l0 k (x0.set (x5 : Int).toNat ⟨b.2, b.1, wrap64 (b.1 + 1)⟩) (wrap64 (wrap64 (b.1 + 1) + 1)) (wrap64 (x5 + 1))) else none) else some (x1, x0)
def laws_markHartS.f (k : Nat) (l0 : List S29) (a1 : Int) : Option (Int × List S29) := laws_markHartS.l0 k l0 a1 0
theorem laws_markHartS.mono_l : ∀ k, (∀ y0 y1 y2, LeO (laws_markHartS.l0 k y0 y1 y2) (laws_markHartS.l0 (k + 1) y0 y1 y2))
 | 0 => fun _ _ _ r h => by simp [laws_markHartS.l0] at h
 | k + 1 => by
  have ih0 := laws_markHartS.mono_l k
  intro y0 y1 y2
  unfold laws_markHartS.l0
  have mo0 := @laws_markIntS.mono
  exact zL
theorem laws_markHartS.mono : ∀ a0 a1 k, LeO (laws_markHartS.f k a0 a1) (laws_markHartS.f (k + 1) a0 a1) := fun a0 a1 k => laws_markHartS.mono_l k _ _ _
/-- One hart marked: its registers' row is its own. -/
theorem markH_back {g n cap base : Nat} {P oki : Nat → Prop} {w1 w2 : World} {x0 : List S29} {i : Int} {c : List Value} {v0 : Value} {x' : S29} (hH : Kd.H k29 29 w1 base P (.slice (some ⟨g, 0, none⟩) n cap) x0 i oki c) (h0 : 0 ≤ i) (h1 : i < n) (hoki : ∀ k, oki k → P k ∧ k ≠ g)
  (hc : c = [v0, .int .i64 (rd_T29 x0 i).f1, .int .i64 (rd_T29 x0 i).f2]) (hk : Kept w1 w2 oki) (hr : Kd.R (Kd.int .i64) 3 w2 base oki v0 x'.f0) :
  Kd.S k29 29 ((w2.setCell ⟨g, i.toNat * 3 + 1, none⟩ (.int .i64 x'.f1)).setCell ⟨g, i.toNat * 3 + 2, none⟩ (.int .i64 x'.f2)) base P (.slice (some ⟨g, 0, none⟩) n cap) (x0.set i.toNat x') := by
 have hH2 : Kd.H k29 29 w2 base P (.slice (some ⟨g, 0, none⟩) n cap) x0 i oki c := Kd.H_kept hH hk (fun k _ hn hs => hn hs)
 have hseg := (Kd.H_seg hH2 h0 h1 (seg := [.int .i64 x'.f1, .int .i64 x'.f2]) (j := 1) (by show 1 + 2 ≤ 3; omega) (by intro q hq; rcases List.mem_cons.1 hq with rfl | hq; rfl; rcases List.mem_cons.1 hq with rfl | hq; rfl; cases hq)).1
 have hr2 : Kd.R (Kd.int .i64) 3 ((w2.setCell ⟨g, i.toNat * 3 + 1, none⟩ (.int .i64 x'.f1)).setCell ⟨g, i.toNat * 3 + 2, none⟩ (.int .i64 x'.f2)) base oki v0 x'.f0 := Kd.R_far (Kd.R_far hr (fun k hk => (hoki k hk).2) _) (fun k hk => (hoki k hk).2) _
 subst hc
 exact Kd.H_back hseg (k29_mkM _ _ _ x' hr2) (fun _ hk => hk)
theorem laws_markHartS.calls (k : Nat) (P0_ : Nat → Prop) (u9000_ : Value) (l0 : List S29) (a1 : Int) (r1 : Int) (r2 : List S29) (w0 w : World) (hB : Below w0.heap.size w0 w) (ho0 : Kd.S k29 29 w w0.heap.size P0_ u9000_ l0) (h : laws_markHartS.f k l0 a1 = some (r1, r2)) :
  Calls Try.prog 29 #[u9000_, .int .i64 a1] w fun e w' => e = .returned (.int .i64 r1) ∧ Kd.S k29 29 w' w0.heap.size P0_ u9000_ r2 ∧ Below w0.heap.size w0 w' ∧ Kept w w' (fun k_ => P0_ k_) := by
 have H0 := zM (show laws_markHartS.l0 k l0 a1 0 = some (r1, r2) from h)
 have HS := zM ho0
 have HB := zM hB
 have HW := zM hB.size
 have hn9 : l0.length ≤ 9223372036854775807 := (by obtain ⟨A, c, _, _, hC⟩ := Kd.S_reads ho0; exact hC.2.1)
 have HL := zM hn9
 clear h hB hn9
 rcases Nat.eq_zero_or_pos l0.length with hz | hp
 ·obtain rfl := List.eq_nil_of_length_eq_zero hz
  obtain ⟨A, c, rfl⟩ := Kd.S_slice ho0
  clear ho0 hz
  have hr : r1 = a1 ∧ r2 = [] := by
   have h := H0.out
   cases k with
   | zero => simp [laws_markHartS.l0] at h
   | succ k => simp [laws_markHartS.l0] at h; exact ⟨h.1.symm, h.2⟩
  obtain ⟨rfl, rfl⟩ := hr
  go_enter Try.func29, Try.ntmps29
  go_wp2
  go_loopg [1, 5] 1 (fun kq v1 v5 w' => v1 = .int .i64 r1 ∧ v5 = .int .i64 0 ∧ w' = w)
  case atStart => exact ⟨rfl, rfl, rfl⟩
  case round =>
   obtain ⟨rfl, rfl, rfl⟩ := hrel
   go_wp2
   go_ret
   exact ⟨rfl, HS.out, HB.1, Kept.refl _ _⟩
 ·obtain ⟨g, cap, rfl, hg1, hg2, _⟩ := Kd.S_form ho0 hp
  have HG := zM hg1
  have hPg : P0_ g := (Kd.S_R ho0).1 g rfl
  have HPG := zM hPg
  clear ho0 hp hPg hg1 hg2
  go_enter Try.func29, Try.ntmps29
  go_wp2
  go_loopg [1, 5] k (fun kq v1 v5 w' => ∃ (x0 : List S29) (x1 x5 : Int), v1 = .int .i64 x1 ∧ v5 = .int .i64 x5 ∧ Aside0 (laws_markHartS.l0 kq x0 x1 x5 = some (r1, r2)) ∧ Aside0 (x0.length = l0.length) ∧ Aside0 (Kd.S k29 29 w' w0.heap.size P0_ (.slice (some ⟨g, 0, none⟩) l0.length cap) x0) ∧ Aside0 (Below w0.heap.size w0 w') ∧ Aside0 (Kept w w' P0_))
  case atStart => exact ⟨l0, a1, 0, rfl, rfl, ⟨H0.out⟩, ⟨rfl⟩, ⟨HS.out⟩, ⟨HB.1⟩, ⟨Kept.refl _ _⟩⟩
  case round =>
   clear HS HB H0
   obtain ⟨x0, x1, x5, rfl, rfl, H0, HX, HS, HB, HK⟩ := hrel
   cases gk with
   | zero => exact absurd H0.out (by simp [laws_markHartS.l0])
   | succ gk =>
   have H := H0.out
   simp only [laws_markHartS.l0] at H
   clear H0
   by_cases c1 : x5 < (l0.length : Int)
   rotate_left
   ·rw [if_neg (by rw [HX.out]; exact c1)] at H
    obtain ⟨rfl, rfl⟩ : x1 = r1 ∧ x0 = r2 := by simpa using H
    have d0 : decide (x5 < (l0.length : Int)) = false := decide_eq_false c1
    clear c1 H
    go_wp2
    go_ret
    exact ⟨rfl, HS.out, HB.1, HK.1⟩
   rw [if_pos (by rw [HX.out]; exact c1)] at H
   by_cases c2 : 0 ≤ x5
   rotate_left
   ·rw [if_neg c2] at H; exact absurd H (by simp)
   rw [if_pos c2] at H
   obtain ⟨⟨b1, b2⟩, hm, H⟩ := Option.bind_eq_some_iff.1 H
   dsimp only at H
   have HM := zM hm
   have HH := zM H
   have d0 : decide (x5 < (l0.length : Int)) = true := decide_eq_true c1
   have p1 : (0 ≤ x5) = True := eq_true c2
   have p2 : (x5 < (l0.length : Int)) = True := eq_true c1
   obtain ⟨oki, c, hcl, hMM, hcc, hfr, hoki, hHH⟩ := Kd.S_elem HS.out z29 x5 c2 c1
   obtain ⟨v0, hce, hR0⟩ := k29_openM hMM
   have hx0 : wr.cell? ⟨g, x5.toNat * 3, none⟩ = some v0 := by have := hcc 0 v0 (by rw [hce]; rfl); exact this
   have hx1 : wr.cell? ⟨g, x5.toNat * 3 + 1, none⟩ = some (.int .i64 (rd_T29 x0 x5).f1) := hcc 1 _ (by rw [hce]; rfl)
   have hx2 : wr.cell? ⟨g, x5.toNat * 3 + 2, none⟩ = some (.int .i64 (rd_T29 x0 x5).f2) := hcc 2 _ (by rw [hce]; rfl)
   have hf1 : wr.frozen? ⟨g, x5.toNat * 3 + 1, none⟩ = false := hfr 1
   have hf2 : wr.frozen? ⟨g, x5.toNat * 3 + 2, none⟩ = false := hfr 2
   have HR0 := zM hR0
   have HHH := zM hHH
   have HOK := zM hoki
   have HCE := zM hce
   have hgne : ¬ oki g := fun h => (hoki g h).2 rfl
   have HGN := zM hgne
   have HIN := zM c2
   have HIL := zM c1
   clear hR0 hHH hoki hce hgne hcl hMM hcc hfr c1 c2 hm H
   go_wp2_with (first | (go_at_call 28; (refine (laws_markIntS.calls gk oki v0 ((rd_T29 x0 x5).f0) x1 b1 b2 w0 _ HB.1 HR0.1 HM.out).mono ?_); rintro e w8 ⟨rfl, hr8, hb8, hk8⟩; have HR8 := zM hr8; have HB8 := zM hb8; have HK8 := zM hk8; have k1 := cell_kept hx1 hk8 HGN.out; have k2 := cell_kept hx2 hk8 HGN.out; have hge : w8.heap[g]? = wr.heap[g]? := hk8.2 g (World.block_lt_of_cell? wr _ hx1) HGN.out; have f1 : w8.frozen? ⟨g, x5.toNat * 3 + 1, none⟩ = false := (by have := hf1; simpa [World.frozen?, hge] using this); have f2 : w8.frozen? ⟨g, x5.toNat * 3 + 2, none⟩ = false := (by have := hf2; simpa [World.frozen?, hge] using this); clear hr8 hb8 hk8 hge hx0 hx1 hx2 hf1 hf2))
   go_roundg gk
   case rel => exact ⟨x0.set (x5 : Int).toNat ⟨b2, b1, wrap64 (b1 + 1)⟩, wrap64 (wrap64 (b1 + 1) + 1), wrap64 (x5 + 1), rfl, rfl, ⟨HH.out⟩, ⟨by rw [List.length_set]; exact HX.out⟩, ⟨markH_back (x' := ⟨b2, b1, wrap64 (b1 + 1)⟩) HHH.out HIN.out HIL.out HOK.out HCE.out HK8.1 (Kd.R_mono (Kd.R_tight rfl HR8.1) (fun k hk => HR0.1.1 k hk.symm))⟩, ⟨(HB8.1.setCell HG.1 _).setCell HG.1 _⟩, ⟨((HK.1.then_ HK8.1 (fun k hk => .inl (HOK.out k hk).1)).setCell (.inl HPG.out) _).setCell (.inl HPG.out) _⟩⟩
   all_goals omega

end Go.Proofs.Ytnjdepmlpdjghaa.PFnExactEnds2
