-- made by wip/tools/myprint.py out of the seat's translation
import Derived.Test.YtpcgecacaemalaaPFnExactRunTox0
import Derived.Test.YtpcgecacaemalaaPFnExactRunTox16
namespace Go.Proofs.Ytpcgecacaemalaa.PFnExactRunTo
open Go.RowKit Go.Proofs.YtpcgecacaemalaaW.PrintWords Go.Proofs.YtpcgecacaemalaaW.PrintLast Go.Proofs.YtpcgecacaemalaaW.PrintMore
attribute [local go_sem] max2_int min2_int max_two min_two max_three min_three max_four min_four   -- for this text's walks alone
set_option linter.unusedVariables false
set_option linter.unusedSimpArgs false
set_option maxHeartbeats 8000000
set_option maxRecDepth 100000
abbrev zq17_0 : Array Bool := #[false, false, false, false, false, false, false, false, false, false]

/-! ### laws_eqHartS: function 26 -/
def laws_eqHartS.l0 : Nat → List (S53) → List (S53) → Int → Option (Bool)
 | 0, _, _, _ => none
 | k + 1, x0, x1, x5 => if x5 < (x0.length : Int) then (if 0 ≤ x5 then (if x5 < (x1.length : Int) then ((laws_eqHart.f k ((rd_T53 x0 x5).f0) ((rd_T53 x0 x5).f1) ((rd_T53 x0 x5).f2) ((rd_T53 x1 x5).f0) ((rd_T53 x1 x5).f1) ((rd_T53 x1 x5).f2)).bind fun t521 => (if t521 = true then (laws_eqHartS.l0 k x0 x1 (wrap64 (x5 + 1))) else (some false))) else (none)) else (none)) else (some true)
def laws_eqHartS.f (k : Nat) (l0 : List (S53)) (l1 : List (S53)) : Option (Bool) := if (l0.length : Int) = (l1.length : Int) then (laws_eqHartS.l0 k l0 l1 0) else (some false)
theorem laws_eqHartS.mono_l : ∀ k, (∀ y0 y1 y2, LeO (laws_eqHartS.l0 k y0 y1 y2) (laws_eqHartS.l0 (k + 1) y0 y1 y2))
 | 0 => fun _ _ _ r h => by simp [laws_eqHartS.l0] at h
 | k + 1 => by
  have ih0 := laws_eqHartS.mono_l k
  ·intros
   unfold laws_eqHartS.l0
   have mo0 := @laws_eqHart.mono
   exact zL
theorem laws_eqHartS.mono : ∀ a0 a1 k, LeO (laws_eqHartS.f k a0 a1) (laws_eqHartS.f (k + 1) a0 a1) := by
 intro a0 a1 k
 have ih0 := laws_eqHartS.mono_l k
 unfold laws_eqHartS.f
 have mo0 := @laws_eqHart.mono
 exact zL
def laws_eqHartS.T6 : Bool × List (List Nat × List Nat) := (true, [([], []), ([], []), ([0, 1], [0, 1]), ([2], [2]), ([], []), ([], []), ([4, 5], [4, 5]), ([6], [6]), ([3, 7], [3, 7]), ([8], [8])])
def laws_eqHartS.B6 : List Nat := [0, 0, 3, 7, 0, 0, 48, 112, 255, 511]
theorem laws_eqHartS.tab6 : rtab .any (opsOf Try.f26 6) = laws_eqHartS.T6 := by kernel_rfl
theorem laws_eqHartS.bits6 : waitsOk laws_eqHartS.T6.2 laws_eqHartS.B6 = true := by kernel_rfl
abbrev zS0_17 := fun (ad519 : Addr) (x5_1 : Int) (A519_0 : Option Addr) l0 (c519_0 : Nat) (ad520 : Addr) (A520_0 : Option Addr) l1 (c520_0 : Nat) (w' : World) => (w'.cell? (ad519.add ((x5_1).toNat * 3)) = some (.slice A519_0 ((rd_T53 l0 x5_1).f0).length c519_0) ∧ w'.cell? ⟨(ad519.add ((x5_1).toNat * 3)).block, (ad519.add ((x5_1).toNat * 3)).off + 1, none⟩ = some (.int .i64 ((rd_T53 l0 x5_1).f1)) ∧ w'.cell? ⟨(ad519.add ((x5_1).toNat * 3)).block, (ad519.add ((x5_1).toNat * 3)).off + 2, none⟩ = some (.int .i64 ((rd_T53 l0 x5_1).f2)) ∧ w'.cell? (ad520.add ((x5_1).toNat * 3)) = some (.slice A520_0 ((rd_T53 l1 x5_1).f0).length c520_0) ∧ w'.cell? ⟨(ad520.add ((x5_1).toNat * 3)).block, (ad520.add ((x5_1).toNat * 3)).off + 1, none⟩ = some (.int .i64 ((rd_T53 l1 x5_1).f1)) ∧ w'.cell? ⟨(ad520.add ((x5_1).toNat * 3)).block, (ad520.add ((x5_1).toNat * 3)).off + 2, none⟩ = some (.int .i64 ((rd_T53 l1 x5_1).f2)))
theorem laws_eqHartS.calls (k : Nat) (A0 : Option Addr) (c0 : Nat) (l0 : List (S53)) (A1 : Option Addr) (c1 : Nat) (l1 : List (S53)) (r : Bool) (w : World) (hr0 : Kd.C k53 w A0 l0.length l0) (hc0 : l0.length ≤ c0) (hr1 : Kd.C k53 w A1 l1.length l1) (hc1 : l1.length ≤ c1) (h : laws_eqHartS.f k l0 l1 = some r) :
  Calls Try.prog 26 #[.slice A0 l0.length c0, .slice A1 l1.length c1] w fun e w' => e = .returned (.bool r) ∧ Below w.heap.size w w' := by
 have hu53 := Try.underlying53
 have HR0 := zM hr0
 have HC0 := zM hc0
 clear hr0 hc0
 have HR1 := zM hr1
 have HC1 := zM hc1
 clear hr1 hc1
 have HB := zM (Below.refl w.heap.size w)
 unfold laws_eqHartS.f at h
 have H := h
 clear h
 by_cases c3 : (l0.length : Int) = (l1.length : Int)
 rotate_left
 ·rw [if_neg c3] at H
  have c3b0 : ((l0.length : Int) == (l1.length : Int)) = false := beq_eq_false_iff_ne.mpr c3
  have c3b1 : ((l0.length : Int) != (l1.length : Int)) = true := bne_iff_ne.mpr c3
  have c3b2 : (l0.length == l1.length) = false := by first | simpa using c3 | (simp at c3 ⊢; omega)
  obtain rfl := Option.some.inj H
  go_enter Try.func26, Try.ntmps26
  go_wp2
  go_ret
  exact ⟨zE, zB1⟩
 rw [if_pos c3] at H
 have c3b0 : ((l0.length : Int) == (l1.length : Int)) = true := beq_iff_eq.mpr c3
 have c3b1 : ((l0.length : Int) != (l1.length : Int)) = false := bne_eq_false_iff_eq.mpr c3
 have c3b2 : (l0.length == l1.length) = true := by first | simpa using c3 | (simp at c3 ⊢; omega)
 clear c3
 have H' := zM H
 clear H
 go_enter Try.func26, Try.ntmps26
 go_wp2
 go_loopg [5] k (fun kq v5 w' => ∃ (x5_1 : Int), v5 = .int .i64 x5_1 ∧ Aside0 (laws_eqHartS.l0 kq l0 l1 x5_1 = some r) ∧ Aside0 (kq ≤ k) ∧ Aside0 (Below w.heap.size w w'))
 case atStart => exact ⟨(0), zJJ, H', ⟨Nat.le_refl _⟩, ⟨zB1⟩⟩
 case round =>
  clear H'
  obtain ⟨x5_1, rfl, HA, HK1, HB⟩ := hrel
  cases gk with
  | zero => exact absurd HA.1 (by simp [laws_eqHartS.l0])
  | succ k1 =>
   have H := HA.1
   clear HA
   simp only [laws_eqHartS.l0] at H
   by_cases c4 : x5_1 < (l0.length : Int)
   rotate_left
   ·rw [if_neg c4] at H
    have c4b0 := decide_eq_false c4
    clear c4
    obtain rfl := Option.some.inj H
    go_wp2
    go_ret
    exact ⟨zE, zB1⟩
   rw [if_pos c4] at H
   have c4b0 := decide_eq_true c4
   clear c4
   replace H := zIt H
   obtain ⟨c5b0, H⟩ := H
   replace H := zIt H
   obtain ⟨c6b0, H⟩ := H
   replace H := zO H
   obtain ⟨t521, A7, H⟩ := H
   by_cases c8 : t521 = true
   rotate_left
   ·replace c8 := Bool.eq_false_iff.mpr c8
    subst c8
    rw [if_neg zF] at H
    obtain rfl := Option.some.inj H
    try go_wp2
    replace HB := zM (below_drew1 HB.1)
    obtain ⟨p519, q519, ad519, A519_0, c519_0, e519, hx519_0, hx519_1, hx519_2, hl519_0, hi519_0⟩ := zRd (at_T53 HR0.1 x5_1)
    have hw519_2 := hx519_2
    have hw519_1 := hx519_1
    have hw519_0 := hx519_0
    cases e519
    replace hx519_0 := zHx HB.1 hx519_0
    replace hx519_1 := zHx HB.1 hx519_1
    replace hx519_2 := zHx HB.1 hx519_2
    have HR519_0 := zM hi519_0
    have HC519_0 := zM hl519_0
    clear hi519_0 hl519_0
    obtain ⟨p520, q520, ad520, A520_0, c520_0, e520, hx520_0, hx520_1, hx520_2, hl520_0, hi520_0⟩ := zRd (at_T53 HR1.1 x5_1)
    have hw520_2 := hx520_2
    have hw520_1 := hx520_1
    have hw520_0 := hx520_0
    cases e520
    replace hx520_0 := zHx HB.1 hx520_0
    replace hx520_1 := zHx HB.1 hx520_1
    replace hx520_2 := zHx HB.1 hx520_2
    have HR520_0 := zM hi520_0
    have HC520_0 := zM hl520_0
    clear hi520_0 hl520_0
    refine start_ (n := 10) (S := zS0_17 ad519 x5_1 A519_0 l0 c519_0 ad520 A520_0 l1 c520_0) (ds := []) zq17_0 (by kernel_rfl) rfl rfl ⟨((HB.1.cell (World.block_lt_of_cell? w _ hw519_0)).trans hw519_0), ((HB.1.cell (World.block_lt_of_cell? w _ hw519_1)).trans hw519_1), ((HB.1.cell (World.block_lt_of_cell? w _ hw519_2)).trans hw519_2), ((HB.1.cell (World.block_lt_of_cell? w _ hw520_0)).trans hw520_0), ((HB.1.cell (World.block_lt_of_cell? w _ hw520_1)).trans hw520_1), ((HB.1.cell (World.block_lt_of_cell? w _ hw520_2)).trans hw520_2)⟩ (fun hHeld => ?_); refine with_tabW laws_eqHartS.tab6 laws_eqHartS.bits6 (fun HT_ HW_ => ?_)
    generalize wr.drew = w11 at HB HR519_0 HR520_0 hx519_0 hx519_1 hx519_2 hx520_0 hx520_1 hx520_2 hHeld ⊢
    refine zPu 0 ?_
    refine zPu 1 ?_
    refine zPu 2 ?_
    refine zPu 4 ?_
    refine zPu 5 ?_
    refine zPu 6 ?_
    refine zTk6 3 hHeld ?_
    refine zTk6 7 hHeld ?_
    refine zOn 8 (some 25) fun K hK => ?_
    refine zGs Try.func83 #[.agg #[.slice A519_0 ((rd_T53 l0 x5_1).f0).length c519_0, .int .i64 ((rd_T53 l0 x5_1).f1), .int .i64 ((rd_T53 l0 x5_1).f2)], .agg #[.slice A520_0 ((rd_T53 l1 x5_1).f0).length c520_0, .int .i64 ((rd_T53 l1 x5_1).f1), .int .i64 ((rd_T53 l1 x5_1).f2)]] ?_
    with_reducible refine (laws_eqHart.calls k1 _ _ ((rd_T53 l0 x5_1).f0) ((rd_T53 l0 x5_1).f1) ((rd_T53 l0 x5_1).f2) _ _ ((rd_T53 l1 x5_1).f0) ((rd_T53 l1 x5_1).f1) ((rd_T53 l1 x5_1).f2) false _ ?side1 ?side2 ?side3 ?side4 A7.1).mono ?_
    (case side1 => exact zC (Kd.C_below HR519_0.1 HB.1))
    (case side2 => exact HC519_0.1)
    (case side3 => exact zC (Kd.C_below HR520_0.1 HB.1))
    (case side4 => exact HC520_0.1)
    rintro e w12 ⟨rfl, hb⟩
    refine ⟨_, rfl, ?_⟩
    replace HB := zM (below_step zB1 hb)
    refine hK.out _ _ ⟨((HB.1.cell (World.block_lt_of_cell? w _ hw519_0)).trans hw519_0), ((HB.1.cell (World.block_lt_of_cell? w _ hw519_1)).trans hw519_1), ((HB.1.cell (World.block_lt_of_cell? w _ hw519_2)).trans hw519_2), ((HB.1.cell (World.block_lt_of_cell? w _ hw520_0)).trans hw520_0), ((HB.1.cell (World.block_lt_of_cell? w _ hw520_1)).trans hw520_1), ((HB.1.cell (World.block_lt_of_cell? w _ hw520_2)).trans hw520_2)⟩ (fun hHeld => ?_)
    clear hK K
    refine zNo ?_
    refine zPu 9 ?_
    refine done_ (done_of HT_.1 (by kernel_rfl)) ?_
    try go_wp2
    go_ret
    exact ⟨zE, zB1⟩
   subst c8
   rw [if_pos rfl] at H
   have H' := zM H
   clear H
   try go_wp2
   replace HB := zM (below_drew1 HB.1)
   obtain ⟨p519, q519, ad519, A519_0, c519_0, e519, hx519_0, hx519_1, hx519_2, hl519_0, hi519_0⟩ := zRd (at_T53 HR0.1 x5_1)
   have hw519_2 := hx519_2
   have hw519_1 := hx519_1
   have hw519_0 := hx519_0
   cases e519
   replace hx519_0 := zHx HB.1 hx519_0
   replace hx519_1 := zHx HB.1 hx519_1
   replace hx519_2 := zHx HB.1 hx519_2
   have HR519_0 := zM hi519_0
   have HC519_0 := zM hl519_0
   clear hi519_0 hl519_0
   obtain ⟨p520, q520, ad520, A520_0, c520_0, e520, hx520_0, hx520_1, hx520_2, hl520_0, hi520_0⟩ := zRd (at_T53 HR1.1 x5_1)
   have hw520_2 := hx520_2
   have hw520_1 := hx520_1
   have hw520_0 := hx520_0
   cases e520
   replace hx520_0 := zHx HB.1 hx520_0
   replace hx520_1 := zHx HB.1 hx520_1
   replace hx520_2 := zHx HB.1 hx520_2
   have HR520_0 := zM hi520_0
   have HC520_0 := zM hl520_0
   clear hi520_0 hl520_0
   refine start_ (n := 10) (S := zS0_17 ad519 x5_1 A519_0 l0 c519_0 ad520 A520_0 l1 c520_0) (ds := []) zq17_0 (by kernel_rfl) rfl rfl ⟨((HB.1.cell (World.block_lt_of_cell? w _ hw519_0)).trans hw519_0), ((HB.1.cell (World.block_lt_of_cell? w _ hw519_1)).trans hw519_1), ((HB.1.cell (World.block_lt_of_cell? w _ hw519_2)).trans hw519_2), ((HB.1.cell (World.block_lt_of_cell? w _ hw520_0)).trans hw520_0), ((HB.1.cell (World.block_lt_of_cell? w _ hw520_1)).trans hw520_1), ((HB.1.cell (World.block_lt_of_cell? w _ hw520_2)).trans hw520_2)⟩ (fun hHeld => ?_); refine with_tabW laws_eqHartS.tab6 laws_eqHartS.bits6 (fun HT_ HW_ => ?_)
   generalize wr.drew = w9 at HB HR519_0 HR520_0 hx519_0 hx519_1 hx519_2 hx520_0 hx520_1 hx520_2 hHeld ⊢
   refine zPu 0 ?_
   refine zPu 1 ?_
   refine zPu 2 ?_
   refine zPu 4 ?_
   refine zPu 5 ?_
   refine zPu 6 ?_
   refine zTk6 3 hHeld ?_
   refine zTk6 7 hHeld ?_
   refine zOn 8 (some 25) fun K hK => ?_
   refine zGs Try.func83 #[.agg #[.slice A519_0 ((rd_T53 l0 x5_1).f0).length c519_0, .int .i64 ((rd_T53 l0 x5_1).f1), .int .i64 ((rd_T53 l0 x5_1).f2)], .agg #[.slice A520_0 ((rd_T53 l1 x5_1).f0).length c520_0, .int .i64 ((rd_T53 l1 x5_1).f1), .int .i64 ((rd_T53 l1 x5_1).f2)]] ?_
   with_reducible refine (laws_eqHart.calls k1 _ _ ((rd_T53 l0 x5_1).f0) ((rd_T53 l0 x5_1).f1) ((rd_T53 l0 x5_1).f2) _ _ ((rd_T53 l1 x5_1).f0) ((rd_T53 l1 x5_1).f1) ((rd_T53 l1 x5_1).f2) true _ ?side1 ?side2 ?side3 ?side4 A7.1).mono ?_
   (case side1 => exact zC (Kd.C_below HR519_0.1 HB.1))
   (case side2 => exact HC519_0.1)
   (case side3 => exact zC (Kd.C_below HR520_0.1 HB.1))
   (case side4 => exact HC520_0.1)
   rintro e w10 ⟨rfl, hb⟩
   refine ⟨_, rfl, ?_⟩
   replace HB := zM (below_step zB1 hb)
   refine hK.out _ _ ⟨((HB.1.cell (World.block_lt_of_cell? w _ hw519_0)).trans hw519_0), ((HB.1.cell (World.block_lt_of_cell? w _ hw519_1)).trans hw519_1), ((HB.1.cell (World.block_lt_of_cell? w _ hw519_2)).trans hw519_2), ((HB.1.cell (World.block_lt_of_cell? w _ hw520_0)).trans hw520_0), ((HB.1.cell (World.block_lt_of_cell? w _ hw520_1)).trans hw520_1), ((HB.1.cell (World.block_lt_of_cell? w _ hw520_2)).trans hw520_2)⟩ (fun hHeld => ?_)
   clear hK K
   refine zNo ?_
   refine zPu 9 ?_
   refine done_ (done_of HT_.1 (by kernel_rfl)) ?_
   try go_wp2
   go_roundg k1
   case measure => have := HK1.1; omega
   case rel => exact ⟨(wrap64 (x5_1 + 1)), zJJ, H', ⟨by have := HK1.1; omega⟩, ⟨zB1⟩⟩

/-! ### laws_eqWatch: function 27 -/
def laws_eqWatch.f (k : Nat) (l0_0 : List Int) (l0_1 : List Int) (l1_0 : List Int) (l1_1 : List Int) : Option (Bool) := (laws_eqIntS.f k l0_0 l1_0).bind fun t524 => (if t524 = true then ((laws_eqIntS.f k l0_1 l1_1).bind fun t525 => (if t525 = true then (some true) else (some false))) else (some false))
theorem laws_eqWatch.mono : ∀ a0 a1 a2 a3 k, LeO (laws_eqWatch.f k a0 a1 a2 a3) (laws_eqWatch.f (k + 1) a0 a1 a2 a3) := by
 intro a0 a1 a2 a3 k
 unfold laws_eqWatch.f
 have mo0 := @laws_eqIntS.mono
 exact zL
theorem laws_eqWatch.calls (k : Nat) (A0_0 : Option Addr) (c0_0 : Nat) (l0_0 : List Int) (A0_1 : Option Addr) (c0_1 : Nat) (l0_1 : List Int) (A1_0 : Option Addr) (c1_0 : Nat) (l1_0 : List Int) (A1_1 : Option Addr) (c1_1 : Nat) (l1_1 : List Int) (r : Bool) (w : World) (hr0_0 : Kd.C (Kd.int .i64) w A0_0 l0_0.length l0_0) (hc0_0 : l0_0.length ≤ c0_0) (hr0_1 : Kd.C (Kd.int .i64) w A0_1 l0_1.length l0_1) (hc0_1 : l0_1.length ≤ c0_1) (hr1_0 : Kd.C (Kd.int .i64) w A1_0 l1_0.length l1_0) (hc1_0 : l1_0.length ≤ c1_0) (hr1_1 : Kd.C (Kd.int .i64) w A1_1 l1_1.length l1_1) (hc1_1 : l1_1.length ≤ c1_1) (h : laws_eqWatch.f k l0_0 l0_1 l1_0 l1_1 = some r) :
  Calls Try.prog 27 #[.agg #[.slice A0_0 l0_0.length c0_0, .slice A0_1 l0_1.length c0_1], .agg #[.slice A1_0 l1_0.length c1_0, .slice A1_1 l1_1.length c1_1]] w fun e w' => e = .returned (.bool r) ∧ Below w.heap.size w w' := by
 have hu27 := Try.underlying27
 have HR0_0 := zM hr0_0
 have HC0_0 := zM hc0_0
 clear hr0_0 hc0_0
 have HR0_1 := zM hr0_1
 have HC0_1 := zM hc0_1
 clear hr0_1 hc0_1
 have HR1_0 := zM hr1_0
 have HC1_0 := zM hc1_0
 clear hr1_0 hc1_0
 have HR1_1 := zM hr1_1
 have HC1_1 := zM hc1_1
 clear hr1_1 hc1_1
 have HB := zM (Below.refl w.heap.size w)
 unfold laws_eqWatch.f at h
 have H := h
 clear h
 replace H := zO H
 obtain ⟨t524, A3, H⟩ := H
 by_cases c4 : t524 = true
 rotate_left
 ·replace c4 := Bool.eq_false_iff.mpr c4
  subst c4
  rw [if_neg zF] at H
  obtain rfl := Option.some.inj H
  go_enter Try.func27, Try.ntmps27
  go_wp2_with (first | ((with_reducible refine zBx 2 27 #[.slice A0_0 l0_0.length c0_0, .slice A0_1 l0_1.length c0_1] ?_); intro gb522 hg w17 hbox hb; have BK522 := zM hbox; have GW522 := zM (zW hg (below_size zB1)); have GE522 := zM (zW hg (below_size zB1)); replace HB := zM (below_step zB1 hb); clear hb hbox hg) | ((with_reducible refine zBx 3 27 #[.slice A1_0 l1_0.length c1_0, .slice A1_1 l1_1.length c1_1] ?_); intro gb523 hg w18 hbox hb; have BK523 := zM hbox; have GW523 := zM (zW hg (below_size zB1)); have GE523 := zM (zW hg (below_size zB1)); replace HB := zM (below_step zB1 hb); have NB522_523 := zM ((zn BK522.1 hg : gb522 ≠ gb523)); have NB523_522 := zM ((zm BK522.1 hg : gb523 ≠ gb522)); replace BK522 := zM (zb BK522.1 hb); clear hb hbox hg; have hnb19 := NB522_523.1; have hnc19 := NB523_522.1; have hcz20 := zc_2 (w := w18) BK522.1; have hcz21 := zc_2 (w := w18) BK523.1) | ((with_reducible refine zG Try.func25 9 #[.slice A0_0 l0_0.length c0_0, .slice A1_0 l1_0.length c1_0] ?_); (with_reducible refine (laws_eqIntS.calls k _ _ l0_0 _ _ l1_0 false _ ?side1 ?side2 ?side3 ?side4 A3.1).mono ?_); (case side1 => exact zC (Kd.C_below HR0_0.1 HB.1)); (case side2 => exact HC0_0.1); (case side3 => exact zC (Kd.C_below HR1_0.1 HB.1)); (case side4 => exact HC1_0.1); rintro e w' ⟨rfl, ⟨nd, rfl⟩⟩; refine ⟨_, rfl, ?_⟩))
  go_ret
  exact ⟨zE, zB1⟩
 subst c4
 rw [if_pos rfl] at H
 replace H := zO H
 obtain ⟨t525, A5, H⟩ := H
 by_cases c6 : t525 = true
 ·subst c6
  rw [if_pos rfl] at H
  obtain rfl := Option.some.inj H
  go_enter Try.func27, Try.ntmps27
  go_wp2_with (first | ((with_reducible refine zBx 2 27 #[.slice A0_0 l0_0.length c0_0, .slice A0_1 l0_1.length c0_1] ?_); intro gb522 hg w7 hbox hb; have BK522 := zM hbox; have GW522 := zM (zW hg (below_size zB1)); have GE522 := zM (zW hg (below_size zB1)); replace HB := zM (below_step zB1 hb); clear hb hbox hg) | ((with_reducible refine zBx 3 27 #[.slice A1_0 l1_0.length c1_0, .slice A1_1 l1_1.length c1_1] ?_); intro gb523 hg w8 hbox hb; have BK523 := zM hbox; have GW523 := zM (zW hg (below_size zB1)); have GE523 := zM (zW hg (below_size zB1)); replace HB := zM (below_step zB1 hb); have NB522_523 := zM ((zn BK522.1 hg : gb522 ≠ gb523)); have NB523_522 := zM ((zm BK522.1 hg : gb523 ≠ gb522)); replace BK522 := zM (zb BK522.1 hb); clear hb hbox hg; have hnb9 := NB522_523.1; have hnc9 := NB523_522.1; have hcz10 := zc_2 (w := w8) BK522.1; have hcz11 := zc_2 (w := w8) BK523.1) | ((with_reducible refine zG Try.func25 9 #[.slice A0_0 l0_0.length c0_0, .slice A1_0 l1_0.length c1_0] ?_); (with_reducible refine (laws_eqIntS.calls k _ _ l0_0 _ _ l1_0 true _ ?side1 ?side2 ?side3 ?side4 A3.1).mono ?_); (case side1 => exact zC (Kd.C_below HR0_0.1 HB.1)); (case side2 => exact HC0_0.1); (case side3 => exact zC (Kd.C_below HR1_0.1 HB.1)); (case side4 => exact HC1_0.1); rintro e w' ⟨rfl, ⟨nd, rfl⟩⟩; refine ⟨_, rfl, ?_⟩) | ((with_reducible refine zG Try.func25 15 #[.slice A0_1 l0_1.length c0_1, .slice A1_1 l1_1.length c1_1] ?_); (with_reducible refine (laws_eqIntS.calls k _ _ l0_1 _ _ l1_1 true _ ?side1 ?side2 ?side3 ?side4 A5.1).mono ?_); (case side1 => repeat (first | exact (Kd.C_below HR0_1.1 zB1) | (with_reducible refine Kd.C_alloc ?_ _) | (with_reducible refine Kd.C_drewN ?_ _) | (with_reducible refine Kd.C_drew ?_))); (case side2 => exact HC0_1.1); (case side3 => repeat (first | exact (Kd.C_below HR1_1.1 zB1) | (with_reducible refine Kd.C_alloc ?_ _) | (with_reducible refine Kd.C_drewN ?_ _) | (with_reducible refine Kd.C_drew ?_))); (case side4 => exact HC1_1.1); rintro e w' ⟨rfl, ⟨nd, rfl⟩⟩; refine ⟨_, rfl, ?_⟩))
  go_ret
  exact ⟨zE, zB1⟩
 replace c6 := Bool.eq_false_iff.mpr c6
 subst c6
 rw [if_neg zF] at H
 obtain rfl := Option.some.inj H
 go_enter Try.func27, Try.ntmps27
 go_wp2_with (first | ((with_reducible refine zBx 2 27 #[.slice A0_0 l0_0.length c0_0, .slice A0_1 l0_1.length c0_1] ?_); intro gb522 hg w12 hbox hb; have BK522 := zM hbox; have GW522 := zM (zW hg (below_size zB1)); have GE522 := zM (zW hg (below_size zB1)); replace HB := zM (below_step zB1 hb); clear hb hbox hg) | ((with_reducible refine zBx 3 27 #[.slice A1_0 l1_0.length c1_0, .slice A1_1 l1_1.length c1_1] ?_); intro gb523 hg w13 hbox hb; have BK523 := zM hbox; have GW523 := zM (zW hg (below_size zB1)); have GE523 := zM (zW hg (below_size zB1)); replace HB := zM (below_step zB1 hb); have NB522_523 := zM ((zn BK522.1 hg : gb522 ≠ gb523)); have NB523_522 := zM ((zm BK522.1 hg : gb523 ≠ gb522)); replace BK522 := zM (zb BK522.1 hb); clear hb hbox hg; have hnb14 := NB522_523.1; have hnc14 := NB523_522.1; have hcz15 := zc_2 (w := w13) BK522.1; have hcz16 := zc_2 (w := w13) BK523.1) | ((with_reducible refine zG Try.func25 9 #[.slice A0_0 l0_0.length c0_0, .slice A1_0 l1_0.length c1_0] ?_); (with_reducible refine (laws_eqIntS.calls k _ _ l0_0 _ _ l1_0 true _ ?side1 ?side2 ?side3 ?side4 A3.1).mono ?_); (case side1 => exact zC (Kd.C_below HR0_0.1 HB.1)); (case side2 => exact HC0_0.1); (case side3 => exact zC (Kd.C_below HR1_0.1 HB.1)); (case side4 => exact HC1_0.1); rintro e w' ⟨rfl, ⟨nd, rfl⟩⟩; refine ⟨_, rfl, ?_⟩) | ((with_reducible refine zG Try.func25 15 #[.slice A0_1 l0_1.length c0_1, .slice A1_1 l1_1.length c1_1] ?_); (with_reducible refine (laws_eqIntS.calls k _ _ l0_1 _ _ l1_1 false _ ?side1 ?side2 ?side3 ?side4 A5.1).mono ?_); (case side1 => repeat (first | exact (Kd.C_below HR0_1.1 zB1) | (with_reducible refine Kd.C_alloc ?_ _) | (with_reducible refine Kd.C_drewN ?_ _) | (with_reducible refine Kd.C_drew ?_))); (case side2 => exact HC0_1.1); (case side3 => repeat (first | exact (Kd.C_below HR1_1.1 zB1) | (with_reducible refine Kd.C_alloc ?_ _) | (with_reducible refine Kd.C_drewN ?_ _) | (with_reducible refine Kd.C_drew ?_))); (case side4 => exact HC1_1.1); rintro e w' ⟨rfl, ⟨nd, rfl⟩⟩; refine ⟨_, rfl, ?_⟩))
 go_ret
 exact ⟨zE, zB1⟩

/-! ### laws_markIntS: function 28 -/
def laws_markIntS.l0 : Nat → List Int → Int → Int → Option (Int × List Int)
 | 0, _, _, _ => none
 | k + 1, x0, x1, x5 => if x5 < (x0.length : Int) then (if 0 ≤ x5 then (laws_markIntS.l0 k (x0.set (x5 : Int).toNat x1) (wrap64 (x1 + 1)) (wrap64 (x5 + 1))) else (none)) else (some (x1, x0))
def laws_markIntS.f (k : Nat) (l0 : List Int) (a1 : Int) : Option (Int × List Int) := laws_markIntS.l0 k l0 a1 0
theorem laws_markIntS.mono_l : ∀ k, (∀ y0 y1 y2, LeO (laws_markIntS.l0 k y0 y1 y2) (laws_markIntS.l0 (k + 1) y0 y1 y2))
 | 0 => fun _ _ _ r h => by simp [laws_markIntS.l0] at h
 | k + 1 => by
  have ih0 := laws_markIntS.mono_l k
  ·intros
   unfold laws_markIntS.l0
   exact zL
theorem laws_markIntS.mono : ∀ a0 a1 k, LeO (laws_markIntS.f k a0 a1) (laws_markIntS.f (k + 1) a0 a1) := by
 intro a0 a1 k
 have ih0 := laws_markIntS.mono_l k
 unfold laws_markIntS.f
 exact zL
theorem laws_markIntS.calls (k : Nat) (P0_ : Nat → Prop) (u9000_ : Value) (l0 : List Int) (a1 : Int) (r1 : Int) (r2 : List Int) (w0 w : World) (hB : Below w0.heap.size w0 w) (ho0 : Kd.R (Kd.int .i64) 3 w w0.heap.size P0_ u9000_ l0) (h : laws_markIntS.f k l0 a1 = some (r1, r2)) :
  Calls Try.prog 28 #[u9000_, .int .i64 a1] w fun e w' => e = .returned (.int .i64 r1) ∧ Kd.R (Kd.int .i64) 3 w' w0.heap.size (fun k_ => (P0_ k_ ∨ w.heap.size ≤ k_)) u9000_ r2 ∧ Below w0.heap.size w0 w' ∧ Kept w w' (fun k_ => P0_ k_) := by
 have HO0 := zM (show Kd.R (Kd.int .i64) 3 w w0.heap.size (fun k_ => (P0_ k_ ∨ w.heap.size ≤ k_)) u9000_ l0 from Kd.R_mono ho0 (fun k_ hk => (.inl hk)))
 have HK := zM (Kept.refl w (fun k_ => P0_ k_))
 have HW0 := zM hB.size
 have HB := zM hB
 clear hB
 unfold laws_markIntS.f at h
 have H := h
 clear h
 have H' := zM H
 clear H
 go_enter Try.func28, Try.ntmps28
 go_wp2
 go_loopg [1, 5] k (fun kq v1 v5 w' => ∃ (x0_1 : List Int) (x1_1 : Int) (x5_1 : Int), v1 = .int .i64 x1_1 ∧ v5 = .int .i64 x5_1 ∧ Aside0 (laws_markIntS.l0 kq x0_1 x1_1 x5_1 = some (r1, r2)) ∧ Aside0 (kq ≤ k) ∧ Aside0 (Kd.R (Kd.int .i64) 3 w' w0.heap.size (fun k_ => (P0_ k_ ∨ w.heap.size ≤ k_)) u9000_ x0_1) ∧ Aside0 (Kept w w' (fun k_ => P0_ k_)) ∧ Aside0 (Below w0.heap.size w0 w'))
 case atStart => exact ⟨(l0), (a1), (0), zJJ, zJJ, H', ⟨Nat.le_refl _⟩, ⟨zR HO0.1⟩, ⟨zB23⟩, ⟨zB1⟩⟩
 case round =>
  clear H'
  obtain ⟨x0_1, x1_1, x5_1, rfl, rfl, HA, HK1, HO_0, HK, HB⟩ := hrel
  cases gk with
  | zero => exact absurd HA.1 (by simp [laws_markIntS.l0])
  | succ k1 =>
   have H := HA.1
   clear HA
   simp only [laws_markIntS.l0] at H
   by_cases c3 : x5_1 < (x0_1.length : Int)
   rotate_left
   ·rw [if_neg c3] at H
    have c3b0 := decide_eq_false c3
    clear c3
    simp only [Option.some.injEq, Prod.mk.injEq] at H
    obtain ⟨rfl, rfl⟩ := H
    obtain ⟨Ao9, co9, eo9⟩ := Kd.R_slice HO_0.1
    subst eo9
    go_wp2
    go_ret
    exact ⟨zE, zR HO_0.1, zB1, zB23⟩
   rw [if_pos c3] at H
   have c3b0 := decide_eq_true c3
   clear c3
   replace H := zIt H
   obtain ⟨c4b0, H⟩ := H
   generalize hy526 : ((x0_1.set (x5_1 : Int).toNat x1_1) : List Int) = y526 at H
   have Ny526 := zM hy526.symm
   clear hy526
   have H' := zM H
   clear H
   obtain ⟨Ao6, co6, eo6⟩ := Kd.R_slice HO_0.1
   subst eo6
   have p5 : 0 ≤ (x5_1 : Int) := zA
   have q5 : (x5_1 : Int) < ((x0_1.length : Int) : Int) := zA
   obtain ⟨go5, co5, eo5, gb5, gl5, cl5, HG5⟩ := Kd.R_form HO_0.1 (by omega)
   (first | cases eo5 | (injection eo5 with ea_ en_ ec_; (first | subst ea_ | (injection ea_ with ea_; subst ea_)); subst ec_; clear en_))
   have GB5 := zM gb5
   have GG5 := zM HG5
   clear gb5 gl5 HG5
   have HMgo5 := zM (show (P0_ go5 ∨ w.heap.size ≤ go5) from (HO_0.1.1 _ rfl))
   obtain ⟨hx5_0, hf5_0⟩ := Kd.R_celln 0 HO_0.1 (x5_1 : Int) p5 q5
   replace p5 := eq_true p5
   replace q5 := eq_true q5
   have HP7 := Kd.R_putg HO_0.1 (x5_1 : Int) x1_1
   go_wp2_with (first | ((with_reducible refine gate_store (t := 3) (p := 15) rfl ?_); refine store_event (t := 3) (p := 15) (v := ?vo_w8) (w1 := (wr.setCell ⟨go5, (x5_1 : Int).toNat, none⟩ (.int .i64 x1_1))) ?hg ?ho ?hn ?hr ?_; (case ho => rfl); (case hg => rfl); (case hn => rfl); (case hr => exact zHH); intro w8 hw; have hg : wr.grownBy w8 (some go5) := (by rw [hw]; exact HP7.2); have hp_ : Kd.R (Kd.int .i64) 3 w8 w0.heap.size (fun k_ => (P0_ k_ ∨ w.heap.size ≤ k_)) (.slice (some ⟨go5, 0, none⟩) x0_1.length co6) y526 := (by rw [hw, Ny526.1]; exact HP7.1); clear HP7; replace HB := zM ((by rw [hw]; exact below_set (HB.1) GB5.1 : Below w0.heap.size w0 w8)); replace HK := zM (Kept.of_grown (S := (fun k_ => P0_ k_)) hg zB23 (fun k_ e_ => (HO_0.1.1 k_ e_))); replace HO_0 := zM hp_; clear hg hw hp_))
   go_roundg k1
   case measure => have := HK1.1; omega
   case rel => exact ⟨(y526), (wrap64 (x1_1 + 1)), (wrap64 (x5_1 + 1)), zJJ, zJJ, H', ⟨by have := HK1.1; omega⟩, ⟨zR HO_0.1⟩, ⟨zB23⟩, ⟨zB1⟩⟩

/-! ### laws_markHartS: function 29 -/
def laws_markHartS.l0 : Nat → List S53 → Int → Int → Option (Int × List S53)
 | 0, _, _, _ => none
 | k + 1, x0, x1, x5 => if x5 < (x0.length : Int) then (if 0 ≤ x5 then ((laws_markIntS.f k ((rd_T53 x0 x5).f0) x1).bind fun b => laws_markHartS.l0 k (x0.set (x5 : Int).toNat ⟨b.2, b.1, wrap64 (b.1 + 1)⟩) (wrap64 (wrap64 (b.1 + 1) + 1)) (wrap64 (x5 + 1))) else none) else some (x1, x0)
def laws_markHartS.f (k : Nat) (l0 : List S53) (a1 : Int) : Option (Int × List S53) := laws_markHartS.l0 k l0 a1 0
theorem laws_markHartS.mono_l : ∀ k, (∀ y0 y1 y2, LeO (laws_markHartS.l0 k y0 y1 y2) (laws_markHartS.l0 (k + 1) y0 y1 y2))
 | 0 => fun _ _ _ r h => by simp [laws_markHartS.l0] at h
 | k + 1 => by
  have ih0 := laws_markHartS.mono_l k
  intro y0 y1 y2
  unfold laws_markHartS.l0
  have mo0 := @laws_markIntS.mono
  exact zL
theorem laws_markHartS.mono : ∀ a0 a1 k, LeO (laws_markHartS.f k a0 a1) (laws_markHartS.f (k + 1) a0 a1) := fun a0 a1 k => laws_markHartS.mono_l k _ _ _
/-- One hart marked: its registers' row is its own. -/
theorem markH_back {g n cap base : Nat} {P oki : Nat → Prop} {w1 w2 : World} {x0 : List S53} {i : Int} {c : List Value} {v0 : Value} {x' : S53} (hH : Kd.H k53 53 w1 base P (.slice (some ⟨g, 0, none⟩) n cap) x0 i oki c) (h0 : 0 ≤ i) (h1 : i < n) (hoki : ∀ k, oki k → P k ∧ k ≠ g)
  (hc : c = [v0, .int .i64 (rd_T53 x0 i).f1, .int .i64 (rd_T53 x0 i).f2]) (hk : Kept w1 w2 oki) (hr : Kd.R (Kd.int .i64) 3 w2 base oki v0 x'.f0) :
  Kd.S k53 53 ((w2.setCell ⟨g, i.toNat * 3 + 1, none⟩ (.int .i64 x'.f1)).setCell ⟨g, i.toNat * 3 + 2, none⟩ (.int .i64 x'.f2)) base P (.slice (some ⟨g, 0, none⟩) n cap) (x0.set i.toNat x') := by
 have hH2 : Kd.H k53 53 w2 base P (.slice (some ⟨g, 0, none⟩) n cap) x0 i oki c := Kd.H_kept hH hk (fun k _ hn hs => hn hs)
 have hseg := (Kd.H_seg hH2 h0 h1 (seg := [.int .i64 x'.f1, .int .i64 x'.f2]) (j := 1) (by show 1 + 2 ≤ 3; omega) (by intro q hq; rcases List.mem_cons.1 hq with rfl | hq; rfl; rcases List.mem_cons.1 hq with rfl | hq; rfl; cases hq)).1
 have hr2 : Kd.R (Kd.int .i64) 3 ((w2.setCell ⟨g, i.toNat * 3 + 1, none⟩ (.int .i64 x'.f1)).setCell ⟨g, i.toNat * 3 + 2, none⟩ (.int .i64 x'.f2)) base oki v0 x'.f0 := Kd.R_far (Kd.R_far hr (fun k hk => (hoki k hk).2) _) (fun k hk => (hoki k hk).2) _
 subst hc
 exact Kd.H_back hseg (k53_mkM _ _ _ x' hr2) (fun _ hk => hk)
theorem laws_markHartS.calls (k : Nat) (P0_ : Nat → Prop) (u9000_ : Value) (l0 : List S53) (a1 : Int) (r1 : Int) (r2 : List S53) (w0 w : World) (hB : Below w0.heap.size w0 w) (ho0 : Kd.S k53 53 w w0.heap.size P0_ u9000_ l0) (h : laws_markHartS.f k l0 a1 = some (r1, r2)) :
  Calls Try.prog 29 #[u9000_, .int .i64 a1] w fun e w' => e = .returned (.int .i64 r1) ∧ Kd.S k53 53 w' w0.heap.size P0_ u9000_ r2 ∧ Below w0.heap.size w0 w' ∧ Kept w w' (fun k_ => P0_ k_) := by
 have H0 := zM (show laws_markHartS.l0 k l0 a1 0 = some (r1, r2) from h)
 have HS := zM ho0
 have HB := zM hB
 have HW := zM hB.size
 have hn9 : l0.length ≤ 9223372036854775807 := (by obtain ⟨A, c, _, _, hC⟩ := Kd.S_reads ho0; exact hC.2.1)
 have HL := zM hn9
 clear h hB hn9
 rcases Nat.eq_zero_or_pos l0.length with hz | hp
 ·obtain rfl := List.eq_nil_of_length_eq_zero hz
  obtain ⟨A, c, rfl⟩ := Kd.S_slice ho0
  clear ho0 hz
  have hr : r1 = a1 ∧ r2 = [] := by
   have h := H0.out
   cases k with
   | zero => simp [laws_markHartS.l0] at h
   | succ k => simp [laws_markHartS.l0] at h; exact ⟨h.1.symm, h.2⟩
  obtain ⟨rfl, rfl⟩ := hr
  go_enter Try.func29, Try.ntmps29
  go_wp2
  go_loopg [1, 5] 1 (fun kq v1 v5 w' => v1 = .int .i64 r1 ∧ v5 = .int .i64 0 ∧ w' = w)
  case atStart => exact ⟨rfl, rfl, rfl⟩
  case round =>
   obtain ⟨rfl, rfl, rfl⟩ := hrel
   go_wp2
   go_ret
   exact ⟨rfl, HS.out, HB.1, Kept.refl _ _⟩
 ·obtain ⟨g, cap, rfl, hg1, hg2, _⟩ := Kd.S_form ho0 hp
  have HG := zM hg1
  have hPg : P0_ g := (Kd.S_R ho0).1 g rfl
  have HPG := zM hPg
  clear ho0 hp hPg hg1 hg2
  go_enter Try.func29, Try.ntmps29
  go_wp2
  go_loopg [1, 5] k (fun kq v1 v5 w' => ∃ (x0 : List S53) (x1 x5 : Int), v1 = .int .i64 x1 ∧ v5 = .int .i64 x5 ∧ Aside0 (laws_markHartS.l0 kq x0 x1 x5 = some (r1, r2)) ∧ Aside0 (x0.length = l0.length) ∧ Aside0 (Kd.S k53 53 w' w0.heap.size P0_ (.slice (some ⟨g, 0, none⟩) l0.length cap) x0) ∧ Aside0 (Below w0.heap.size w0 w') ∧ Aside0 (Kept w w' P0_))
  case atStart => exact ⟨l0, a1, 0, rfl, rfl, ⟨H0.out⟩, ⟨rfl⟩, ⟨HS.out⟩, ⟨HB.1⟩, ⟨Kept.refl _ _⟩⟩
  case round =>
   clear HS HB H0
   obtain ⟨x0, x1, x5, rfl, rfl, H0, HX, HS, HB, HK⟩ := hrel
   cases gk with
   | zero => exact absurd H0.out (by simp [laws_markHartS.l0])
   | succ gk =>
   have H := H0.out
   simp only [laws_markHartS.l0] at H
   clear H0
   by_cases c1 : x5 < (l0.length : Int)
   rotate_left
   ·rw [if_neg (by rw [HX.out]; exact c1)] at H
    obtain ⟨rfl, rfl⟩ : x1 = r1 ∧ x0 = r2 := by simpa using H
    have d0 : decide (x5 < (l0.length : Int)) = false := decide_eq_false c1
    clear c1 H
    go_wp2
    go_ret
    exact ⟨rfl, HS.out, HB.1, HK.1⟩
   rw [if_pos (by rw [HX.out]; exact c1)] at H
   by_cases c2 : 0 ≤ x5
   rotate_left
   ·rw [if_neg c2] at H; exact absurd H (by simp)
   rw [if_pos c2] at H
   obtain ⟨⟨b1, b2⟩, hm, H⟩ := Option.bind_eq_some_iff.1 H
   dsimp only at H
   have HM := zM hm
   have HH := zM H
   have d0 : decide (x5 < (l0.length : Int)) = true := decide_eq_true c1
   have p1 : (0 ≤ x5) = True := eq_true c2
   have p2 : (x5 < (l0.length : Int)) = True := eq_true c1
   obtain ⟨oki, c, hcl, hMM, hcc, hfr, hoki, hHH⟩ := Kd.S_elem HS.out z53 x5 c2 c1
   obtain ⟨v0, hce, hR0⟩ := k53_openM hMM
   have hx0 : wr.cell? ⟨g, x5.toNat * 3, none⟩ = some v0 := by have := hcc 0 v0 (by rw [hce]; rfl); exact this
   have hx1 : wr.cell? ⟨g, x5.toNat * 3 + 1, none⟩ = some (.int .i64 (rd_T53 x0 x5).f1) := hcc 1 _ (by rw [hce]; rfl)
   have hx2 : wr.cell? ⟨g, x5.toNat * 3 + 2, none⟩ = some (.int .i64 (rd_T53 x0 x5).f2) := hcc 2 _ (by rw [hce]; rfl)
   have hf1 : wr.frozen? ⟨g, x5.toNat * 3 + 1, none⟩ = false := hfr 1
   have hf2 : wr.frozen? ⟨g, x5.toNat * 3 + 2, none⟩ = false := hfr 2
   have HR0 := zM hR0
   have HHH := zM hHH
   have HOK := zM hoki
   have HCE := zM hce
   have hgne : ¬ oki g := fun h => (hoki g h).2 rfl
   have HGN := zM hgne
   have HIN := zM c2
   have HIL := zM c1
   clear hR0 hHH hoki hce hgne hcl hMM hcc hfr c1 c2 hm H
   go_wp2_with (first | (go_at_call 28; (refine (laws_markIntS.calls gk oki v0 ((rd_T53 x0 x5).f0) x1 b1 b2 w0 _ HB.1 HR0.1 HM.out).mono ?_); rintro e w8 ⟨rfl, hr8, hb8, hk8⟩; have HR8 := zM hr8; have HB8 := zM hb8; have HK8 := zM hk8; have k1 := cell_kept hx1 hk8 HGN.out; have k2 := cell_kept hx2 hk8 HGN.out; have hge : w8.heap[g]? = wr.heap[g]? := hk8.2 g (World.block_lt_of_cell? wr _ hx1) HGN.out; have f1 : w8.frozen? ⟨g, x5.toNat * 3 + 1, none⟩ = false := (by have := hf1; simpa [World.frozen?, hge] using this); have f2 : w8.frozen? ⟨g, x5.toNat * 3 + 2, none⟩ = false := (by have := hf2; simpa [World.frozen?, hge] using this); clear hr8 hb8 hk8 hge hx0 hx1 hx2 hf1 hf2))
   go_roundg gk
   case rel => exact ⟨x0.set (x5 : Int).toNat ⟨b2, b1, wrap64 (b1 + 1)⟩, wrap64 (wrap64 (b1 + 1) + 1), wrap64 (x5 + 1), rfl, rfl, ⟨HH.out⟩, ⟨by rw [List.length_set]; exact HX.out⟩, ⟨markH_back (x' := ⟨b2, b1, wrap64 (b1 + 1)⟩) HHH.out HIN.out HIL.out HOK.out HCE.out HK8.1 (Kd.R_mono (Kd.R_tight rfl HR8.1) (fun k hk => HR0.1.1 k hk.symm))⟩, ⟨(HB8.1.setCell HG.1 _).setCell HG.1 _⟩, ⟨((HK.1.then_ HK8.1 (fun k hk => .inl (HOK.out k hk).1)).setCell (.inl HPG.out) _).setCell (.inl HPG.out) _⟩⟩
   all_goals omega

/-! ### laws_markWatch: function 30 -/
def laws_markWatch.f (k : Nat) (l0_0 : List Int) (l0_1 : List Int) (a1 : Int) : Option (Int × List Int × List Int) := (laws_markIntS.f k l0_0 a1).bind fun bt528 => ((laws_markIntS.f k l0_1 bt528.1).bind fun bt530 => (some (bt530.1, bt528.2, bt530.2)))
theorem laws_markWatch.mono : ∀ a0 a1 a2 k, LeO (laws_markWatch.f k a0 a1 a2) (laws_markWatch.f (k + 1) a0 a1 a2) := by
 intro a0 a1 a2 k
 unfold laws_markWatch.f
 have mo0 := @laws_markIntS.mono
 exact zL
theorem laws_markWatch.calls (k : Nat) (P0_0_ : Nat → Prop) (u9000_ : Value) (l0_0 : List Int) (P0_1_ : Nat → Prop) (u9001_ : Value) (l0_1 : List Int) (a1 : Int) (r1 : Int) (r2 : List Int) (r3 : List Int) (w0 w : World) (hB : Below w0.heap.size w0 w) (ho0_0 : Kd.R (Kd.int .i64) 3 w w0.heap.size P0_0_ u9000_ l0_0) (hp0_0_0_1 : ∀ k_, P0_0_ k_ → ¬ P0_1_ k_) (ho0_1 : Kd.R (Kd.int .i64) 3 w w0.heap.size P0_1_ u9001_ l0_1) (hp0_1_0_0 : ∀ k_, P0_1_ k_ → ¬ P0_0_ k_) (h : laws_markWatch.f k l0_0 l0_1 a1 = some (r1, r2, r3)) :
  Calls Try.prog 30 #[.agg #[u9000_, u9001_], .int .i64 a1] w fun e w' => e = .returned (.int .i64 r1) ∧ Kd.R (Kd.int .i64) 3 w' w0.heap.size (fun k_ => ((P0_0_ k_ ∨ P0_1_ k_) ∨ w.heap.size ≤ k_)) u9000_ r2 ∧ Kd.R (Kd.int .i64) 3 w' w0.heap.size (fun k_ => ((P0_0_ k_ ∨ P0_1_ k_) ∨ w.heap.size ≤ k_)) u9001_ r3 ∧ Below w0.heap.size w0 w' ∧ Kept w w' (fun k_ => P0_0_ k_ ∨ P0_1_ k_) := by
 have hu27 := Try.underlying27
 have HO0_0 := zM (show Kd.R (Kd.int .i64) 3 w w0.heap.size (fun k_ => ((P0_0_ k_ ∨ P0_1_ k_) ∨ w.heap.size ≤ k_) ∧ some k_ ≠ (u9001_ : Value).ownBlock) u9000_ l0_0 from Kd.R_mono ho0_0 (fun k_ hk => ⟨(.inl (.inl hk)), fun e_ => hp0_0_0_1 k_ hk (ho0_1.1 k_ e_.symm)⟩))
 have HO0_1 := zM (show Kd.R (Kd.int .i64) 3 w w0.heap.size (fun k_ => ((P0_0_ k_ ∨ P0_1_ k_) ∨ w.heap.size ≤ k_) ∧ some k_ ≠ (u9000_ : Value).ownBlock) u9001_ l0_1 from Kd.R_mono ho0_1 (fun k_ hk => ⟨(.inl (.inr hk)), fun e_ => hp0_1_0_0 k_ hk (ho0_0.1 k_ e_.symm)⟩))
 have HK := zM (Kept.refl w (fun k_ => P0_0_ k_ ∨ P0_1_ k_))
 have HW0 := zM hB.size
 have HB := zM hB
 clear hB
 unfold laws_markWatch.f at h
 have H := h
 clear h
 replace H := zO H
 obtain ⟨⟨t528, t529⟩, A3, H⟩ := H
 try dsimp only at H
 replace H := zO H
 obtain ⟨⟨t530, t531⟩, A4, H⟩ := H
 try dsimp only at H
 simp only [Option.some.injEq, Prod.mk.injEq] at H
 obtain ⟨rfl, rfl, rfl⟩ := H
 obtain ⟨Ao5, co5, eo5⟩ := Kd.R_slice HO0_0.1
 subst eo5
 obtain ⟨Ao6, co6, eo6⟩ := Kd.R_slice HO0_1.1
 subst eo6
 go_enter Try.func30, Try.ntmps30
 go_wp2_with (first | ((with_reducible refine zBx 2 27 #[.slice Ao5 l0_0.length co5, .slice Ao6 l0_1.length co6] ?_); intro gb527 hg w7 hbox hb; replace HO0_0 := zM (Kd.R_below (zR HO0_0.1) hb); replace HO0_1 := zM (Kd.R_below (zR HO0_1.1) hb); have BK527 := zM hbox; have GW527 := zM ((by rw [hg]; exact (by first | exact HK.1.1 | exact (show Kept w _ (fun k_ => P0_0_ k_ ∨ P0_1_ k_) from zB23).1) : w.heap.size ≤ gb527)); replace HK := zM (Kept.below (S := (fun k_ => P0_0_ k_ ∨ P0_1_ k_)) zB23 hb); have GE527 := zM ((by rw [hg]; exact (below_size zB1) : w0.heap.size ≤ gb527)); replace HB := zM (below_step zB1 hb); clear hb hbox hg; have hcz8 := zc_2 (w := w7) BK527.1) | ((with_reducible refine zG Try.func28 8 #[.slice Ao5 l0_0.length co5, .int .i64 a1] ?_); (with_reducible refine (laws_markIntS.calls k (fun k_ => some k_ = (.slice Ao5 l0_0.length co5 : Value).ownBlock) (.slice Ao5 l0_0.length co5) l0_0 a1 t528 t529 w0 _ ?side1 ?side2 A3.1).mono ?_); (case side1 => exact zB1); (case side2 => exact Kd.R_tight rfl HO0_0.1); rintro e w9 ⟨rfl, hy0, hb, hkp⟩; refine ⟨_, rfl, ?_⟩; replace HO0_1 := zM (Kd.R_mono (ok' := fun k_ => ((P0_0_ k_ ∨ P0_1_ k_) ∨ w.heap.size ≤ k_) ∧ some k_ ≠ (.slice Ao5 l0_0.length co5 : Value).ownBlock) (Kd.R_keptB (HO0_1.1) hkp (fun k_ hk_ hs_ => (hk_.2) hs_)) (fun k_ hk_ => ⟨hk_.1.1, hk_.1.2⟩)); replace BK527 := zM (blk_kept (zK BK527.1) hkp (fun hs_ => (fun e_ => (Kd.R_ne HO0_0.1 BK527.1 (by decide)) e_) hs_)); replace HK := zM (Kept.then_ (S := (fun k_ => P0_0_ k_ ∨ P0_1_ k_)) zB73 hkp (fun k_ hs_ => (fun e_ => (HO0_0.1.1 k_ e_.symm).1) hs_)); replace HO0_0 := zM (Kd.R_reok rfl hy0 (fun k_ e_ => HO0_0.1.1 k_ e_)); replace HB := zM hb; clear hb hkp hy0; have hcz10 := zc_2 (w := w9) BK527.1) | ((with_reducible refine zG Try.func28 12 #[.slice Ao6 l0_1.length co6, .int .i64 t528] ?_); (with_reducible refine (laws_markIntS.calls k (fun k_ => some k_ = (.slice Ao6 l0_1.length co6 : Value).ownBlock) (.slice Ao6 l0_1.length co6) l0_1 t528 t530 t531 w0 _ ?side1 ?side2 A4.1).mono ?_); (case side1 => exact zB1); (case side2 => exact Kd.R_tight rfl HO0_1.1); rintro e w11 ⟨rfl, hy0, hb, hkp⟩; refine ⟨_, rfl, ?_⟩; replace HO0_0 := zM (Kd.R_mono (ok' := fun k_ => ((P0_0_ k_ ∨ P0_1_ k_) ∨ w.heap.size ≤ k_) ∧ some k_ ≠ (.slice Ao6 l0_1.length co6 : Value).ownBlock) (Kd.R_keptB (HO0_0.1) hkp (fun k_ hk_ hs_ => (hk_.2) hs_)) (fun k_ hk_ => ⟨hk_.1.1, hk_.1.2⟩)); replace BK527 := zM (blk_kept (zK BK527.1) hkp (fun hs_ => (fun e_ => (Kd.R_ne HO0_1.1 BK527.1 (by decide)) e_) hs_)); replace HK := zM (Kept.then_ (S := (fun k_ => P0_0_ k_ ∨ P0_1_ k_)) zB73 hkp (fun k_ hs_ => (fun e_ => (HO0_1.1.1 k_ e_.symm).1) hs_)); replace HO0_1 := zM (Kd.R_reok rfl hy0 (fun k_ e_ => HO0_1.1.1 k_ e_)); replace HB := zM hb; clear hb hkp hy0))
 go_ret
 exact ⟨zE, by refine zrR ?_; exact Kd.R_mono HO0_0.1 (fun _ hk => hk.1), by refine zrR ?_; exact Kd.R_mono HO0_1.1 (fun _ hk => hk.1), zB1, zB73⟩

/-! ### laws_heldIntS: function 31 -/
def laws_heldIntS.l0 : Nat → List Int → Int → Int → Option (Int)
 | 0, _, _, _ => none
 | k + 1, x0, x1, x5 => if x5 < (x0.length : Int) then (if 0 ≤ x5 then (if (rd x0 x5) = x1 then (laws_heldIntS.l0 k x0 (wrap64 (x1 + 1)) (wrap64 (x5 + 1))) else (some (-1))) else (none)) else (some x1)
def laws_heldIntS.f (k : Nat) (l0 : List Int) (a1 : Int) : Option (Int) := laws_heldIntS.l0 k l0 a1 0
theorem laws_heldIntS.mono_l : ∀ k, (∀ y0 y1 y2, LeO (laws_heldIntS.l0 k y0 y1 y2) (laws_heldIntS.l0 (k + 1) y0 y1 y2))
 | 0 => fun _ _ _ r h => by simp [laws_heldIntS.l0] at h
 | k + 1 => by
  have ih0 := laws_heldIntS.mono_l k
  ·intros
   unfold laws_heldIntS.l0
   exact zL
theorem laws_heldIntS.mono : ∀ a0 a1 k, LeO (laws_heldIntS.f k a0 a1) (laws_heldIntS.f (k + 1) a0 a1) := by
 intro a0 a1 k
 have ih0 := laws_heldIntS.mono_l k
 unfold laws_heldIntS.f
 exact zL
theorem laws_heldIntS.calls (k : Nat) (A0 : Option Addr) (c0 : Nat) (l0 : List Int) (a1 : Int) (r : Int) (w : World) (hr0 : Kd.C (Kd.int .i64) w A0 l0.length l0) (hc0 : l0.length ≤ c0) (h : laws_heldIntS.f k l0 a1 = some r) :
  Calls Try.prog 31 #[.slice A0 l0.length c0, .int .i64 a1] w fun e w' => e = .returned (.int .i64 r) ∧ Drawn0 w w' := by
 have HR0 := zM hr0
 have HC0 := zM hc0
 clear hr0 hc0
 unfold laws_heldIntS.f at h
 have H := h
 clear h
 have H' := zM H
 clear H
 go_enter Try.func31, Try.ntmps31
 go_wp2
 go_loopg [1, 5] k (fun kq v1 v5 w' => ∃ (x1_1 : Int) (x5_1 : Int), v1 = .int .i64 x1_1 ∧ v5 = .int .i64 x5_1 ∧ Aside0 (laws_heldIntS.l0 kq l0 x1_1 x5_1 = some r) ∧ Aside0 (kq ≤ k) ∧ Drawn0 w w')
 case atStart => exact ⟨(a1), (0), zJJ, zJJ, H', ⟨Nat.le_refl _⟩, zDD⟩
 case round =>
  clear H'
  obtain ⟨x1_1, x5_1, rfl, rfl, HA, HK1, ⟨m1, rfl⟩⟩ := hrel
  cases gk with
  | zero => exact absurd HA.1 (by simp [laws_heldIntS.l0])
  | succ k1 =>
   have H := HA.1
   clear HA
   simp only [laws_heldIntS.l0] at H
   by_cases c3 : x5_1 < (l0.length : Int)
   rotate_left
   ·rw [if_neg c3] at H
    have c3b0 := decide_eq_false c3
    clear c3
    obtain rfl := Option.some.inj H
    go_wp2
    go_ret
    exact ⟨zJJ, zDD⟩
   rw [if_pos c3] at H
   have c3b0 := decide_eq_true c3
   clear c3
   replace H := zIt H
   obtain ⟨c4b0, H⟩ := H
   by_cases c5 : (rd l0 x5_1) = x1_1
   rotate_left
   ·rw [if_neg c5] at H
    have c5b0 : ((rd l0 x5_1) == x1_1) = false := beq_eq_false_iff_ne.mpr c5
    have c5b1 : ((rd l0 x5_1) != x1_1) = true := bne_iff_ne.mpr c5
    obtain rfl := Option.some.inj H
    obtain ⟨p532, q532, ad532, e532, hx532_0⟩ := zRd (Kd.at_int HR0.1 x5_1)
    cases e532
    go_wp2
    go_ret
    exact ⟨zJJ, zDD⟩
   rw [if_pos c5] at H
   have c5b0 : ((rd l0 x5_1) == x1_1) = true := beq_iff_eq.mpr c5
   have c5b1 : ((rd l0 x5_1) != x1_1) = false := bne_eq_false_iff_eq.mpr c5
   clear c5
   have H' := zM H
   clear H
   obtain ⟨p532, q532, ad532, e532, hx532_0⟩ := zRd (Kd.at_int HR0.1 x5_1)
   cases e532
   go_wp2
   go_roundg k1
   case measure => have := HK1.1; omega
   case rel => exact ⟨(wrap64 (x1_1 + 1)), (wrap64 (x5_1 + 1)), zJJ, zJJ, H', ⟨by have := HK1.1; omega⟩, zDD⟩

end Go.Proofs.Ytpcgecacaemalaa.PFnExactRunTo
