-- made by wip/tools/myprint.py out of the seat's translation
import Derived.Test.YtpcgecacaemalaaPFnExactRunTox0
import Derived.Test.YtpcgecacaemalaaPFnExactRunTox17
namespace Go.Proofs.Ytpcgecacaemalaa.PFnExactRunTo
open Go.RowKit Go.Proofs.YtpcgecacaemalaaW.PrintWords Go.Proofs.YtpcgecacaemalaaW.PrintLast Go.Proofs.YtpcgecacaemalaaW.PrintMore
attribute [local go_sem] max2_int min2_int max_two min_two max_three min_three max_four min_four   -- for this text's walks alone
set_option linter.unusedVariables false
set_option linter.unusedSimpArgs false
set_option maxHeartbeats 8000000
set_option maxRecDepth 100000

/-! ### laws_heldHartS: function 32 -/
def laws_heldHartS.l0 : Nat → List (S53) → Int → Int → Option (Int)
 | 0, _, _, _ => none
 | k + 1, x0, x1, x5 => if x5 < (x0.length : Int) then (if 0 ≤ x5 then ((laws_heldIntS.f k ((rd_T53 x0 x5).f0) x1).bind fun t534 => (if t534 < 0 then (some (-1)) else (if ((rd_T53 x0 x5).f1) = t534 then (if ((rd_T53 x0 x5).f2) = (wrap64 (t534 + 1)) then (laws_heldHartS.l0 k x0 (wrap64 ((wrap64 (t534 + 1)) + 1)) (wrap64 (x5 + 1))) else (some (-1))) else (some (-1))))) else (none)) else (some x1)
def laws_heldHartS.f (k : Nat) (l0 : List (S53)) (a1 : Int) : Option (Int) := laws_heldHartS.l0 k l0 a1 0
theorem laws_heldHartS.mono_l : ∀ k, (∀ y0 y1 y2, LeO (laws_heldHartS.l0 k y0 y1 y2) (laws_heldHartS.l0 (k + 1) y0 y1 y2))
 | 0 => fun _ _ _ r h => by simp [laws_heldHartS.l0] at h
 | k + 1 => by
  have ih0 := laws_heldHartS.mono_l k
  ·intros
   unfold laws_heldHartS.l0
   have mo0 := @laws_heldIntS.mono
   exact zL
theorem laws_heldHartS.mono : ∀ a0 a1 k, LeO (laws_heldHartS.f k a0 a1) (laws_heldHartS.f (k + 1) a0 a1) := by
 intro a0 a1 k
 have ih0 := laws_heldHartS.mono_l k
 unfold laws_heldHartS.f
 have mo0 := @laws_heldIntS.mono
 exact zL
theorem laws_heldHartS.calls (k : Nat) (A0 : Option Addr) (c0 : Nat) (l0 : List (S53)) (a1 : Int) (r : Int) (w : World) (hr0 : Kd.C k53 w A0 l0.length l0) (hc0 : l0.length ≤ c0) (h : laws_heldHartS.f k l0 a1 = some r) :
  Calls Try.prog 32 #[.slice A0 l0.length c0, .int .i64 a1] w fun e w' => e = .returned (.int .i64 r) ∧ Drawn0 w w' := by
 have HR0 := zM hr0
 have HC0 := zM hc0
 clear hr0 hc0
 unfold laws_heldHartS.f at h
 have H := h
 clear h
 have H' := zM H
 clear H
 go_enter Try.func32, Try.ntmps32
 go_wp2
 go_loopg [1, 5] k (fun kq v1 v5 w' => ∃ (x1_1 : Int) (x5_1 : Int), v1 = .int .i64 x1_1 ∧ v5 = .int .i64 x5_1 ∧ Aside0 (laws_heldHartS.l0 kq l0 x1_1 x5_1 = some r) ∧ Aside0 (kq ≤ k) ∧ Drawn0 w w')
 case atStart => exact ⟨(a1), (0), zJJ, zJJ, H', ⟨Nat.le_refl _⟩, zDD⟩
 case round =>
  clear H'
  obtain ⟨x1_1, x5_1, rfl, rfl, HA, HK1, ⟨m1, rfl⟩⟩ := hrel
  cases gk with
  | zero => exact absurd HA.1 (by simp [laws_heldHartS.l0])
  | succ k1 =>
   have H := HA.1
   clear HA
   simp only [laws_heldHartS.l0] at H
   by_cases c3 : x5_1 < (l0.length : Int)
   rotate_left
   ·rw [if_neg c3] at H
    have c3b0 := decide_eq_false c3
    clear c3
    obtain rfl := Option.some.inj H
    go_wp2
    go_ret
    exact ⟨zJJ, zDD⟩
   rw [if_pos c3] at H
   have c3b0 := decide_eq_true c3
   clear c3
   replace H := zIt H
   obtain ⟨c4b0, H⟩ := H
   replace H := zO H
   obtain ⟨t534, A5, H⟩ := H
   by_cases c6 : t534 < 0
   ·rw [if_pos c6] at H
    have c6b0 := decide_eq_true c6
    clear c6
    obtain rfl := Option.some.inj H
    obtain ⟨p533, q533, ad533, A533_0, c533_0, e533, hx533_0, hx533_1, hx533_2, hl533_0, hi533_0⟩ := zRd (at_T53 HR0.1 x5_1)
    cases e533
    have HR533_0 := zM hi533_0
    have HC533_0 := zM hl533_0
    clear hi533_0 hl533_0
    go_wp2_with (first | ((with_reducible refine zG Try.func31 18 #[.slice A533_0 ((rd_T53 l0 x5_1).f0).length c533_0, .int .i64 x1_1] ?_); (with_reducible refine (laws_heldIntS.calls k1 _ _ ((rd_T53 l0 x5_1).f0) x1_1 t534 _ ?side1 ?side2 A5.1).mono ?_); (case side1 => exact zC HR533_0.1); (case side2 => exact HC533_0.1); rintro e w' ⟨rfl, ⟨nd, rfl⟩⟩; refine ⟨_, rfl, ?_⟩))
    go_ret
    exact ⟨zJJ, zDD⟩
   rw [if_neg c6] at H
   have c6b0 := decide_eq_false c6
   clear c6
   by_cases c7 : ((rd_T53 l0 x5_1).f1) = t534
   rotate_left
   ·rw [if_neg c7] at H
    have c7b0 : (((rd_T53 l0 x5_1).f1) == t534) = false := beq_eq_false_iff_ne.mpr c7
    have c7b1 : (((rd_T53 l0 x5_1).f1) != t534) = true := bne_iff_ne.mpr c7
    obtain rfl := Option.some.inj H
    obtain ⟨p533, q533, ad533, A533_0, c533_0, e533, hx533_0, hx533_1, hx533_2, hl533_0, hi533_0⟩ := zRd (at_T53 HR0.1 x5_1)
    cases e533
    have HR533_0 := zM hi533_0
    have HC533_0 := zM hl533_0
    clear hi533_0 hl533_0
    go_wp2_with (first | ((with_reducible refine zG Try.func31 18 #[.slice A533_0 ((rd_T53 l0 x5_1).f0).length c533_0, .int .i64 x1_1] ?_); (with_reducible refine (laws_heldIntS.calls k1 _ _ ((rd_T53 l0 x5_1).f0) x1_1 t534 _ ?side1 ?side2 A5.1).mono ?_); (case side1 => exact zC HR533_0.1); (case side2 => exact HC533_0.1); rintro e w' ⟨rfl, ⟨nd, rfl⟩⟩; refine ⟨_, rfl, ?_⟩; have p535 : 0 ≤ (x5_1 : Int) := zA; have q535 : x5_1 < (l0.length : Int) := zA; obtain ⟨ad535, A535_0, c535_0, e535, hx535_0, hx535_1, hx535_2, hl535_0, hi535_0⟩ := at_T53 HR0.1 x5_1 p535 q535; obtain rfl : ad533 = ad535 := (by injection e535); have HR535_0 := zM hi535_0; have HC535_0 := zM hl535_0; clear hi535_0 hl535_0; replace p535 := eq_true p535; replace q535 := eq_true q535; have ea_ := Option.some.inj (hx533_0.symm.trans hx535_0); injection ea_ with ea_ en_ ec_; subst ea_; subst ec_; clear en_))
    go_ret
    exact ⟨zJJ, zDD⟩
   rw [if_pos c7] at H
   have c7b0 : (((rd_T53 l0 x5_1).f1) == t534) = true := beq_iff_eq.mpr c7
   have c7b1 : (((rd_T53 l0 x5_1).f1) != t534) = false := bne_eq_false_iff_eq.mpr c7
   clear c7
   by_cases c8 : ((rd_T53 l0 x5_1).f2) = (wrap64 (t534 + 1))
   rotate_left
   ·rw [if_neg c8] at H
    have c8b0 : (((rd_T53 l0 x5_1).f2) == (wrap64 (t534 + 1))) = false := beq_eq_false_iff_ne.mpr c8
    have c8b1 : (((rd_T53 l0 x5_1).f2) != (wrap64 (t534 + 1))) = true := bne_iff_ne.mpr c8
    obtain rfl := Option.some.inj H
    obtain ⟨p533, q533, ad533, A533_0, c533_0, e533, hx533_0, hx533_1, hx533_2, hl533_0, hi533_0⟩ := zRd (at_T53 HR0.1 x5_1)
    cases e533
    have HR533_0 := zM hi533_0
    have HC533_0 := zM hl533_0
    clear hi533_0 hl533_0
    go_wp2_with (first | ((with_reducible refine zG Try.func31 18 #[.slice A533_0 ((rd_T53 l0 x5_1).f0).length c533_0, .int .i64 x1_1] ?_); (with_reducible refine (laws_heldIntS.calls k1 _ _ ((rd_T53 l0 x5_1).f0) x1_1 t534 _ ?side1 ?side2 A5.1).mono ?_); (case side1 => exact zC HR533_0.1); (case side2 => exact HC533_0.1); rintro e w' ⟨rfl, ⟨nd, rfl⟩⟩; refine ⟨_, rfl, ?_⟩; have p535 : 0 ≤ (x5_1 : Int) := zA; have q535 : x5_1 < (l0.length : Int) := zA; obtain ⟨ad535, A535_0, c535_0, e535, hx535_0, hx535_1, hx535_2, hl535_0, hi535_0⟩ := at_T53 HR0.1 x5_1 p535 q535; obtain rfl : ad533 = ad535 := (by injection e535); have HR535_0 := zM hi535_0; have HC535_0 := zM hl535_0; clear hi535_0 hl535_0; replace p535 := eq_true p535; replace q535 := eq_true q535; have ea_ := Option.some.inj (hx533_0.symm.trans hx535_0); injection ea_ with ea_ en_ ec_; subst ea_; subst ec_; clear en_; have p536 : 0 ≤ (x5_1 : Int) := zA; have q536 : x5_1 < (l0.length : Int) := zA; obtain ⟨ad536, A536_0, c536_0, e536, hx536_0, hx536_1, hx536_2, hl536_0, hi536_0⟩ := at_T53 HR0.1 x5_1 p536 q536; obtain rfl : ad533 = ad536 := (by injection e536); have HR536_0 := zM hi536_0; have HC536_0 := zM hl536_0; clear hi536_0 hl536_0; replace p536 := eq_true p536; replace q536 := eq_true q536; have ea_ := Option.some.inj (hx533_0.symm.trans hx536_0); injection ea_ with ea_ en_ ec_; subst ea_; subst ec_; clear en_))
    go_ret
    exact ⟨zJJ, zDD⟩
   rw [if_pos c8] at H
   have c8b0 : (((rd_T53 l0 x5_1).f2) == (wrap64 (t534 + 1))) = true := beq_iff_eq.mpr c8
   have c8b1 : (((rd_T53 l0 x5_1).f2) != (wrap64 (t534 + 1))) = false := bne_eq_false_iff_eq.mpr c8
   clear c8
   have H' := zM H
   clear H
   obtain ⟨p533, q533, ad533, A533_0, c533_0, e533, hx533_0, hx533_1, hx533_2, hl533_0, hi533_0⟩ := zRd (at_T53 HR0.1 x5_1)
   cases e533
   have HR533_0 := zM hi533_0
   have HC533_0 := zM hl533_0
   clear hi533_0 hl533_0
   go_wp2_with (first | ((with_reducible refine zG Try.func31 18 #[.slice A533_0 ((rd_T53 l0 x5_1).f0).length c533_0, .int .i64 x1_1] ?_); (with_reducible refine (laws_heldIntS.calls k1 _ _ ((rd_T53 l0 x5_1).f0) x1_1 t534 _ ?side1 ?side2 A5.1).mono ?_); (case side1 => exact zC HR533_0.1); (case side2 => exact HC533_0.1); rintro e w' ⟨rfl, ⟨nd, rfl⟩⟩; refine ⟨_, rfl, ?_⟩; have p535 : 0 ≤ (x5_1 : Int) := zA; have q535 : x5_1 < (l0.length : Int) := zA; obtain ⟨ad535, A535_0, c535_0, e535, hx535_0, hx535_1, hx535_2, hl535_0, hi535_0⟩ := at_T53 HR0.1 x5_1 p535 q535; obtain rfl : ad533 = ad535 := (by injection e535); have HR535_0 := zM hi535_0; have HC535_0 := zM hl535_0; clear hi535_0 hl535_0; replace p535 := eq_true p535; replace q535 := eq_true q535; have ea_ := Option.some.inj (hx533_0.symm.trans hx535_0); injection ea_ with ea_ en_ ec_; subst ea_; subst ec_; clear en_; have p536 : 0 ≤ (x5_1 : Int) := zA; have q536 : x5_1 < (l0.length : Int) := zA; obtain ⟨ad536, A536_0, c536_0, e536, hx536_0, hx536_1, hx536_2, hl536_0, hi536_0⟩ := at_T53 HR0.1 x5_1 p536 q536; obtain rfl : ad533 = ad536 := (by injection e536); have HR536_0 := zM hi536_0; have HC536_0 := zM hl536_0; clear hi536_0 hl536_0; replace p536 := eq_true p536; replace q536 := eq_true q536; have ea_ := Option.some.inj (hx533_0.symm.trans hx536_0); injection ea_ with ea_ en_ ec_; subst ea_; subst ec_; clear en_))
   go_roundg k1
   case measure => have := HK1.1; omega
   case rel => exact ⟨(wrap64 ((wrap64 (t534 + 1)) + 1)), (wrap64 (x5_1 + 1)), zJJ, zJJ, H', ⟨by have := HK1.1; omega⟩, zDD⟩

end Go.Proofs.Ytpcgecacaemalaa.PFnExactRunTo
