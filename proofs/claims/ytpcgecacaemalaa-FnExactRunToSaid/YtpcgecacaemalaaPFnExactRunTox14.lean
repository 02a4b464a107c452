-- made by wip/tools/myprint.py out of the seat's translation
import Derived.Test.YtpcgecacaemalaaPFnExactRunTox0
namespace Go.Proofs.Ytpcgecacaemalaa.PFnExactRunTo
open Go.RowKit Go.Proofs.YtpcgecacaemalaaW.PrintWords Go.Proofs.YtpcgecacaemalaaW.PrintLast Go.Proofs.YtpcgecacaemalaaW.PrintMore
attribute [local go_sem] max2_int min2_int max_two min_two max_three min_three max_four min_four   -- for this text's walks alone
set_option linter.unusedVariables false
set_option linter.unusedSimpArgs false
set_option maxHeartbeats 8000000
set_option maxRecDepth 100000

/-! ### spec_l19Meets: function 70 -/
mutual
def spec_l19Meets.l0 : Nat → List Int → List Int → Int → Option (Bool)
 | 0, _, _, _ => none
 | k + 1, x0, x1, x5 => if x5 < (x0.length : Int) then (spec_l19Meets.l1 k x0 x1 x5 0) else (some false)
def spec_l19Meets.l1 : Nat → List Int → List Int → Int → Int → Option (Bool)
 | 0, _, _, _, _ => none
 | k + 1, x0, x1, x5, x6 => if x6 < (x1.length : Int) then (if 0 ≤ x5 then (if x5 < (x0.length : Int) then (if 0 ≤ x6 then (if (rd x0 x5) = (rd x1 x6) then (some true) else (spec_l19Meets.l1 k x0 x1 x5 (wrap64 (x6 + 1)))) else (none)) else (none)) else (none)) else (spec_l19Meets.l0 k x0 x1 (wrap64 (x5 + 1)))
end
def spec_l19Meets.f (k : Nat) (l0 : List Int) (l1 : List Int) : Option (Bool) := spec_l19Meets.l0 k l0 l1 0
theorem spec_l19Meets.mono_l : ∀ k, (∀ y0 y1 y2, LeO (spec_l19Meets.l0 k y0 y1 y2) (spec_l19Meets.l0 (k + 1) y0 y1 y2)) ∧ (∀ y0 y1 y2 y3, LeO (spec_l19Meets.l1 k y0 y1 y2 y3) (spec_l19Meets.l1 (k + 1) y0 y1 y2 y3))
 | 0 => ⟨fun _ _ _ r h => by simp [spec_l19Meets.l0] at h, fun _ _ _ _ r h => by simp [spec_l19Meets.l1] at h⟩
 | k + 1 => by
  obtain ⟨ih0, ih1⟩ := spec_l19Meets.mono_l k
  refine ⟨?_, ?_⟩
  ·intros
   unfold spec_l19Meets.l0
   exact zL
  ·intros
   unfold spec_l19Meets.l1
   exact zL
theorem spec_l19Meets.mono : ∀ a0 a1 k, LeO (spec_l19Meets.f k a0 a1) (spec_l19Meets.f (k + 1) a0 a1) := by
 intro a0 a1 k
 obtain ⟨ih0, ih1⟩ := spec_l19Meets.mono_l k
 unfold spec_l19Meets.f
 exact zL
theorem spec_l19Meets.calls (k : Nat) (A0 : Option Addr) (c0 : Nat) (l0 : List Int) (A1 : Option Addr) (c1 : Nat) (l1 : List Int) (r : Bool) (w : World) (hr0 : Kd.C (Kd.int .i64) w A0 l0.length l0) (hc0 : l0.length ≤ c0) (hr1 : Kd.C (Kd.int .i64) w A1 l1.length l1) (hc1 : l1.length ≤ c1) (h : spec_l19Meets.f k l0 l1 = some r) :
  Calls Try.prog 70 #[.slice A0 l0.length c0, .slice A1 l1.length c1] w fun e w' => e = .returned (.bool r) ∧ Drawn0 w w' := by
 have HR0 := zM hr0
 have HC0 := zM hc0
 clear hr0 hc0
 have HR1 := zM hr1
 have HC1 := zM hc1
 clear hr1 hc1
 unfold spec_l19Meets.f at h
 have H := h
 clear h
 have H' := zM H
 clear H
 go_enter Try.func70, Try.ntmps70
 go_wp2
 repeat (go_quiet (fail); try go_wp2)
 go_loopg [5] k (fun kq v5 w' => ∃ (x5_1 : Int), v5 = .int .i64 x5_1 ∧ Aside0 (spec_l19Meets.l0 kq l0 l1 x5_1 = some r) ∧ Aside0 (kq ≤ k) ∧ Drawn0 w w')
 case atStart => exact ⟨(0), zJJ, H', ⟨Nat.le_refl _⟩, zDD⟩
 case round =>
  clear H'
  obtain ⟨x5_1, rfl, HA, HK1, ⟨m1, rfl⟩⟩ := hrel
  cases gk with
  | zero => exact absurd HA.1 (by simp [spec_l19Meets.l0])
  | succ k1 =>
   have H := HA.1
   clear HA
   simp only [spec_l19Meets.l0] at H
   by_cases c3 : x5_1 < (l0.length : Int)
   rotate_left
   ·rw [if_neg c3] at H
    have c3b0 := decide_eq_false c3
    clear c3
    obtain rfl := Option.some.inj H
    go_wp2
    repeat (go_quiet (fail); try go_wp2)
    go_ret
    exact ⟨zJJ, zDD⟩
   rw [if_pos c3] at H
   have c3b0 := decide_eq_true c3
   clear c3
   have H' := zM H
   clear H
   go_wp2
   repeat (go_quiet (fail); try go_wp2)
   go_loopg [6] k1 (fun kq v6 w' => ∃ (x6_2 : Int), v6 = .int .i64 x6_2 ∧ Aside0 (spec_l19Meets.l1 kq l0 l1 x5_1 x6_2 = some r) ∧ Aside0 (kq ≤ k1) ∧ Drawn0 w w')
   case atStart => exact ⟨(0), zJJ, H', ⟨Nat.le_refl _⟩, zDD⟩
   case round =>
    clear H'
    obtain ⟨x6_2, rfl, HA, HK2, ⟨m2, rfl⟩⟩ := hrel
    cases gk with
    | zero => exact absurd HA.1 (by simp [spec_l19Meets.l1])
    | succ k2 =>
     have H := HA.1
     clear HA
     simp only [spec_l19Meets.l1] at H
     by_cases c4 : x6_2 < (l1.length : Int)
     rotate_left
     ·rw [if_neg c4] at H
      have c4b0 := decide_eq_false c4
      clear c4
      have H' := zM H
      clear H
      go_wp2
      repeat (go_quiet (fail); try go_wp2)
      go_roundg k2
      case measure => have := HK1.1; have := HK2.1; omega
      case rel => exact ⟨(wrap64 (x5_1 + 1)), zJJ, H', ⟨by have := HK1.1; have := HK2.1; omega⟩, zDD⟩
     rw [if_pos c4] at H
     have c4b0 := decide_eq_true c4
     clear c4
     replace H := zIt H
     obtain ⟨c5b0, H⟩ := H
     replace H := zIt H
     obtain ⟨c6b0, H⟩ := H
     replace H := zIt H
     obtain ⟨c7b0, H⟩ := H
     by_cases c8 : (rd l0 x5_1) = (rd l1 x6_2)
     ·rw [if_pos c8] at H
      have c8b0 : ((rd l0 x5_1) == (rd l1 x6_2)) = true := beq_iff_eq.mpr c8
      have c8b1 : ((rd l0 x5_1) != (rd l1 x6_2)) = false := bne_eq_false_iff_eq.mpr c8
      clear c8
      obtain rfl := Option.some.inj H
      obtain ⟨p433, q433, ad433, e433, hx433_0⟩ := zRd (Kd.at_int HR0.1 x5_1)
      cases e433
      obtain ⟨p434, q434, ad434, e434, hx434_0⟩ := zRd (Kd.at_int HR1.1 x6_2)
      cases e434
      go_wp2
      repeat (go_quiet (fail); try go_wp2)
      go_ret
      exact ⟨zJJ, zDD⟩
     rw [if_neg c8] at H
     have c8b0 : ((rd l0 x5_1) == (rd l1 x6_2)) = false := beq_eq_false_iff_ne.mpr c8
     have c8b1 : ((rd l0 x5_1) != (rd l1 x6_2)) = true := bne_iff_ne.mpr c8
     have H' := zM H
     clear H
     obtain ⟨p433, q433, ad433, e433, hx433_0⟩ := zRd (Kd.at_int HR0.1 x5_1)
     cases e433
     obtain ⟨p434, q434, ad434, e434, hx434_0⟩ := zRd (Kd.at_int HR1.1 x6_2)
     cases e434
     go_wp2
     repeat (go_quiet (fail); try go_wp2)
     go_roundg k2
     case measure => have := HK1.1; have := HK2.1; omega
     case rel => exact ⟨(wrap64 (x6_2 + 1)), zJJ, H', ⟨by have := HK1.1; have := HK2.1; omega⟩, zDD⟩

/-! ### spec_WritesOf: function 71 -/
def spec_WritesOf.f (a0_0 : Int) (a0_1 : Int) (a0_2 : Int) (a0_3 : Int) (a0_4 : Int) : Option (List Int) := if a0_4 ≥ 0 then (some (([a0_2] : List Int))) else (some (([] : List Int)))
theorem spec_WritesOf.calls (a0_0 : Int) (a0_1 : Int) (a0_2 : Int) (a0_3 : Int) (a0_4 : Int) (r : List Int) (w : World) (h : spec_WritesOf.f a0_0 a0_1 a0_2 a0_3 a0_4 = some r) :
  Calls Try.prog 71 #[.agg #[.int .i64 a0_0, .int .i64 a0_1, .int .i64 a0_2, .int .i64 a0_3, .int .i64 a0_4]] w fun e w' => ∃ v0_ : Value, e = .returned (v0_) ∧ Kd.R (Kd.int .i64) 3 w' w.heap.size (fun _ => True) v0_ r ∧ Below w.heap.size w w' := by
 have hu57 := Try.underlying57
 have HB := zM (Below.refl w.heap.size w)
 unfold spec_WritesOf.f at h
 have H := h
 clear h
 by_cases c2 : a0_4 ≥ 0
 rotate_left
 ·rw [if_neg c2] at H
  have c2b0 := decide_eq_false c2
  clear c2
  generalize hy439 : ((([] : List Int)) : List Int) = y439 at H
  have Ny439 := zM hy439.symm
  clear hy439
  obtain rfl := Option.some.inj H
  go_enter Try.func71, Try.ntmps71
  go_wp2_with (first | ((with_reducible refine zBx 1 57 #[.int .i64 a0_0, .int .i64 a0_1, .int .i64 a0_2, .int .i64 a0_3, .int .i64 a0_4] ?_); intro gb435 hg w7 hbox hb; have BK435 := zM hbox; have GW435 := zM (zW hg (below_size zB1)); have GE435 := zM (zW hg (below_size zB1)); replace HB := zM (below_step zB1 hb); clear hb hbox hg; have hcz8 := zc_5 (w := w7) BK435.1) | ((with_reducible refine gate_dst (N := 9) rfl ?_); refine Kd.R_lit (Kd.int .i64) _ 3 ?hg (N := 9) ?hd (xs := ([] : List Int)) (inner := []) (ok := fun _ => True) (okp := fun _ => True) ?hr ?hp (fun _ hk => hk) trivial (Below.refl _ _) (Nat.le_refl _) (by simp) ?_; (case hd => rfl); (case hg => rfl); (case hr => exact zHH); (case hp => exact (Reps.none _ _)); intro v440 w9 ho10 hb hg_ hnew_; clear hg_ hnew_; (first | rw [← Ny439.1] at ho10 | (simp only [Int.reduceToNat] at ho10; rw [← Ny439.1] at ho10)); have HO441 := zM (Kd.R_lower ho10 (below_size zB1)); replace BK435 := zM (zb BK435.1 hb); replace HB := zM (below_step zB1 hb); clear hb ho10))
  go_ret
  exact ⟨_, zE, zR HO441.1, zB1⟩
 rw [if_pos c2] at H
 have c2b0 := decide_eq_true c2
 clear c2
 generalize hy436 : ((([a0_2] : List Int)) : List Int) = y436 at H
 have Ny436 := zM hy436.symm
 clear hy436
 obtain rfl := Option.some.inj H
 go_enter Try.func71, Try.ntmps71
 go_wp2_with (first | ((with_reducible refine zBx 1 57 #[.int .i64 a0_0, .int .i64 a0_1, .int .i64 a0_2, .int .i64 a0_3, .int .i64 a0_4] ?_); intro gb435 hg w3 hbox hb; have BK435 := zM hbox; have GW435 := zM (zW hg (below_size zB1)); have GE435 := zM (zW hg (below_size zB1)); replace HB := zM (below_step zB1 hb); clear hb hbox hg; have hcz4 := zc_5 (w := w3) BK435.1) | ((with_reducible refine gate_dst (N := 8) rfl ?_); refine Kd.R_lit (Kd.int .i64) _ 3 ?hg (N := 8) ?hd (xs := ([a0_2] : List Int)) (inner := [.int .i64 a0_2]) (ok := fun _ => True) (okp := fun _ => True) ?hr ?hp (fun _ hk => hk) trivial (Below.refl _ _) (Nat.le_refl _) (by simp) ?_; (case hd => rfl); (case hg => rfl); (case hr => exact zHH); (case hp => exact (Reps.one (show Kd.M (Kd.int .i64) _ _ _ a0_2 [.int .i64 a0_2] from rfl) (Reps.none _ _))); intro v437 w5 ho6 hb hg_ hnew_; clear hg_ hnew_; (first | rw [← Ny436.1] at ho6 | (simp only [Int.reduceToNat] at ho6; rw [← Ny436.1] at ho6)); have HO438 := zM (Kd.R_lower ho6 (below_size zB1)); replace BK435 := zM (zb BK435.1 hb); replace HB := zM (below_step zB1 hb); clear hb ho6))
 go_ret
 exact ⟨_, zE, zR HO438.1, zB1⟩

end Go.Proofs.Ytpcgecacaemalaa.PFnExactRunTo
