-- made by wip/tools/myprint.py out of the seat's translation
import Derived.Test.YtgbjengnkbomoaaPFnRacesx0
import Derived.Test.YtgbjengnkbomoaaPFnRacesx2
import Derived.Test.YtgbjengnkbomoaaPFnRacesx3
import Derived.Test.YtgbjengnkbomoaaPFnRacesx4
namespace Go.Proofs.Ytgbjengnkbomoaa.PFnRaces
open Go.RowKit Go.Proofs.YtgbjengnkbomoaaW.PrintWords Go.Proofs.YtgbjengnkbomoaaW.PrintLast Go.Proofs.YtgbjengnkbomoaaW.PrintMore
attribute [local go_sem] max2_int min2_int max_two min_two max_three min_three max_four min_four   -- for this text's walks alone
set_option linter.unusedVariables false
set_option linter.unusedSimpArgs false
set_option maxHeartbeats 8000000
set_option maxRecDepth 100000

/-! ### impl_isCell: function 46 -/
def impl_isCell.f (a0 : Int) : Option (Bool) := (impl_from.f a0 0 23).bind fun t622 => (some t622)
theorem impl_isCell.calls (a0 : Int) (r : Bool) (w : World) (h : impl_isCell.f a0 = some r) :
  Calls Try.prog 46 #[.int .i64 a0] w fun e w' => e = .returned (.bool r) ∧ Drawn0 w w' := by
 unfold impl_isCell.f at h
 have H := h
 clear h
 replace H := zO H
 obtain ⟨t622, A2, H⟩ := H
 obtain rfl := Option.some.inj H
 go_enter Try.func46, Try.ntmps46
 go_wp2_with (first | ((with_reducible refine zG Try.func31 4 #[.int .i64 a0, .int .i64 0, .int .i64 23] ?_); (with_reducible refine (impl_from.calls a0 0 23 t622 _ A2.1).mono ?_); rintro e w' ⟨rfl, ⟨nd, rfl⟩⟩; refine ⟨_, rfl, ?_⟩))
 go_ret
 exact ⟨zJJ, zDD⟩

/-! ### impl_Races: function 19 -/
mutual
def impl_Races.l0 : Nat → List (S31) → List (S44) → List (List Int) → List (S31) → Int → Int → Option ((List (S44)))
 | 0, _, _, _, _, _, _ => none
 | k + 1, x1, x5, x6, x22, x23, x24 => if x24 < x23 then (if 0 ≤ x24 then (if x24 < (x22.length : Int) then (if x24 ≤ (x1.length : Int) then ((some (x1.take (x24 : Int).toNat : List (S31))).bind fun y631 => (impl_Races.l1 k x1 x5 x6 x24 x22 x23 x24 y631 (y631.length : Int) 0 ((rd_T31 x22 x24).f0) ((rd_T31 x22 x24).f1) ((rd_T31 x22 x24).f2) ((rd_T31 x22 x24).f3) ((rd_T31 x22 x24).f4))) else (none)) else (none)) else (none)) else (some x5)
def impl_Races.l1 : Nat → List (S31) → List (S44) → List (List Int) → Int → List (S31) → Int → Int → List (S31) → Int → Int → Int → Int → Int → Int → Int → Option ((List (S44)))
 | 0, _, _, _, _, _, _, _, _, _, _, _, _, _, _, _ => none
 | k + 1, x1, x5, x6, x7, x22, x23, x24, x31, x32, x33, x631000, x631001, x631002, x631003, x631004 => if x33 < x32 then (if 0 ≤ x33 then (if x33 < (x31.length : Int) then (if ((rd_T31 x31 x33).f0) = x631000 then (impl_Races.l1 k x1 x5 x6 x7 x22 x23 x24 x31 x32 (wrap64 (x33 + 1)) x631000 x631001 x631002 x631003 x631004) else ((impl_isCell.f ((rd_T31 x31 x33).f2)).bind fun t637 => (if t637 = true then (if ((rd_T31 x31 x33).f2) = x631002 then (if ((rd_T31 x31 x33).f4) ≥ 0 then ((impl_isSwap.f ((rd_T31 x31 x33).f0) ((rd_T31 x31 x33).f1) ((rd_T31 x31 x33).f2) ((rd_T31 x31 x33).f3) ((rd_T31 x31 x33).f4)).bind fun t638 => (if t638 = true then ((impl_isSwap.f x631000 x631001 x631002 x631003 x631004).bind fun t639 => (if t639 = true then (impl_Races.l1 k x1 x5 x6 x7 x22 x23 x24 x31 x32 (wrap64 (x33 + 1)) x631000 x631001 x631002 x631003 x631004) else ((impl_knows.f k x6 x33 x7).bind fun t640 => (if t640 = true then (impl_Races.l1 k x1 x5 x6 x7 x22 x23 x24 x31 x32 (wrap64 (x33 + 1)) x631000 x631001 x631002 x631003 x631004) else (if x5.length < 8796093022208 then (impl_Races.l1 k x1 (x5 ++ [(⟨x33, x7⟩ : S44)]) x6 x7 x22 x23 x24 x31 x32 (wrap64 (x33 + 1)) x631000 x631001 x631002 x631003 x631004) else (none)))))) else ((impl_knows.f k x6 x33 x7).bind fun t644 => (if t644 = true then (impl_Races.l1 k x1 x5 x6 x7 x22 x23 x24 x31 x32 (wrap64 (x33 + 1)) x631000 x631001 x631002 x631003 x631004) else (if x5.length < 8796093022208 then (impl_Races.l1 k x1 (x5 ++ [(⟨x33, x7⟩ : S44)]) x6 x7 x22 x23 x24 x31 x32 (wrap64 (x33 + 1)) x631000 x631001 x631002 x631003 x631004) else (none)))))) else (if x631004 ≥ 0 then ((impl_isSwap.f ((rd_T31 x31 x33).f0) ((rd_T31 x31 x33).f1) ((rd_T31 x31 x33).f2) ((rd_T31 x31 x33).f3) ((rd_T31 x31 x33).f4)).bind fun t648 => (if t648 = true then ((impl_isSwap.f x631000 x631001 x631002 x631003 x631004).bind fun t649 => (if t649 = true then (impl_Races.l1 k x1 x5 x6 x7 x22 x23 x24 x31 x32 (wrap64 (x33 + 1)) x631000 x631001 x631002 x631003 x631004) else ((impl_knows.f k x6 x33 x7).bind fun t650 => (if t650 = true then (impl_Races.l1 k x1 x5 x6 x7 x22 x23 x24 x31 x32 (wrap64 (x33 + 1)) x631000 x631001 x631002 x631003 x631004) else (if x5.length < 8796093022208 then (impl_Races.l1 k x1 (x5 ++ [(⟨x33, x7⟩ : S44)]) x6 x7 x22 x23 x24 x31 x32 (wrap64 (x33 + 1)) x631000 x631001 x631002 x631003 x631004) else (none)))))) else ((impl_knows.f k x6 x33 x7).bind fun t654 => (if t654 = true then (impl_Races.l1 k x1 x5 x6 x7 x22 x23 x24 x31 x32 (wrap64 (x33 + 1)) x631000 x631001 x631002 x631003 x631004) else (if x5.length < 8796093022208 then (impl_Races.l1 k x1 (x5 ++ [(⟨x33, x7⟩ : S44)]) x6 x7 x22 x23 x24 x31 x32 (wrap64 (x33 + 1)) x631000 x631001 x631002 x631003 x631004) else (none)))))) else (impl_Races.l1 k x1 x5 x6 x7 x22 x23 x24 x31 x32 (wrap64 (x33 + 1)) x631000 x631001 x631002 x631003 x631004))) else (impl_Races.l1 k x1 x5 x6 x7 x22 x23 x24 x31 x32 (wrap64 (x33 + 1)) x631000 x631001 x631002 x631003 x631004)) else (impl_Races.l1 k x1 x5 x6 x7 x22 x23 x24 x31 x32 (wrap64 (x33 + 1)) x631000 x631001 x631002 x631003 x631004)))) else (none)) else (none)) else (impl_Races.l0 k x1 x5 x6 x22 x23 (wrap64 (x24 + 1)))
end
def impl_Races.f (k : Nat) (a0 : Int) (l1 : List (S31)) : Option ((List (S44))) := (some (([] : List (S44)) : List (S44))).bind fun y623 => ((impl_Clocks.f k a0 l1).bind fun t626 => (if (t626.length : Int) = (l1.length : Int) then (impl_Races.l0 k l1 y623 t626 l1 (l1.length : Int) 0) else (some y623)))
theorem impl_Races.mono_l : ∀ k, (∀ y0 y1 y2 y3 y4 y5, LeO (impl_Races.l0 k y0 y1 y2 y3 y4 y5) (impl_Races.l0 (k + 1) y0 y1 y2 y3 y4 y5)) ∧ (∀ y0 y1 y2 y3 y4 y5 y6 y7 y8 y9 y10 y11 y12 y13 y14, LeO (impl_Races.l1 k y0 y1 y2 y3 y4 y5 y6 y7 y8 y9 y10 y11 y12 y13 y14) (impl_Races.l1 (k + 1) y0 y1 y2 y3 y4 y5 y6 y7 y8 y9 y10 y11 y12 y13 y14))
 | 0 => ⟨fun _ _ _ _ _ _ r h => by simp [impl_Races.l0] at h, fun _ _ _ _ _ _ _ _ _ _ _ _ _ _ _ r h => by simp [impl_Races.l1] at h⟩
 | k + 1 => by
  obtain ⟨ih0, ih1⟩ := impl_Races.mono_l k
  refine ⟨?_, ?_⟩
  ·intros
   unfold impl_Races.l0
   have mo0 := @impl_Clocks.mono
   have mo1 := @impl_knows.mono
   exact zL
  ·intros
   unfold impl_Races.l1
   have mo0 := @impl_Clocks.mono
   have mo1 := @impl_knows.mono
   exact zL
theorem impl_Races.mono : ∀ a0 a1 k, LeO (impl_Races.f k a0 a1) (impl_Races.f (k + 1) a0 a1) := by
 intro a0 a1 k
 obtain ⟨ih0, ih1⟩ := impl_Races.mono_l k
 unfold impl_Races.f
 have mo0 := @impl_Clocks.mono
 have mo1 := @impl_knows.mono
 exact zL
theorem impl_Races.calls (k : Nat) (a0 : Int) (A1 : Option Addr) (c1 : Nat) (l1 : List (S31)) (r : List (S44)) (w : World) (hr1 : Kd.C k31 w A1 l1.length l1) (hc1 : l1.length ≤ c1) (h : impl_Races.f k a0 l1 = some r) :
  Calls Try.prog 19 #[.int .i64 a0, .slice A1 l1.length c1] w fun e w' => ∃ v0_ : Value, e = .returned (v0_) ∧ Kd.R k44 44 w' w.heap.size (fun _ => True) v0_ r ∧ Below w.heap.size w w' := by
 have hu31 := Try.underlying31
 have hu44 := Try.underlying44
 have HR1 := zM hr1
 have HC1 := zM hc1
 clear hr1 hc1
 have HB := zM (Below.refl w.heap.size w)
 unfold impl_Races.f at h
 have H := h
 clear h
 replace H := zY H
 obtain ⟨y623, Ny623, H⟩ := H
 replace H := zO H
 obtain ⟨t626, A3, H⟩ := H
 by_cases c4 : (t626.length : Int) = (l1.length : Int)
 rotate_left
 ·rw [if_neg c4] at H
  have c4b0 : ((t626.length : Int) == (l1.length : Int)) = false := beq_eq_false_iff_ne.mpr c4
  have c4b1 : ((t626.length : Int) != (l1.length : Int)) = true := bne_iff_ne.mpr c4
  have c4b2 : (t626.length == l1.length) = false := by first | simpa using c4 | (simp at c4 ⊢; omega)
  obtain rfl := Option.some.inj H
  go_enter Try.func19, Try.ntmps19
  go_wp2_with (first | ((with_reducible refine gate_dst (N := 12) rfl ?_); refine Kd.R_lit k44 _ 44 ?hg (N := 12) ?hd (xs := ([] : List (S44))) (inner := []) (ok := fun _ => True) (okp := fun _ => True) ?hr ?hp (fun _ hk => hk) trivial (Below.refl _ _) (Nat.le_refl _) (by simp) ?_; (case hd => rfl); (case hg => rfl); (case hr => exact zHH); (case hp => exact (Reps.none _ _)); intro v624 w129 ho130 hb hg_ hnew_; clear hg_ hnew_; (first | rw [← Ny623.1] at ho130 | (simp only [Int.reduceToNat] at ho130; rw [← Ny623.1] at ho130)); have HO625 := zM (Kd.R_lower ho130 (below_size zB1)); replace HB := zM (below_step zB1 hb); clear hb ho130) | ((with_reducible refine zG Try.func12 15 #[.int .i64 a0, .slice A1 l1.length c1] ?_); (with_reducible refine (impl_Clocks.calls k a0 _ _ l1 t626 _ ?side1 ?side2 A3.1).mono ?_); (case side1 => exact zC (Kd.C_below HR1.1 HB.1)); (case side2 => exact HC1.1); rintro e w131 ⟨v627, rfl, ho0, hb⟩; refine ⟨_, rfl, ?_⟩; replace HO625 := zM (Kd.R_below (zR HO625.1) hb); have HO628 := zM (Kd.S_lower ho0 (below_size zB1)); replace HB := zM (below_step zB1 hb); clear hb ho0; obtain ⟨Ao132, co132, eo132⟩ := Kd.S_slice HO628.1; subst eo132))
  go_ret
  exact ⟨_, zE, zR HO625.1, zB1⟩
 rw [if_pos c4] at H
 have c4b0 : ((t626.length : Int) == (l1.length : Int)) = true := beq_iff_eq.mpr c4
 have c4b1 : ((t626.length : Int) != (l1.length : Int)) = false := bne_eq_false_iff_eq.mpr c4
 have c4b2 : (t626.length == l1.length) = true := by first | simpa using c4 | (simp at c4 ⊢; omega)
 clear c4
 have H' := zM H
 clear H
 go_enter Try.func19, Try.ntmps19
 go_wp2_with (first | ((with_reducible refine gate_dst (N := 12) rfl ?_); refine Kd.R_lit k44 _ 44 ?hg (N := 12) ?hd (xs := ([] : List (S44))) (inner := []) (ok := fun _ => True) (okp := fun _ => True) ?hr ?hp (fun _ hk => hk) trivial (Below.refl _ _) (Nat.le_refl _) (by simp) ?_; (case hd => rfl); (case hg => rfl); (case hr => exact zHH); (case hp => exact (Reps.none _ _)); intro v624 w5 ho6 hb hg_ hnew_; clear hg_ hnew_; (first | rw [← Ny623.1] at ho6 | (simp only [Int.reduceToNat] at ho6; rw [← Ny623.1] at ho6)); have HO625 := zM (Kd.R_lower ho6 (below_size zB1)); replace HB := zM (below_step zB1 hb); clear hb ho6) | ((with_reducible refine zG Try.func12 15 #[.int .i64 a0, .slice A1 l1.length c1] ?_); (with_reducible refine (impl_Clocks.calls k a0 _ _ l1 t626 _ ?side1 ?side2 A3.1).mono ?_); (case side1 => exact zC (Kd.C_below HR1.1 HB.1)); (case side2 => exact HC1.1); rintro e w7 ⟨v627, rfl, ho0, hb⟩; refine ⟨_, rfl, ?_⟩; replace HO625 := zM (Kd.R_below (zR HO625.1) hb); have HO628 := zM (Kd.S_lower ho0 (below_size zB1)); replace HB := zM (below_step zB1 hb); clear hb ho0; obtain ⟨Ao8, co8, eo8⟩ := Kd.S_slice HO628.1; subst eo8))
 go_loopg [5, 24] k (fun kq v5 v24 w' => ∃ (x5_1 : List (S44)) (x24_1 : Int), v24 = .int .i64 x24_1 ∧ Aside0 (impl_Races.l0 kq l1 x5_1 t626 l1 (l1.length : Int) x24_1 = some r) ∧ Aside0 (kq ≤ k) ∧ Aside0 (Kd.R k44 44 w' w.heap.size (fun _ => True) v5 x5_1) ∧ Aside0 (Kd.S (Kd.slice 3 (Kd.int .i64)) 29 w' w.heap.size (fun _ => True) (.slice Ao8 t626.length co8) t626) ∧ Aside0 (Below w.heap.size w w'))
 case atStart => exact ⟨(y623), (0), zJJ, H', ⟨Nat.le_refl _⟩, ⟨zR HO625.1⟩, ⟨zS HO628.1⟩, ⟨zB1⟩⟩
 case round =>
  clear H'
  obtain ⟨x5_1, x24_1, rfl, HA, HK1, HO_5, HO_6, HB⟩ := hrel
  cases gk with
  | zero => exact absurd HA.1 (by simp [impl_Races.l0])
  | succ k1 =>
   have H := HA.1
   clear HA
   simp only [impl_Races.l0] at H
   by_cases c9 : x24_1 < (l1.length : Int)
   rotate_left
   ·rw [if_neg c9] at H
    have c9b0 := decide_eq_false c9
    clear c9
    obtain rfl := Option.some.inj H
    go_wp2
    go_ret
    exact ⟨_, zE, zR HO_5.1, zB1⟩
   rw [if_pos c9] at H
   have c9b0 := decide_eq_true c9
   clear c9
   replace H := zIt H
   obtain ⟨c10b0, H⟩ := H
   replace H := zIt H
   obtain ⟨c11b0, H⟩ := H
   have c12b0 := eq_true (zA : 0 ≤ x24_1)
   replace H := zIp H
   obtain ⟨c13, H⟩ := H
   have c13b0 := eq_true c13
   have c13b1 : decide (x24_1 ≤ (l1.length : Int)) = true := decide_eq_true c13
   clear c13
   replace H := zY H
   obtain ⟨y631, Ny631, H⟩ := H
   have H' := zM H
   clear H
   obtain ⟨p629, q629, ad629, e629, hx629_0, hx629_1, hx629_2, hx629_3, hx629_4⟩ := zRd (at_T31 HR1.1 x24_1)
   cases e629
   replace hx629_0 := zHx HB.1 hx629_0
   replace hx629_1 := zHx HB.1 hx629_1
   replace hx629_2 := zHx HB.1 hx629_2
   replace hx629_3 := zHx HB.1 hx629_3
   replace hx629_4 := zHx HB.1 hx629_4
   go_wp2_with (first | ((with_reducible refine zBx 8 31 #[.int .i64 0, .int .i64 0, .int .i64 0, .int .i64 0, .int .i64 0] ?_); intro gb630 hg w14 hbox hb; replace HO_5 := zM (Kd.R_below (zR HO_5.1) hb); replace HO_6 := zM (Kd.S_below (zS HO_6.1) hb); have BK630 := zM hbox; have GW630 := zM (zW hg (below_size zB1)); have GE630 := zM (zW hg (below_size zB1)); replace HB := zM (below_step zB1 hb); clear hb hbox hg; have hcz15 := zc_5 (w := w14) BK630.1) | ((with_reducible refine gate_store (t := 31) (p := 8) rfl ?_); refine store_event (t := 31) (p := 8) (v := ?vo_w16) (w1 := (((((w14.setCell ⟨gb630, 0, none⟩ (.int .i64 ((rd_T31 l1 x24_1).f0))).setCell ⟨gb630, 1, none⟩ (.int .i64 ((rd_T31 l1 x24_1).f1))).setCell ⟨gb630, 2, none⟩ (.int .i64 ((rd_T31 l1 x24_1).f2))).setCell ⟨gb630, 3, none⟩ (.int .i64 ((rd_T31 l1 x24_1).f3))).setCell ⟨gb630, 4, none⟩ (.int .i64 ((rd_T31 l1 x24_1).f4)))) ?hg ?ho ?hn ?hr ?_; (case ho => rfl); (case hg => rfl); (case hn => rfl); (case hr => exact zHH); intro w16 hw; have n0_ : Aside0 (Kd.R k44 44 w16 w.heap.size (fun _ => True) u5 x5_1) := ⟨(by rw [hw]; exact (by refine zrR ?_; exact Kd.R_mono (zfR (zfR (zfR (zfR (zfR (Kd.R_types HO_5.1 BK630.1 (by decide))))))) (fun _ hk => trivial)))⟩; have n1_ : Aside0 (Kd.S (Kd.slice 3 (Kd.int .i64)) 29 w16 w.heap.size (fun _ => True) (.slice Ao8 t626.length co8) t626) := ⟨(by rw [hw]; exact (by refine zrS ?_; exact Kd.S_mono (zfS (zfS (zfS (zfS (zfS (Kd.S_types HO_6.1 BK630.1 (by decide))))))) (fun _ hk => trivial)))⟩; have n2_ : Aside0 (w16.heap[gb630]? = some (.cells #[.int .i64 ((rd_T31 l1 x24_1).f0), .int .i64 ((rd_T31 l1 x24_1).f1), .int .i64 ((rd_T31 l1 x24_1).f2), .int .i64 ((rd_T31 l1 x24_1).f3), .int .i64 ((rd_T31 l1 x24_1).f4)] 31 (0, 0))) := ⟨(by rw [hw]; exact (by exact zp5 (zK BK630.1)))⟩; have n3_ : Aside0 (Below w.heap.size w w16) := ⟨(by rw [hw]; exact zB1)⟩; clear hw; clear HO_5; clear HO_6; clear BK630; clear HB; have HO_5 := n0_; have HO_6 := n1_; have BK630 := n2_; have HB := n3_; clear n0_ n1_ n2_ n3_; have q17 : (x24_1 : Int) ≤ ((l1.length : Int) : Int) := zA; obtain ⟨i017, hi017, _, hsz17, _⟩ := info_parts info31; have hroom17 : l1.length ≤ c1 := HC1.1; have hC17 : Kd.C k31 _ (some ad629) l1.length l1 := HR1.1; have hcut17 := cut_to (P := Try.prog) 24 31 .i64 Try.underlying24 hi017 (some ad629) l1.length c1 x24_1 zA q17 hroom17; have hr17 := Kd.C_take (m := (x24_1 : Int).toNat) hC17 (by omega); have hy17 : y631.length = (x24_1 : Int).toNat := (by rw [Ny631.1, List.length_take]; omega); rw [← Ny631.1] at hr17; rw [← hy17] at hcut17; have HR634 := zM hr17; have HC634 := zM (show y631.length ≤ c1 from by omega); clear hr17 hC17 hroom17 hi017 hsz17; have KY17 := zM hy17; clear hy17; replace q17 := eq_true q17))
   go_loopg [5, 33] k1 (fun kq v5 v33 w' => ∃ (x5_2 : List (S44)) (x33_2 : Int), v33 = .int .i64 x33_2 ∧ Aside0 (impl_Races.l1 kq l1 x5_2 t626 x24_1 l1 (l1.length : Int) x24_1 y631 (y631.length : Int) x33_2 ((rd_T31 l1 x24_1).f0) ((rd_T31 l1 x24_1).f1) ((rd_T31 l1 x24_1).f2) ((rd_T31 l1 x24_1).f3) ((rd_T31 l1 x24_1).f4) = some r) ∧ Aside0 (kq ≤ k1) ∧ Aside0 (Kd.R k44 44 w' w.heap.size (fun _ => True) v5 x5_2) ∧ Aside0 (Kd.S (Kd.slice 3 (Kd.int .i64)) 29 w' w.heap.size (fun _ => True) (.slice Ao8 t626.length co8) t626) ∧ Aside0 (w'.heap[gb630]? = some (.cells #[.int .i64 ((rd_T31 l1 x24_1).f0), .int .i64 ((rd_T31 l1 x24_1).f1), .int .i64 ((rd_T31 l1 x24_1).f2), .int .i64 ((rd_T31 l1 x24_1).f3), .int .i64 ((rd_T31 l1 x24_1).f4)] 31 (0, 0))) ∧ Aside0 (Below w.heap.size w w'))
   case atStart => exact ⟨(x5_1), (0), zJJ, H', ⟨Nat.le_refl _⟩, ⟨zR HO_5.1⟩, ⟨zS HO_6.1⟩, ⟨zK BK630.1⟩, ⟨zB1⟩⟩
   case round =>
    clear H'
    obtain ⟨x5_2, x33_2, rfl, HA, HK2, HO_5, HO_6, BK630, HB⟩ := hrel
    cases gk with
    | zero => exact absurd HA.1 (by simp [impl_Races.l1])
    | succ k2 =>
     have H := HA.1
     clear HA
     simp only [impl_Races.l1] at H
     by_cases c18 : x33_2 < (y631.length : Int)
     rotate_left
     ·rw [if_neg c18] at H
      have c18b0 := decide_eq_false c18
      clear c18
      have H' := zM H
      clear H
      go_wp2
      go_roundg k2
      case measure => have := HK1.1; have := HK2.1; omega
      case rel => exact ⟨(x5_2), (wrap64 (x24_1 + 1)), zJJ, H', ⟨by have := HK1.1; have := HK2.1; omega⟩, ⟨zR HO_5.1⟩, ⟨zS HO_6.1⟩, ⟨zB1⟩⟩
     rw [if_pos c18] at H
     have c18b0 := decide_eq_true c18
     clear c18
     replace H := zIt H
     obtain ⟨c19b0, H⟩ := H
     replace H := zIt H
     obtain ⟨c20b0, H⟩ := H
     by_cases c21 : ((rd_T31 y631 x33_2).f0) = ((rd_T31 l1 x24_1).f0)
     ·rw [if_pos c21] at H
      have c21b0 : (((rd_T31 y631 x33_2).f0) == ((rd_T31 l1 x24_1).f0)) = true := beq_iff_eq.mpr c21
      have c21b1 : (((rd_T31 y631 x33_2).f0) != ((rd_T31 l1 x24_1).f0)) = false := bne_eq_false_iff_eq.mpr c21
      clear c21
      have H' := zM H
      clear H
      obtain ⟨p635, q635, ad635, e635, hx635_0, hx635_1, hx635_2, hx635_3, hx635_4⟩ := zRd (at_T31 HR634.1 x33_2)
      obtain rfl : ad629 = ad635 := (by injection e635)
      replace hx635_0 := zHx HB.1 hx635_0
      replace hx635_1 := zHx HB.1 hx635_1
      replace hx635_2 := zHx HB.1 hx635_2
      replace hx635_3 := zHx HB.1 hx635_3
      replace hx635_4 := zHx HB.1 hx635_4
      go_wp2_with (first | ((with_reducible refine zBx 10 31 #[.int .i64 0, .int .i64 0, .int .i64 0, .int .i64 0, .int .i64 0] ?_); intro gb636 hg w22 hbox hb; replace HO_5 := zM (Kd.R_below (zR HO_5.1) hb); replace HO_6 := zM (Kd.S_below (zS HO_6.1) hb); have BK636 := zM hbox; have GW636 := zM (zW hg (below_size zB1)); have GE636 := zM (zW hg (below_size zB1)); replace HB := zM (below_step zB1 hb); have NB630_636 := zM ((zn BK630.1 hg : gb630 ≠ gb636)); have NB636_630 := zM ((zm BK630.1 hg : gb636 ≠ gb630)); replace BK630 := zM (zb BK630.1 hb); clear hb hbox hg; have hnb23 := NB636_630.1; have hnc23 := NB630_636.1; have hcz24 := zc_5 (w := w22) BK636.1; have hcz25 := zc_5 (w := w22) BK630.1))
      go_roundg k2
      case measure => have := HK1.1; have := HK2.1; omega
      case rel => exact ⟨(x5_2), (wrap64 (x33_2 + 1)), zJJ, H', ⟨by have := HK1.1; have := HK2.1; omega⟩, ⟨by refine zrR ?_; exact Kd.R_mono (zfR (zfR (zfR (zfR (zfR (Kd.R_types HO_5.1 BK636.1 (by decide))))))) (fun _ hk => trivial)⟩, ⟨by refine zrS ?_; exact Kd.S_mono (zfS (zfS (zfS (zfS (zfS (Kd.S_types HO_6.1 BK636.1 (by decide))))))) (fun _ hk => trivial)⟩, ⟨zPq⟩, ⟨zB1⟩⟩
     rw [if_neg c21] at H
     have c21b0 : (((rd_T31 y631 x33_2).f0) == ((rd_T31 l1 x24_1).f0)) = false := beq_eq_false_iff_ne.mpr c21
     have c21b1 : (((rd_T31 y631 x33_2).f0) != ((rd_T31 l1 x24_1).f0)) = true := bne_iff_ne.mpr c21
     replace H := zO H
     obtain ⟨t637, A26, H⟩ := H
     by_cases c27 : t637 = true
     rotate_left
     ·replace c27 := Bool.eq_false_iff.mpr c27
      subst c27
      rw [if_neg zF] at H
      have H' := zM H
      clear H
      obtain ⟨p635, q635, ad635, e635, hx635_0, hx635_1, hx635_2, hx635_3, hx635_4⟩ := zRd (at_T31 HR634.1 x33_2)
      obtain rfl : ad629 = ad635 := (by injection e635)
      replace hx635_0 := zHx HB.1 hx635_0
      replace hx635_1 := zHx HB.1 hx635_1
      replace hx635_2 := zHx HB.1 hx635_2
      replace hx635_3 := zHx HB.1 hx635_3
      replace hx635_4 := zHx HB.1 hx635_4
      go_wp2_with (first | ((with_reducible refine zBx 10 31 #[.int .i64 0, .int .i64 0, .int .i64 0, .int .i64 0, .int .i64 0] ?_); intro gb636 hg w125 hbox hb; replace HO_5 := zM (Kd.R_below (zR HO_5.1) hb); replace HO_6 := zM (Kd.S_below (zS HO_6.1) hb); have BK636 := zM hbox; have GW636 := zM (zW hg (below_size zB1)); have GE636 := zM (zW hg (below_size zB1)); replace HB := zM (below_step zB1 hb); have NB630_636 := zM ((zn BK630.1 hg : gb630 ≠ gb636)); have NB636_630 := zM ((zm BK630.1 hg : gb636 ≠ gb630)); replace BK630 := zM (zb BK630.1 hb); clear hb hbox hg; have hnb126 := NB636_630.1; have hnc126 := NB630_636.1; have hcz127 := zc_5 (w := w125) BK636.1; have hcz128 := zc_5 (w := w125) BK630.1) | (go_at_call 46; (with_reducible refine (impl_isCell.calls ((rd_T31 y631 x33_2).f2) false _ A26.1).mono ?_); rintro e w' ⟨rfl, ⟨nd, rfl⟩⟩))
      go_roundg k2
      case measure => have := HK1.1; have := HK2.1; omega
      case rel => exact ⟨(x5_2), (wrap64 (x33_2 + 1)), zJJ, H', ⟨by have := HK1.1; have := HK2.1; omega⟩, ⟨by refine zrR ?_; exact Kd.R_mono (zfR (zfR (zfR (zfR (zfR (Kd.R_types HO_5.1 BK636.1 (by decide))))))) (fun _ hk => trivial)⟩, ⟨by refine zrS ?_; exact Kd.S_mono (zfS (zfS (zfS (zfS (zfS (Kd.S_types HO_6.1 BK636.1 (by decide))))))) (fun _ hk => trivial)⟩, ⟨zPq⟩, ⟨zB1⟩⟩
     subst c27
     rw [if_pos rfl] at H
     by_cases c28 : ((rd_T31 y631 x33_2).f2) = ((rd_T31 l1 x24_1).f2)
     rotate_left
     ·rw [if_neg c28] at H
      have c28b0 : (((rd_T31 y631 x33_2).f2) == ((rd_T31 l1 x24_1).f2)) = false := beq_eq_false_iff_ne.mpr c28
      have c28b1 : (((rd_T31 y631 x33_2).f2) != ((rd_T31 l1 x24_1).f2)) = true := bne_iff_ne.mpr c28
      have H' := zM H
      clear H
      obtain ⟨p635, q635, ad635, e635, hx635_0, hx635_1, hx635_2, hx635_3, hx635_4⟩ := zRd (at_T31 HR634.1 x33_2)
      obtain rfl : ad629 = ad635 := (by injection e635)
      replace hx635_0 := zHx HB.1 hx635_0
      replace hx635_1 := zHx HB.1 hx635_1
      replace hx635_2 := zHx HB.1 hx635_2
      replace hx635_3 := zHx HB.1 hx635_3
      replace hx635_4 := zHx HB.1 hx635_4
      go_wp2_with (first | ((with_reducible refine zBx 10 31 #[.int .i64 0, .int .i64 0, .int .i64 0, .int .i64 0, .int .i64 0] ?_); intro gb636 hg w121 hbox hb; replace HO_5 := zM (Kd.R_below (zR HO_5.1) hb); replace HO_6 := zM (Kd.S_below (zS HO_6.1) hb); have BK636 := zM hbox; have GW636 := zM (zW hg (below_size zB1)); have GE636 := zM (zW hg (below_size zB1)); replace HB := zM (below_step zB1 hb); have NB630_636 := zM ((zn BK630.1 hg : gb630 ≠ gb636)); have NB636_630 := zM ((zm BK630.1 hg : gb636 ≠ gb630)); replace BK630 := zM (zb BK630.1 hb); clear hb hbox hg; have hnb122 := NB636_630.1; have hnc122 := NB630_636.1; have hcz123 := zc_5 (w := w121) BK636.1; have hcz124 := zc_5 (w := w121) BK630.1) | (go_at_call 46; (with_reducible refine (impl_isCell.calls ((rd_T31 y631 x33_2).f2) true _ A26.1).mono ?_); rintro e w' ⟨rfl, ⟨nd, rfl⟩⟩))
      go_roundg k2
      case measure => have := HK1.1; have := HK2.1; omega
      case rel => exact ⟨(x5_2), (wrap64 (x33_2 + 1)), zJJ, H', ⟨by have := HK1.1; have := HK2.1; omega⟩, ⟨by refine zrR ?_; exact Kd.R_mono (zfR (zfR (zfR (zfR (zfR (Kd.R_types HO_5.1 BK636.1 (by decide))))))) (fun _ hk => trivial)⟩, ⟨by refine zrS ?_; exact Kd.S_mono (zfS (zfS (zfS (zfS (zfS (Kd.S_types HO_6.1 BK636.1 (by decide))))))) (fun _ hk => trivial)⟩, ⟨zPq⟩, ⟨zB1⟩⟩
     rw [if_pos c28] at H
     have c28b0 : (((rd_T31 y631 x33_2).f2) == ((rd_T31 l1 x24_1).f2)) = true := beq_iff_eq.mpr c28
     have c28b1 : (((rd_T31 y631 x33_2).f2) != ((rd_T31 l1 x24_1).f2)) = false := bne_eq_false_iff_eq.mpr c28
     clear c28
     by_cases c29 : ((rd_T31 y631 x33_2).f4) ≥ 0
     ·rw [if_pos c29] at H
      have c29b0 := decide_eq_true c29
      clear c29
      replace H := zO H
      obtain ⟨t638, A30, H⟩ := H
      by_cases c31 : t638 = true
      rotate_left
      ·replace c31 := Bool.eq_false_iff.mpr c31
       subst c31
       rw [if_neg zF] at H
       replace H := zO H
       obtain ⟨t644, A59, H⟩ := H
       by_cases c60 : t644 = true
       ·subst c60
        rw [if_pos rfl] at H
        have H' := zM H
        clear H
        obtain ⟨p635, q635, ad635, e635, hx635_0, hx635_1, hx635_2, hx635_3, hx635_4⟩ := zRd (at_T31 HR634.1 x33_2)
        obtain rfl : ad629 = ad635 := (by injection e635)
        replace hx635_0 := zHx HB.1 hx635_0
        replace hx635_1 := zHx HB.1 hx635_1
        replace hx635_2 := zHx HB.1 hx635_2
        replace hx635_3 := zHx HB.1 hx635_3
        replace hx635_4 := zHx HB.1 hx635_4
        go_wp2_with (first | ((with_reducible refine zBx 10 31 #[.int .i64 0, .int .i64 0, .int .i64 0, .int .i64 0, .int .i64 0] ?_); intro gb636 hg w61 hbox hb; replace HO_5 := zM (Kd.R_below (zR HO_5.1) hb); replace HO_6 := zM (Kd.S_below (zS HO_6.1) hb); have BK636 := zM hbox; have GW636 := zM (zW hg (below_size zB1)); have GE636 := zM (zW hg (below_size zB1)); replace HB := zM (below_step zB1 hb); have NB630_636 := zM ((zn BK630.1 hg : gb630 ≠ gb636)); have NB636_630 := zM ((zm BK630.1 hg : gb636 ≠ gb630)); replace BK630 := zM (zb BK630.1 hb); clear hb hbox hg; have hnb62 := NB636_630.1; have hnc62 := NB630_636.1; have hcz63 := zc_5 (w := w61) BK636.1; have hcz64 := zc_5 (w := w61) BK630.1) | (go_at_call 46; (with_reducible refine (impl_isCell.calls ((rd_T31 y631 x33_2).f2) true _ A26.1).mono ?_); rintro e w' ⟨rfl, ⟨nd, rfl⟩⟩) | (go_at_call 36; (with_reducible refine (impl_isSwap.calls ((rd_T31 y631 x33_2).f0) ((rd_T31 y631 x33_2).f1) ((rd_T31 y631 x33_2).f2) ((rd_T31 y631 x33_2).f3) ((rd_T31 y631 x33_2).f4) false _ A30.1).mono ?_); rintro e w65 ⟨rfl, hb⟩; replace HO_5 := zM (Kd.R_below (by refine zrR ?_; exact (Kd.R_mono (zfR (zfR (zfR (zfR (zfR (Kd.R_types HO_5.1 BK636.1 (by decide))))))) (fun _ h_ => h_.1))) hb); replace HO_6 := zM (Kd.S_below (by refine zrS ?_; exact (Kd.S_mono (zfS (zfS (zfS (zfS (zfS (Kd.S_types HO_6.1 BK636.1 (by decide))))))) (fun _ h_ => h_.1))) hb); replace BK630 := zM (zf BK630.1 hb); replace BK636 := zM (blk_below (g := gb636) (o := .cells #[.int .i64 ((rd_T31 y631 x33_2).f0), .int .i64 ((rd_T31 y631 x33_2).f1), .int .i64 ((rd_T31 y631 x33_2).f2), .int .i64 ((rd_T31 y631 x33_2).f3), .int .i64 ((rd_T31 y631 x33_2).f4)] 31 (0, 0)) (by exact zp5 (zK BK636.1)) hb); replace HB := zM (below_step zB1 hb); clear hb) | (go_at_call 43; (with_reducible refine (impl_knows.calls k2 _ _ t626 x33_2 x24_1 true _ ?side1 ?side2 A59.1).mono ?_); (case side1 => exact zC (Kd.S_reads' HO_6.1).2.2); (case side2 => exact (Kd.S_reads' HO_6.1).2.1); rintro e w' ⟨rfl, ⟨nd, rfl⟩⟩))
        go_roundg k2
        case measure => have := HK1.1; have := HK2.1; omega
        case rel => exact ⟨(x5_2), (wrap64 (x33_2 + 1)), zJJ, H', ⟨by have := HK1.1; have := HK2.1; omega⟩, ⟨zR HO_5.1⟩, ⟨zS HO_6.1⟩, ⟨zK BK630.1⟩, ⟨zB1⟩⟩
       replace c60 := Bool.eq_false_iff.mpr c60
       subst c60
       rw [if_neg zF] at H
       replace H := zIn H
       obtain ⟨LMc66, H⟩ := H
       generalize hy645 : ((x5_2 ++ [(⟨x33_2, x24_1⟩ : S44)]) : List (S44)) = y645 at H
       have Ny645 := zM hy645.symm
       clear hy645
       have H' := zM H
       clear H
       obtain ⟨p635, q635, ad635, e635, hx635_0, hx635_1, hx635_2, hx635_3, hx635_4⟩ := zRd (at_T31 HR634.1 x33_2)
       obtain rfl : ad629 = ad635 := (by injection e635)
       replace hx635_0 := zHx HB.1 hx635_0
       replace hx635_1 := zHx HB.1 hx635_1
       replace hx635_2 := zHx HB.1 hx635_2
       replace hx635_3 := zHx HB.1 hx635_3
       replace hx635_4 := zHx HB.1 hx635_4
       go_wp2_with (first | ((with_reducible refine zBx 10 31 #[.int .i64 0, .int .i64 0, .int .i64 0, .int .i64 0, .int .i64 0] ?_); intro gb636 hg w67 hbox hb; replace HO_5 := zM (Kd.R_below (zR HO_5.1) hb); replace HO_6 := zM (Kd.S_below (zS HO_6.1) hb); have BK636 := zM hbox; have GW636 := zM (zW hg (below_size zB1)); have GE636 := zM (zW hg (below_size zB1)); replace HB := zM (below_step zB1 hb); have NB630_636 := zM ((zn BK630.1 hg : gb630 ≠ gb636)); have NB636_630 := zM ((zm BK630.1 hg : gb636 ≠ gb630)); replace BK630 := zM (zb BK630.1 hb); clear hb hbox hg; have hnb68 := NB636_630.1; have hnc68 := NB630_636.1; have hcz69 := zc_5 (w := w67) BK636.1; have hcz70 := zc_5 (w := w67) BK630.1) | (go_at_call 46; (with_reducible refine (impl_isCell.calls ((rd_T31 y631 x33_2).f2) true _ A26.1).mono ?_); rintro e w' ⟨rfl, ⟨nd, rfl⟩⟩) | (go_at_call 36; (with_reducible refine (impl_isSwap.calls ((rd_T31 y631 x33_2).f0) ((rd_T31 y631 x33_2).f1) ((rd_T31 y631 x33_2).f2) ((rd_T31 y631 x33_2).f3) ((rd_T31 y631 x33_2).f4) false _ A30.1).mono ?_); rintro e w71 ⟨rfl, hb⟩; replace HO_5 := zM (Kd.R_below (by refine zrR ?_; exact (Kd.R_mono (zfR (zfR (zfR (zfR (zfR (Kd.R_types HO_5.1 BK636.1 (by decide))))))) (fun _ h_ => h_.1))) hb); replace HO_6 := zM (Kd.S_below (by refine zrS ?_; exact (Kd.S_mono (zfS (zfS (zfS (zfS (zfS (Kd.S_types HO_6.1 BK636.1 (by decide))))))) (fun _ h_ => h_.1))) hb); replace BK630 := zM (zf BK630.1 hb); replace BK636 := zM (blk_below (g := gb636) (o := .cells #[.int .i64 ((rd_T31 y631 x33_2).f0), .int .i64 ((rd_T31 y631 x33_2).f1), .int .i64 ((rd_T31 y631 x33_2).f2), .int .i64 ((rd_T31 y631 x33_2).f3), .int .i64 ((rd_T31 y631 x33_2).f4)] 31 (0, 0)) (by exact zp5 (zK BK636.1)) hb); replace HB := zM (below_step zB1 hb); clear hb) | (go_at_call 43; (with_reducible refine (impl_knows.calls k2 _ _ t626 x33_2 x24_1 false _ ?side1 ?side2 A59.1).mono ?_); (case side1 => exact zC (Kd.S_reads' HO_6.1).2.2); (case side2 => exact (Kd.S_reads' HO_6.1).2.1); rintro e w' ⟨rfl, ⟨nd, rfl⟩⟩) | ((with_reducible refine gate_builtin (b := .append) (xs := #[.tmp 82, .tmp 86]) rfl ?_); at_builtin; refine Kd.R_append k44 (w0 := w) w.heap.size rfl (.tmp 82) (.tmp 86) 41 44 (.agg #[(.int .i64 0), (.int .i64 0)]) 16 rfl Try.underlying41 info44 rfl (by decide) (by omega) u5 x5_2 (⟨x33_2, x24_1⟩ : S44) [.int .i64 x33_2, .int .i64 x24_1] (fun _ => True) (fun _ => False) rfl rfl ?aP (fun _ hk => hk.elim) ?aF ?aO ?aB ?aS ?aL ?_; (case aP => exact k44_mkM _ _ _ (⟨x33_2, x24_1⟩ : S44)); (case aB => exact zB1); (case aF => exact (fun _ _ => trivial)); (case aO => exact (zR HO_5.1)); (case aS => exact (below_size zB1)); (case aL => have := LMc66.out; omega); intro v646 w72 ho hb hg hat; rw [← Ny645.1] at ho; replace HO_6 := zM (Kd.S_over' (zS HO_6.1) (Kd.R_typed (zR HO_5.1)) (by decide) hg); replace BK630 := zM (zg BK630.1 hg (Kd.R_ne HO_5.1 BK630.1 (by decide))); replace BK636 := zM (zg BK636.1 hg (Kd.R_ne HO_5.1 BK636.1 (by decide))); replace HB := zM hb; have HO647 := zM ho; clear HO_5; clear ho hb hg hat))
       go_roundg k2
       case measure => have := HK1.1; have := HK2.1; omega
       case rel => exact ⟨(y645), (wrap64 (x33_2 + 1)), zJJ, H', ⟨by have := HK1.1; have := HK2.1; omega⟩, ⟨zR HO647.1⟩, ⟨zS HO_6.1⟩, ⟨zK BK630.1⟩, ⟨zB1⟩⟩
      subst c31
      rw [if_pos rfl] at H
      replace H := zO H
      obtain ⟨t639, A32, H⟩ := H
      by_cases c33 : t639 = true
      ·subst c33
       rw [if_pos rfl] at H
       have H' := zM H
       clear H
       obtain ⟨p635, q635, ad635, e635, hx635_0, hx635_1, hx635_2, hx635_3, hx635_4⟩ := zRd (at_T31 HR634.1 x33_2)
       obtain rfl : ad629 = ad635 := (by injection e635)
       replace hx635_0 := zHx HB.1 hx635_0
       replace hx635_1 := zHx HB.1 hx635_1
       replace hx635_2 := zHx HB.1 hx635_2
       replace hx635_3 := zHx HB.1 hx635_3
       replace hx635_4 := zHx HB.1 hx635_4
       go_wp2_with (first | ((with_reducible refine zBx 10 31 #[.int .i64 0, .int .i64 0, .int .i64 0, .int .i64 0, .int .i64 0] ?_); intro gb636 hg w34 hbox hb; replace HO_5 := zM (Kd.R_below (zR HO_5.1) hb); replace HO_6 := zM (Kd.S_below (zS HO_6.1) hb); have BK636 := zM hbox; have GW636 := zM (zW hg (below_size zB1)); have GE636 := zM (zW hg (below_size zB1)); replace HB := zM (below_step zB1 hb); have NB630_636 := zM ((zn BK630.1 hg : gb630 ≠ gb636)); have NB636_630 := zM ((zm BK630.1 hg : gb636 ≠ gb630)); replace BK630 := zM (zb BK630.1 hb); clear hb hbox hg; have hnb35 := NB636_630.1; have hnc35 := NB630_636.1; have hcz36 := zc_5 (w := w34) BK636.1; have hcz37 := zc_5 (w := w34) BK630.1) | (go_at_call 46; (with_reducible refine (impl_isCell.calls ((rd_T31 y631 x33_2).f2) true _ A26.1).mono ?_); rintro e w' ⟨rfl, ⟨nd, rfl⟩⟩) | (go_at_call 36; (with_reducible refine (impl_isSwap.calls ((rd_T31 y631 x33_2).f0) ((rd_T31 y631 x33_2).f1) ((rd_T31 y631 x33_2).f2) ((rd_T31 y631 x33_2).f3) ((rd_T31 y631 x33_2).f4) true _ A30.1).mono ?_); rintro e w38 ⟨rfl, hb⟩; replace HO_5 := zM (Kd.R_below (by refine zrR ?_; exact (Kd.R_mono (zfR (zfR (zfR (zfR (zfR (Kd.R_types HO_5.1 BK636.1 (by decide))))))) (fun _ h_ => h_.1))) hb); replace HO_6 := zM (Kd.S_below (by refine zrS ?_; exact (Kd.S_mono (zfS (zfS (zfS (zfS (zfS (Kd.S_types HO_6.1 BK636.1 (by decide))))))) (fun _ h_ => h_.1))) hb); replace BK630 := zM (zf BK630.1 hb); replace BK636 := zM (blk_below (g := gb636) (o := .cells #[.int .i64 ((rd_T31 y631 x33_2).f0), .int .i64 ((rd_T31 y631 x33_2).f1), .int .i64 ((rd_T31 y631 x33_2).f2), .int .i64 ((rd_T31 y631 x33_2).f3), .int .i64 ((rd_T31 y631 x33_2).f4)] 31 (0, 0)) (by exact zp5 (zK BK636.1)) hb); replace HB := zM (below_step zB1 hb); clear hb; have hcz39 := zc_5 (w := w38) BK630.1) | (go_at_call 36; (with_reducible refine (impl_isSwap.calls ((rd_T31 l1 x24_1).f0) ((rd_T31 l1 x24_1).f1) ((rd_T31 l1 x24_1).f2) ((rd_T31 l1 x24_1).f3) ((rd_T31 l1 x24_1).f4) true _ A32.1).mono ?_); rintro e w40 ⟨rfl, hb⟩; replace HO_5 := zM (Kd.R_below (zR HO_5.1) hb); replace HO_6 := zM (Kd.S_below (zS HO_6.1) hb); replace BK630 := zM (zb BK630.1 hb); replace BK636 := zM (zb BK636.1 hb); replace HB := zM (below_step zB1 hb); clear hb))
       go_roundg k2
       case measure => have := HK1.1; have := HK2.1; omega
       case rel => exact ⟨(x5_2), (wrap64 (x33_2 + 1)), zJJ, H', ⟨by have := HK1.1; have := HK2.1; omega⟩, ⟨zR HO_5.1⟩, ⟨zS HO_6.1⟩, ⟨zK BK630.1⟩, ⟨zB1⟩⟩
      replace c33 := Bool.eq_false_iff.mpr c33
      subst c33
      rw [if_neg zF] at H
      replace H := zO H
      obtain ⟨t640, A41, H⟩ := H
      by_cases c42 : t640 = true
      ·subst c42
       rw [if_pos rfl] at H
       have H' := zM H
       clear H
       obtain ⟨p635, q635, ad635, e635, hx635_0, hx635_1, hx635_2, hx635_3, hx635_4⟩ := zRd (at_T31 HR634.1 x33_2)
       obtain rfl : ad629 = ad635 := (by injection e635)
       replace hx635_0 := zHx HB.1 hx635_0
       replace hx635_1 := zHx HB.1 hx635_1
       replace hx635_2 := zHx HB.1 hx635_2
       replace hx635_3 := zHx HB.1 hx635_3
       replace hx635_4 := zHx HB.1 hx635_4
       go_wp2_with (first | ((with_reducible refine zBx 10 31 #[.int .i64 0, .int .i64 0, .int .i64 0, .int .i64 0, .int .i64 0] ?_); intro gb636 hg w43 hbox hb; replace HO_5 := zM (Kd.R_below (zR HO_5.1) hb); replace HO_6 := zM (Kd.S_below (zS HO_6.1) hb); have BK636 := zM hbox; have GW636 := zM (zW hg (below_size zB1)); have GE636 := zM (zW hg (below_size zB1)); replace HB := zM (below_step zB1 hb); have NB630_636 := zM ((zn BK630.1 hg : gb630 ≠ gb636)); have NB636_630 := zM ((zm BK630.1 hg : gb636 ≠ gb630)); replace BK630 := zM (zb BK630.1 hb); clear hb hbox hg; have hnb44 := NB636_630.1; have hnc44 := NB630_636.1; have hcz45 := zc_5 (w := w43) BK636.1; have hcz46 := zc_5 (w := w43) BK630.1) | (go_at_call 46; (with_reducible refine (impl_isCell.calls ((rd_T31 y631 x33_2).f2) true _ A26.1).mono ?_); rintro e w' ⟨rfl, ⟨nd, rfl⟩⟩) | (go_at_call 36; (with_reducible refine (impl_isSwap.calls ((rd_T31 y631 x33_2).f0) ((rd_T31 y631 x33_2).f1) ((rd_T31 y631 x33_2).f2) ((rd_T31 y631 x33_2).f3) ((rd_T31 y631 x33_2).f4) true _ A30.1).mono ?_); rintro e w47 ⟨rfl, hb⟩; replace HO_5 := zM (Kd.R_below (by refine zrR ?_; exact (Kd.R_mono (zfR (zfR (zfR (zfR (zfR (Kd.R_types HO_5.1 BK636.1 (by decide))))))) (fun _ h_ => h_.1))) hb); replace HO_6 := zM (Kd.S_below (by refine zrS ?_; exact (Kd.S_mono (zfS (zfS (zfS (zfS (zfS (Kd.S_types HO_6.1 BK636.1 (by decide))))))) (fun _ h_ => h_.1))) hb); replace BK630 := zM (zf BK630.1 hb); replace BK636 := zM (blk_below (g := gb636) (o := .cells #[.int .i64 ((rd_T31 y631 x33_2).f0), .int .i64 ((rd_T31 y631 x33_2).f1), .int .i64 ((rd_T31 y631 x33_2).f2), .int .i64 ((rd_T31 y631 x33_2).f3), .int .i64 ((rd_T31 y631 x33_2).f4)] 31 (0, 0)) (by exact zp5 (zK BK636.1)) hb); replace HB := zM (below_step zB1 hb); clear hb; have hcz48 := zc_5 (w := w47) BK630.1) | (go_at_call 36; (with_reducible refine (impl_isSwap.calls ((rd_T31 l1 x24_1).f0) ((rd_T31 l1 x24_1).f1) ((rd_T31 l1 x24_1).f2) ((rd_T31 l1 x24_1).f3) ((rd_T31 l1 x24_1).f4) false _ A32.1).mono ?_); rintro e w49 ⟨rfl, hb⟩; replace HO_5 := zM (Kd.R_below (zR HO_5.1) hb); replace HO_6 := zM (Kd.S_below (zS HO_6.1) hb); replace BK630 := zM (zb BK630.1 hb); replace BK636 := zM (zb BK636.1 hb); replace HB := zM (below_step zB1 hb); clear hb) | (go_at_call 43; (with_reducible refine (impl_knows.calls k2 _ _ t626 x33_2 x24_1 true _ ?side1 ?side2 A41.1).mono ?_); (case side1 => exact zC (Kd.S_reads' HO_6.1).2.2); (case side2 => exact (Kd.S_reads' HO_6.1).2.1); rintro e w' ⟨rfl, ⟨nd, rfl⟩⟩))
       go_roundg k2
       case measure => have := HK1.1; have := HK2.1; omega
       case rel => exact ⟨(x5_2), (wrap64 (x33_2 + 1)), zJJ, H', ⟨by have := HK1.1; have := HK2.1; omega⟩, ⟨zR HO_5.1⟩, ⟨zS HO_6.1⟩, ⟨zK BK630.1⟩, ⟨zB1⟩⟩
      replace c42 := Bool.eq_false_iff.mpr c42
      subst c42
      rw [if_neg zF] at H
      replace H := zIn H
      obtain ⟨LMc50, H⟩ := H
      generalize hy641 : ((x5_2 ++ [(⟨x33_2, x24_1⟩ : S44)]) : List (S44)) = y641 at H
      have Ny641 := zM hy641.symm
      clear hy641
      have H' := zM H
      clear H
      obtain ⟨p635, q635, ad635, e635, hx635_0, hx635_1, hx635_2, hx635_3, hx635_4⟩ := zRd (at_T31 HR634.1 x33_2)
      obtain rfl : ad629 = ad635 := (by injection e635)
      replace hx635_0 := zHx HB.1 hx635_0
      replace hx635_1 := zHx HB.1 hx635_1
      replace hx635_2 := zHx HB.1 hx635_2
      replace hx635_3 := zHx HB.1 hx635_3
      replace hx635_4 := zHx HB.1 hx635_4
      go_wp2_with (first | ((with_reducible refine zBx 10 31 #[.int .i64 0, .int .i64 0, .int .i64 0, .int .i64 0, .int .i64 0] ?_); intro gb636 hg w51 hbox hb; replace HO_5 := zM (Kd.R_below (zR HO_5.1) hb); replace HO_6 := zM (Kd.S_below (zS HO_6.1) hb); have BK636 := zM hbox; have GW636 := zM (zW hg (below_size zB1)); have GE636 := zM (zW hg (below_size zB1)); replace HB := zM (below_step zB1 hb); have NB630_636 := zM ((zn BK630.1 hg : gb630 ≠ gb636)); have NB636_630 := zM ((zm BK630.1 hg : gb636 ≠ gb630)); replace BK630 := zM (zb BK630.1 hb); clear hb hbox hg; have hnb52 := NB636_630.1; have hnc52 := NB630_636.1; have hcz53 := zc_5 (w := w51) BK636.1; have hcz54 := zc_5 (w := w51) BK630.1) | (go_at_call 46; (with_reducible refine (impl_isCell.calls ((rd_T31 y631 x33_2).f2) true _ A26.1).mono ?_); rintro e w' ⟨rfl, ⟨nd, rfl⟩⟩) | (go_at_call 36; (with_reducible refine (impl_isSwap.calls ((rd_T31 y631 x33_2).f0) ((rd_T31 y631 x33_2).f1) ((rd_T31 y631 x33_2).f2) ((rd_T31 y631 x33_2).f3) ((rd_T31 y631 x33_2).f4) true _ A30.1).mono ?_); rintro e w55 ⟨rfl, hb⟩; replace HO_5 := zM (Kd.R_below (by refine zrR ?_; exact (Kd.R_mono (zfR (zfR (zfR (zfR (zfR (Kd.R_types HO_5.1 BK636.1 (by decide))))))) (fun _ h_ => h_.1))) hb); replace HO_6 := zM (Kd.S_below (by refine zrS ?_; exact (Kd.S_mono (zfS (zfS (zfS (zfS (zfS (Kd.S_types HO_6.1 BK636.1 (by decide))))))) (fun _ h_ => h_.1))) hb); replace BK630 := zM (zf BK630.1 hb); replace BK636 := zM (blk_below (g := gb636) (o := .cells #[.int .i64 ((rd_T31 y631 x33_2).f0), .int .i64 ((rd_T31 y631 x33_2).f1), .int .i64 ((rd_T31 y631 x33_2).f2), .int .i64 ((rd_T31 y631 x33_2).f3), .int .i64 ((rd_T31 y631 x33_2).f4)] 31 (0, 0)) (by exact zp5 (zK BK636.1)) hb); replace HB := zM (below_step zB1 hb); clear hb; have hcz56 := zc_5 (w := w55) BK630.1) | (go_at_call 36; (with_reducible refine (impl_isSwap.calls ((rd_T31 l1 x24_1).f0) ((rd_T31 l1 x24_1).f1) ((rd_T31 l1 x24_1).f2) ((rd_T31 l1 x24_1).f3) ((rd_T31 l1 x24_1).f4) false _ A32.1).mono ?_); rintro e w57 ⟨rfl, hb⟩; replace HO_5 := zM (Kd.R_below (zR HO_5.1) hb); replace HO_6 := zM (Kd.S_below (zS HO_6.1) hb); replace BK630 := zM (zb BK630.1 hb); replace BK636 := zM (zb BK636.1 hb); replace HB := zM (below_step zB1 hb); clear hb) | (go_at_call 43; (with_reducible refine (impl_knows.calls k2 _ _ t626 x33_2 x24_1 false _ ?side1 ?side2 A41.1).mono ?_); (case side1 => exact zC (Kd.S_reads' HO_6.1).2.2); (case side2 => exact (Kd.S_reads' HO_6.1).2.1); rintro e w' ⟨rfl, ⟨nd, rfl⟩⟩) | ((with_reducible refine gate_builtin (b := .append) (xs := #[.tmp 82, .tmp 86]) rfl ?_); at_builtin; refine Kd.R_append k44 (w0 := w) w.heap.size rfl (.tmp 82) (.tmp 86) 41 44 (.agg #[(.int .i64 0), (.int .i64 0)]) 16 rfl Try.underlying41 info44 rfl (by decide) (by omega) u5 x5_2 (⟨x33_2, x24_1⟩ : S44) [.int .i64 x33_2, .int .i64 x24_1] (fun _ => True) (fun _ => False) rfl rfl ?aP (fun _ hk => hk.elim) ?aF ?aO ?aB ?aS ?aL ?_; (case aP => exact k44_mkM _ _ _ (⟨x33_2, x24_1⟩ : S44)); (case aB => exact zB1); (case aF => exact (fun _ _ => trivial)); (case aO => exact (zR HO_5.1)); (case aS => exact (below_size zB1)); (case aL => have := LMc50.out; omega); intro v642 w58 ho hb hg hat; rw [← Ny641.1] at ho; replace HO_6 := zM (Kd.S_over' (zS HO_6.1) (Kd.R_typed (zR HO_5.1)) (by decide) hg); replace BK630 := zM (zg BK630.1 hg (Kd.R_ne HO_5.1 BK630.1 (by decide))); replace BK636 := zM (zg BK636.1 hg (Kd.R_ne HO_5.1 BK636.1 (by decide))); replace HB := zM hb; have HO643 := zM ho; clear HO_5; clear ho hb hg hat))
      go_roundg k2
      case measure => have := HK1.1; have := HK2.1; omega
      case rel => exact ⟨(y641), (wrap64 (x33_2 + 1)), zJJ, H', ⟨by have := HK1.1; have := HK2.1; omega⟩, ⟨zR HO643.1⟩, ⟨zS HO_6.1⟩, ⟨zK BK630.1⟩, ⟨zB1⟩⟩
     rw [if_neg c29] at H
     have c29b0 := decide_eq_false c29
     clear c29
     by_cases c73 : ((rd_T31 l1 x24_1).f4) ≥ 0
     rotate_left
     ·rw [if_neg c73] at H
      have c73b0 := decide_eq_false c73
      clear c73
      have H' := zM H
      clear H
      obtain ⟨p635, q635, ad635, e635, hx635_0, hx635_1, hx635_2, hx635_3, hx635_4⟩ := zRd (at_T31 HR634.1 x33_2)
      obtain rfl : ad629 = ad635 := (by injection e635)
      replace hx635_0 := zHx HB.1 hx635_0
      replace hx635_1 := zHx HB.1 hx635_1
      replace hx635_2 := zHx HB.1 hx635_2
      replace hx635_3 := zHx HB.1 hx635_3
      replace hx635_4 := zHx HB.1 hx635_4
      go_wp2_with (first | ((with_reducible refine zBx 10 31 #[.int .i64 0, .int .i64 0, .int .i64 0, .int .i64 0, .int .i64 0] ?_); intro gb636 hg w117 hbox hb; replace HO_5 := zM (Kd.R_below (zR HO_5.1) hb); replace HO_6 := zM (Kd.S_below (zS HO_6.1) hb); have BK636 := zM hbox; have GW636 := zM (zW hg (below_size zB1)); have GE636 := zM (zW hg (below_size zB1)); replace HB := zM (below_step zB1 hb); have NB630_636 := zM ((zn BK630.1 hg : gb630 ≠ gb636)); have NB636_630 := zM ((zm BK630.1 hg : gb636 ≠ gb630)); replace BK630 := zM (zb BK630.1 hb); clear hb hbox hg; have hnb118 := NB636_630.1; have hnc118 := NB630_636.1; have hcz119 := zc_5 (w := w117) BK636.1; have hcz120 := zc_5 (w := w117) BK630.1) | (go_at_call 46; (with_reducible refine (impl_isCell.calls ((rd_T31 y631 x33_2).f2) true _ A26.1).mono ?_); rintro e w' ⟨rfl, ⟨nd, rfl⟩⟩))
      go_roundg k2
      case measure => have := HK1.1; have := HK2.1; omega
      case rel => exact ⟨(x5_2), (wrap64 (x33_2 + 1)), zJJ, H', ⟨by have := HK1.1; have := HK2.1; omega⟩, ⟨by refine zrR ?_; exact Kd.R_mono (zfR (zfR (zfR (zfR (zfR (Kd.R_types HO_5.1 BK636.1 (by decide))))))) (fun _ hk => trivial)⟩, ⟨by refine zrS ?_; exact Kd.S_mono (zfS (zfS (zfS (zfS (zfS (Kd.S_types HO_6.1 BK636.1 (by decide))))))) (fun _ hk => trivial)⟩, ⟨zPq⟩, ⟨zB1⟩⟩
     rw [if_pos c73] at H
     have c73b0 := decide_eq_true c73
     clear c73
     replace H := zO H
     obtain ⟨t648, A74, H⟩ := H
     by_cases c75 : t648 = true
     rotate_left
     ·replace c75 := Bool.eq_false_iff.mpr c75
      subst c75
      rw [if_neg zF] at H
      replace H := zO H
      obtain ⟨t654, A103, H⟩ := H
      by_cases c104 : t654 = true
      ·subst c104
       rw [if_pos rfl] at H
       have H' := zM H
       clear H
       obtain ⟨p635, q635, ad635, e635, hx635_0, hx635_1, hx635_2, hx635_3, hx635_4⟩ := zRd (at_T31 HR634.1 x33_2)
       obtain rfl : ad629 = ad635 := (by injection e635)
       replace hx635_0 := zHx HB.1 hx635_0
       replace hx635_1 := zHx HB.1 hx635_1
       replace hx635_2 := zHx HB.1 hx635_2
       replace hx635_3 := zHx HB.1 hx635_3
       replace hx635_4 := zHx HB.1 hx635_4
       go_wp2_with (first | ((with_reducible refine zBx 10 31 #[.int .i64 0, .int .i64 0, .int .i64 0, .int .i64 0, .int .i64 0] ?_); intro gb636 hg w105 hbox hb; replace HO_5 := zM (Kd.R_below (zR HO_5.1) hb); replace HO_6 := zM (Kd.S_below (zS HO_6.1) hb); have BK636 := zM hbox; have GW636 := zM (zW hg (below_size zB1)); have GE636 := zM (zW hg (below_size zB1)); replace HB := zM (below_step zB1 hb); have NB630_636 := zM ((zn BK630.1 hg : gb630 ≠ gb636)); have NB636_630 := zM ((zm BK630.1 hg : gb636 ≠ gb630)); replace BK630 := zM (zb BK630.1 hb); clear hb hbox hg; have hnb106 := NB636_630.1; have hnc106 := NB630_636.1; have hcz107 := zc_5 (w := w105) BK636.1; have hcz108 := zc_5 (w := w105) BK630.1) | (go_at_call 46; (with_reducible refine (impl_isCell.calls ((rd_T31 y631 x33_2).f2) true _ A26.1).mono ?_); rintro e w' ⟨rfl, ⟨nd, rfl⟩⟩) | (go_at_call 36; (with_reducible refine (impl_isSwap.calls ((rd_T31 y631 x33_2).f0) ((rd_T31 y631 x33_2).f1) ((rd_T31 y631 x33_2).f2) ((rd_T31 y631 x33_2).f3) ((rd_T31 y631 x33_2).f4) false _ A74.1).mono ?_); rintro e w109 ⟨rfl, hb⟩; replace HO_5 := zM (Kd.R_below (by refine zrR ?_; exact (Kd.R_mono (zfR (zfR (zfR (zfR (zfR (Kd.R_types HO_5.1 BK636.1 (by decide))))))) (fun _ h_ => h_.1))) hb); replace HO_6 := zM (Kd.S_below (by refine zrS ?_; exact (Kd.S_mono (zfS (zfS (zfS (zfS (zfS (Kd.S_types HO_6.1 BK636.1 (by decide))))))) (fun _ h_ => h_.1))) hb); replace BK630 := zM (zf BK630.1 hb); replace BK636 := zM (blk_below (g := gb636) (o := .cells #[.int .i64 ((rd_T31 y631 x33_2).f0), .int .i64 ((rd_T31 y631 x33_2).f1), .int .i64 ((rd_T31 y631 x33_2).f2), .int .i64 ((rd_T31 y631 x33_2).f3), .int .i64 ((rd_T31 y631 x33_2).f4)] 31 (0, 0)) (by exact zp5 (zK BK636.1)) hb); replace HB := zM (below_step zB1 hb); clear hb) | (go_at_call 43; (with_reducible refine (impl_knows.calls k2 _ _ t626 x33_2 x24_1 true _ ?side1 ?side2 A103.1).mono ?_); (case side1 => exact zC (Kd.S_reads' HO_6.1).2.2); (case side2 => exact (Kd.S_reads' HO_6.1).2.1); rintro e w' ⟨rfl, ⟨nd, rfl⟩⟩))
       go_roundg k2
       case measure => have := HK1.1; have := HK2.1; omega
       case rel => exact ⟨(x5_2), (wrap64 (x33_2 + 1)), zJJ, H', ⟨by have := HK1.1; have := HK2.1; omega⟩, ⟨zR HO_5.1⟩, ⟨zS HO_6.1⟩, ⟨zK BK630.1⟩, ⟨zB1⟩⟩
      replace c104 := Bool.eq_false_iff.mpr c104
      subst c104
      rw [if_neg zF] at H
      replace H := zIn H
      obtain ⟨LMc110, H⟩ := H
      generalize hy655 : ((x5_2 ++ [(⟨x33_2, x24_1⟩ : S44)]) : List (S44)) = y655 at H
      have Ny655 := zM hy655.symm
      clear hy655
      have H' := zM H
      clear H
      obtain ⟨p635, q635, ad635, e635, hx635_0, hx635_1, hx635_2, hx635_3, hx635_4⟩ := zRd (at_T31 HR634.1 x33_2)
      obtain rfl : ad629 = ad635 := (by injection e635)
      replace hx635_0 := zHx HB.1 hx635_0
      replace hx635_1 := zHx HB.1 hx635_1
      replace hx635_2 := zHx HB.1 hx635_2
      replace hx635_3 := zHx HB.1 hx635_3
      replace hx635_4 := zHx HB.1 hx635_4
      go_wp2_with (first | ((with_reducible refine zBx 10 31 #[.int .i64 0, .int .i64 0, .int .i64 0, .int .i64 0, .int .i64 0] ?_); intro gb636 hg w111 hbox hb; replace HO_5 := zM (Kd.R_below (zR HO_5.1) hb); replace HO_6 := zM (Kd.S_below (zS HO_6.1) hb); have BK636 := zM hbox; have GW636 := zM (zW hg (below_size zB1)); have GE636 := zM (zW hg (below_size zB1)); replace HB := zM (below_step zB1 hb); have NB630_636 := zM ((zn BK630.1 hg : gb630 ≠ gb636)); have NB636_630 := zM ((zm BK630.1 hg : gb636 ≠ gb630)); replace BK630 := zM (zb BK630.1 hb); clear hb hbox hg; have hnb112 := NB636_630.1; have hnc112 := NB630_636.1; have hcz113 := zc_5 (w := w111) BK636.1; have hcz114 := zc_5 (w := w111) BK630.1) | (go_at_call 46; (with_reducible refine (impl_isCell.calls ((rd_T31 y631 x33_2).f2) true _ A26.1).mono ?_); rintro e w' ⟨rfl, ⟨nd, rfl⟩⟩) | (go_at_call 36; (with_reducible refine (impl_isSwap.calls ((rd_T31 y631 x33_2).f0) ((rd_T31 y631 x33_2).f1) ((rd_T31 y631 x33_2).f2) ((rd_T31 y631 x33_2).f3) ((rd_T31 y631 x33_2).f4) false _ A74.1).mono ?_); rintro e w115 ⟨rfl, hb⟩; replace HO_5 := zM (Kd.R_below (by refine zrR ?_; exact (Kd.R_mono (zfR (zfR (zfR (zfR (zfR (Kd.R_types HO_5.1 BK636.1 (by decide))))))) (fun _ h_ => h_.1))) hb); replace HO_6 := zM (Kd.S_below (by refine zrS ?_; exact (Kd.S_mono (zfS (zfS (zfS (zfS (zfS (Kd.S_types HO_6.1 BK636.1 (by decide))))))) (fun _ h_ => h_.1))) hb); replace BK630 := zM (zf BK630.1 hb); replace BK636 := zM (blk_below (g := gb636) (o := .cells #[.int .i64 ((rd_T31 y631 x33_2).f0), .int .i64 ((rd_T31 y631 x33_2).f1), .int .i64 ((rd_T31 y631 x33_2).f2), .int .i64 ((rd_T31 y631 x33_2).f3), .int .i64 ((rd_T31 y631 x33_2).f4)] 31 (0, 0)) (by exact zp5 (zK BK636.1)) hb); replace HB := zM (below_step zB1 hb); clear hb) | (go_at_call 43; (with_reducible refine (impl_knows.calls k2 _ _ t626 x33_2 x24_1 false _ ?side1 ?side2 A103.1).mono ?_); (case side1 => exact zC (Kd.S_reads' HO_6.1).2.2); (case side2 => exact (Kd.S_reads' HO_6.1).2.1); rintro e w' ⟨rfl, ⟨nd, rfl⟩⟩) | ((with_reducible refine gate_builtin (b := .append) (xs := #[.tmp 82, .tmp 86]) rfl ?_); at_builtin; refine Kd.R_append k44 (w0 := w) w.heap.size rfl (.tmp 82) (.tmp 86) 41 44 (.agg #[(.int .i64 0), (.int .i64 0)]) 16 rfl Try.underlying41 info44 rfl (by decide) (by omega) u5 x5_2 (⟨x33_2, x24_1⟩ : S44) [.int .i64 x33_2, .int .i64 x24_1] (fun _ => True) (fun _ => False) rfl rfl ?aP (fun _ hk => hk.elim) ?aF ?aO ?aB ?aS ?aL ?_; (case aP => exact k44_mkM _ _ _ (⟨x33_2, x24_1⟩ : S44)); (case aB => exact zB1); (case aF => exact (fun _ _ => trivial)); (case aO => exact (zR HO_5.1)); (case aS => exact (below_size zB1)); (case aL => have := LMc110.out; omega); intro v656 w116 ho hb hg hat; rw [← Ny655.1] at ho; replace HO_6 := zM (Kd.S_over' (zS HO_6.1) (Kd.R_typed (zR HO_5.1)) (by decide) hg); replace BK630 := zM (zg BK630.1 hg (Kd.R_ne HO_5.1 BK630.1 (by decide))); replace BK636 := zM (zg BK636.1 hg (Kd.R_ne HO_5.1 BK636.1 (by decide))); replace HB := zM hb; have HO657 := zM ho; clear HO_5; clear ho hb hg hat))
      go_roundg k2
      case measure => have := HK1.1; have := HK2.1; omega
      case rel => exact ⟨(y655), (wrap64 (x33_2 + 1)), zJJ, H', ⟨by have := HK1.1; have := HK2.1; omega⟩, ⟨zR HO657.1⟩, ⟨zS HO_6.1⟩, ⟨zK BK630.1⟩, ⟨zB1⟩⟩
     subst c75
     rw [if_pos rfl] at H
     replace H := zO H
     obtain ⟨t649, A76, H⟩ := H
     by_cases c77 : t649 = true
     ·subst c77
      rw [if_pos rfl] at H
      have H' := zM H
      clear H
      obtain ⟨p635, q635, ad635, e635, hx635_0, hx635_1, hx635_2, hx635_3, hx635_4⟩ := zRd (at_T31 HR634.1 x33_2)
      obtain rfl : ad629 = ad635 := (by injection e635)
      replace hx635_0 := zHx HB.1 hx635_0
      replace hx635_1 := zHx HB.1 hx635_1
      replace hx635_2 := zHx HB.1 hx635_2
      replace hx635_3 := zHx HB.1 hx635_3
      replace hx635_4 := zHx HB.1 hx635_4
      go_wp2_with (first | ((with_reducible refine zBx 10 31 #[.int .i64 0, .int .i64 0, .int .i64 0, .int .i64 0, .int .i64 0] ?_); intro gb636 hg w78 hbox hb; replace HO_5 := zM (Kd.R_below (zR HO_5.1) hb); replace HO_6 := zM (Kd.S_below (zS HO_6.1) hb); have BK636 := zM hbox; have GW636 := zM (zW hg (below_size zB1)); have GE636 := zM (zW hg (below_size zB1)); replace HB := zM (below_step zB1 hb); have NB630_636 := zM ((zn BK630.1 hg : gb630 ≠ gb636)); have NB636_630 := zM ((zm BK630.1 hg : gb636 ≠ gb630)); replace BK630 := zM (zb BK630.1 hb); clear hb hbox hg; have hnb79 := NB636_630.1; have hnc79 := NB630_636.1; have hcz80 := zc_5 (w := w78) BK636.1; have hcz81 := zc_5 (w := w78) BK630.1) | (go_at_call 46; (with_reducible refine (impl_isCell.calls ((rd_T31 y631 x33_2).f2) true _ A26.1).mono ?_); rintro e w' ⟨rfl, ⟨nd, rfl⟩⟩) | (go_at_call 36; (with_reducible refine (impl_isSwap.calls ((rd_T31 y631 x33_2).f0) ((rd_T31 y631 x33_2).f1) ((rd_T31 y631 x33_2).f2) ((rd_T31 y631 x33_2).f3) ((rd_T31 y631 x33_2).f4) true _ A74.1).mono ?_); rintro e w82 ⟨rfl, hb⟩; replace HO_5 := zM (Kd.R_below (by refine zrR ?_; exact (Kd.R_mono (zfR (zfR (zfR (zfR (zfR (Kd.R_types HO_5.1 BK636.1 (by decide))))))) (fun _ h_ => h_.1))) hb); replace HO_6 := zM (Kd.S_below (by refine zrS ?_; exact (Kd.S_mono (zfS (zfS (zfS (zfS (zfS (Kd.S_types HO_6.1 BK636.1 (by decide))))))) (fun _ h_ => h_.1))) hb); replace BK630 := zM (zf BK630.1 hb); replace BK636 := zM (blk_below (g := gb636) (o := .cells #[.int .i64 ((rd_T31 y631 x33_2).f0), .int .i64 ((rd_T31 y631 x33_2).f1), .int .i64 ((rd_T31 y631 x33_2).f2), .int .i64 ((rd_T31 y631 x33_2).f3), .int .i64 ((rd_T31 y631 x33_2).f4)] 31 (0, 0)) (by exact zp5 (zK BK636.1)) hb); replace HB := zM (below_step zB1 hb); clear hb; have hcz83 := zc_5 (w := w82) BK630.1) | (go_at_call 36; (with_reducible refine (impl_isSwap.calls ((rd_T31 l1 x24_1).f0) ((rd_T31 l1 x24_1).f1) ((rd_T31 l1 x24_1).f2) ((rd_T31 l1 x24_1).f3) ((rd_T31 l1 x24_1).f4) true _ A76.1).mono ?_); rintro e w84 ⟨rfl, hb⟩; replace HO_5 := zM (Kd.R_below (zR HO_5.1) hb); replace HO_6 := zM (Kd.S_below (zS HO_6.1) hb); replace BK630 := zM (zb BK630.1 hb); replace BK636 := zM (zb BK636.1 hb); replace HB := zM (below_step zB1 hb); clear hb))
      go_roundg k2
      case measure => have := HK1.1; have := HK2.1; omega
      case rel => exact ⟨(x5_2), (wrap64 (x33_2 + 1)), zJJ, H', ⟨by have := HK1.1; have := HK2.1; omega⟩, ⟨zR HO_5.1⟩, ⟨zS HO_6.1⟩, ⟨zK BK630.1⟩, ⟨zB1⟩⟩
     replace c77 := Bool.eq_false_iff.mpr c77
     subst c77
     rw [if_neg zF] at H
     replace H := zO H
     obtain ⟨t650, A85, H⟩ := H
     by_cases c86 : t650 = true
     ·subst c86
      rw [if_pos rfl] at H
      have H' := zM H
      clear H
      obtain ⟨p635, q635, ad635, e635, hx635_0, hx635_1, hx635_2, hx635_3, hx635_4⟩ := zRd (at_T31 HR634.1 x33_2)
      obtain rfl : ad629 = ad635 := (by injection e635)
      replace hx635_0 := zHx HB.1 hx635_0
      replace hx635_1 := zHx HB.1 hx635_1
      replace hx635_2 := zHx HB.1 hx635_2
      replace hx635_3 := zHx HB.1 hx635_3
      replace hx635_4 := zHx HB.1 hx635_4
      go_wp2_with (first | ((with_reducible refine zBx 10 31 #[.int .i64 0, .int .i64 0, .int .i64 0, .int .i64 0, .int .i64 0] ?_); intro gb636 hg w87 hbox hb; replace HO_5 := zM (Kd.R_below (zR HO_5.1) hb); replace HO_6 := zM (Kd.S_below (zS HO_6.1) hb); have BK636 := zM hbox; have GW636 := zM (zW hg (below_size zB1)); have GE636 := zM (zW hg (below_size zB1)); replace HB := zM (below_step zB1 hb); have NB630_636 := zM ((zn BK630.1 hg : gb630 ≠ gb636)); have NB636_630 := zM ((zm BK630.1 hg : gb636 ≠ gb630)); replace BK630 := zM (zb BK630.1 hb); clear hb hbox hg; have hnb88 := NB636_630.1; have hnc88 := NB630_636.1; have hcz89 := zc_5 (w := w87) BK636.1; have hcz90 := zc_5 (w := w87) BK630.1) | (go_at_call 46; (with_reducible refine (impl_isCell.calls ((rd_T31 y631 x33_2).f2) true _ A26.1).mono ?_); rintro e w' ⟨rfl, ⟨nd, rfl⟩⟩) | (go_at_call 36; (with_reducible refine (impl_isSwap.calls ((rd_T31 y631 x33_2).f0) ((rd_T31 y631 x33_2).f1) ((rd_T31 y631 x33_2).f2) ((rd_T31 y631 x33_2).f3) ((rd_T31 y631 x33_2).f4) true _ A74.1).mono ?_); rintro e w91 ⟨rfl, hb⟩; replace HO_5 := zM (Kd.R_below (by refine zrR ?_; exact (Kd.R_mono (zfR (zfR (zfR (zfR (zfR (Kd.R_types HO_5.1 BK636.1 (by decide))))))) (fun _ h_ => h_.1))) hb); replace HO_6 := zM (Kd.S_below (by refine zrS ?_; exact (Kd.S_mono (zfS (zfS (zfS (zfS (zfS (Kd.S_types HO_6.1 BK636.1 (by decide))))))) (fun _ h_ => h_.1))) hb); replace BK630 := zM (zf BK630.1 hb); replace BK636 := zM (blk_below (g := gb636) (o := .cells #[.int .i64 ((rd_T31 y631 x33_2).f0), .int .i64 ((rd_T31 y631 x33_2).f1), .int .i64 ((rd_T31 y631 x33_2).f2), .int .i64 ((rd_T31 y631 x33_2).f3), .int .i64 ((rd_T31 y631 x33_2).f4)] 31 (0, 0)) (by exact zp5 (zK BK636.1)) hb); replace HB := zM (below_step zB1 hb); clear hb; have hcz92 := zc_5 (w := w91) BK630.1) | (go_at_call 36; (with_reducible refine (impl_isSwap.calls ((rd_T31 l1 x24_1).f0) ((rd_T31 l1 x24_1).f1) ((rd_T31 l1 x24_1).f2) ((rd_T31 l1 x24_1).f3) ((rd_T31 l1 x24_1).f4) false _ A76.1).mono ?_); rintro e w93 ⟨rfl, hb⟩; replace HO_5 := zM (Kd.R_below (zR HO_5.1) hb); replace HO_6 := zM (Kd.S_below (zS HO_6.1) hb); replace BK630 := zM (zb BK630.1 hb); replace BK636 := zM (zb BK636.1 hb); replace HB := zM (below_step zB1 hb); clear hb) | (go_at_call 43; (with_reducible refine (impl_knows.calls k2 _ _ t626 x33_2 x24_1 true _ ?side1 ?side2 A85.1).mono ?_); (case side1 => exact zC (Kd.S_reads' HO_6.1).2.2); (case side2 => exact (Kd.S_reads' HO_6.1).2.1); rintro e w' ⟨rfl, ⟨nd, rfl⟩⟩))
      go_roundg k2
      case measure => have := HK1.1; have := HK2.1; omega
      case rel => exact ⟨(x5_2), (wrap64 (x33_2 + 1)), zJJ, H', ⟨by have := HK1.1; have := HK2.1; omega⟩, ⟨zR HO_5.1⟩, ⟨zS HO_6.1⟩, ⟨zK BK630.1⟩, ⟨zB1⟩⟩
     replace c86 := Bool.eq_false_iff.mpr c86
     subst c86
     rw [if_neg zF] at H
     replace H := zIn H
     obtain ⟨LMc94, H⟩ := H
     generalize hy651 : ((x5_2 ++ [(⟨x33_2, x24_1⟩ : S44)]) : List (S44)) = y651 at H
     have Ny651 := zM hy651.symm
     clear hy651
     have H' := zM H
     clear H
     obtain ⟨p635, q635, ad635, e635, hx635_0, hx635_1, hx635_2, hx635_3, hx635_4⟩ := zRd (at_T31 HR634.1 x33_2)
     obtain rfl : ad629 = ad635 := (by injection e635)
     replace hx635_0 := zHx HB.1 hx635_0
     replace hx635_1 := zHx HB.1 hx635_1
     replace hx635_2 := zHx HB.1 hx635_2
     replace hx635_3 := zHx HB.1 hx635_3
     replace hx635_4 := zHx HB.1 hx635_4
     go_wp2_with (first | ((with_reducible refine zBx 10 31 #[.int .i64 0, .int .i64 0, .int .i64 0, .int .i64 0, .int .i64 0] ?_); intro gb636 hg w95 hbox hb; replace HO_5 := zM (Kd.R_below (zR HO_5.1) hb); replace HO_6 := zM (Kd.S_below (zS HO_6.1) hb); have BK636 := zM hbox; have GW636 := zM (zW hg (below_size zB1)); have GE636 := zM (zW hg (below_size zB1)); replace HB := zM (below_step zB1 hb); have NB630_636 := zM ((zn BK630.1 hg : gb630 ≠ gb636)); have NB636_630 := zM ((zm BK630.1 hg : gb636 ≠ gb630)); replace BK630 := zM (zb BK630.1 hb); clear hb hbox hg; have hnb96 := NB636_630.1; have hnc96 := NB630_636.1; have hcz97 := zc_5 (w := w95) BK636.1; have hcz98 := zc_5 (w := w95) BK630.1) | (go_at_call 46; (with_reducible refine (impl_isCell.calls ((rd_T31 y631 x33_2).f2) true _ A26.1).mono ?_); rintro e w' ⟨rfl, ⟨nd, rfl⟩⟩) | (go_at_call 36; (with_reducible refine (impl_isSwap.calls ((rd_T31 y631 x33_2).f0) ((rd_T31 y631 x33_2).f1) ((rd_T31 y631 x33_2).f2) ((rd_T31 y631 x33_2).f3) ((rd_T31 y631 x33_2).f4) true _ A74.1).mono ?_); rintro e w99 ⟨rfl, hb⟩; replace HO_5 := zM (Kd.R_below (by refine zrR ?_; exact (Kd.R_mono (zfR (zfR (zfR (zfR (zfR (Kd.R_types HO_5.1 BK636.1 (by decide))))))) (fun _ h_ => h_.1))) hb); replace HO_6 := zM (Kd.S_below (by refine zrS ?_; exact (Kd.S_mono (zfS (zfS (zfS (zfS (zfS (Kd.S_types HO_6.1 BK636.1 (by decide))))))) (fun _ h_ => h_.1))) hb); replace BK630 := zM (zf BK630.1 hb); replace BK636 := zM (blk_below (g := gb636) (o := .cells #[.int .i64 ((rd_T31 y631 x33_2).f0), .int .i64 ((rd_T31 y631 x33_2).f1), .int .i64 ((rd_T31 y631 x33_2).f2), .int .i64 ((rd_T31 y631 x33_2).f3), .int .i64 ((rd_T31 y631 x33_2).f4)] 31 (0, 0)) (by exact zp5 (zK BK636.1)) hb); replace HB := zM (below_step zB1 hb); clear hb; have hcz100 := zc_5 (w := w99) BK630.1) | (go_at_call 36; (with_reducible refine (impl_isSwap.calls ((rd_T31 l1 x24_1).f0) ((rd_T31 l1 x24_1).f1) ((rd_T31 l1 x24_1).f2) ((rd_T31 l1 x24_1).f3) ((rd_T31 l1 x24_1).f4) false _ A76.1).mono ?_); rintro e w101 ⟨rfl, hb⟩; replace HO_5 := zM (Kd.R_below (zR HO_5.1) hb); replace HO_6 := zM (Kd.S_below (zS HO_6.1) hb); replace BK630 := zM (zb BK630.1 hb); replace BK636 := zM (zb BK636.1 hb); replace HB := zM (below_step zB1 hb); clear hb) | (go_at_call 43; (with_reducible refine (impl_knows.calls k2 _ _ t626 x33_2 x24_1 false _ ?side1 ?side2 A85.1).mono ?_); (case side1 => exact zC (Kd.S_reads' HO_6.1).2.2); (case side2 => exact (Kd.S_reads' HO_6.1).2.1); rintro e w' ⟨rfl, ⟨nd, rfl⟩⟩) | ((with_reducible refine gate_builtin (b := .append) (xs := #[.tmp 82, .tmp 86]) rfl ?_); at_builtin; refine Kd.R_append k44 (w0 := w) w.heap.size rfl (.tmp 82) (.tmp 86) 41 44 (.agg #[(.int .i64 0), (.int .i64 0)]) 16 rfl Try.underlying41 info44 rfl (by decide) (by omega) u5 x5_2 (⟨x33_2, x24_1⟩ : S44) [.int .i64 x33_2, .int .i64 x24_1] (fun _ => True) (fun _ => False) rfl rfl ?aP (fun _ hk => hk.elim) ?aF ?aO ?aB ?aS ?aL ?_; (case aP => exact k44_mkM _ _ _ (⟨x33_2, x24_1⟩ : S44)); (case aB => exact zB1); (case aF => exact (fun _ _ => trivial)); (case aO => exact (zR HO_5.1)); (case aS => exact (below_size zB1)); (case aL => have := LMc94.out; omega); intro v652 w102 ho hb hg hat; rw [← Ny651.1] at ho; replace HO_6 := zM (Kd.S_over' (zS HO_6.1) (Kd.R_typed (zR HO_5.1)) (by decide) hg); replace BK630 := zM (zg BK630.1 hg (Kd.R_ne HO_5.1 BK630.1 (by decide))); replace BK636 := zM (zg BK636.1 hg (Kd.R_ne HO_5.1 BK636.1 (by decide))); replace HB := zM hb; have HO653 := zM ho; clear HO_5; clear ho hb hg hat))
     go_roundg k2
     case measure => have := HK1.1; have := HK2.1; omega
     case rel => exact ⟨(y651), (wrap64 (x33_2 + 1)), zJJ, H', ⟨by have := HK1.1; have := HK2.1; omega⟩, ⟨zR HO653.1⟩, ⟨zS HO_6.1⟩, ⟨zK BK630.1⟩, ⟨zB1⟩⟩

/-! ### spec_l20Whos: function 38 -/
def spec_l20Whos.l0 : Nat → Int → List (S31) → Int → Option (Bool)
 | 0, _, _, _ => none
 | k + 1, x0, x1, x5 => if x5 < (x1.length : Int) then (if 0 ≤ x5 then ((spec_l1In.f ((rd_T31 x1 x5).f0) 0 (wrap64 (x0 - 1))).bind fun t659 => (if t659 = true then (spec_l20Whos.l0 k x0 x1 (wrap64 (x5 + 1))) else (some false))) else (none)) else ((spec_l1In.f x0 1 8).bind fun t660 => (some t660))
def spec_l20Whos.f (k : Nat) (a0 : Int) (l1 : List (S31)) : Option (Bool) := spec_l20Whos.l0 k a0 l1 0
theorem spec_l20Whos.mono_l : ∀ k, (∀ y0 y1 y2, LeO (spec_l20Whos.l0 k y0 y1 y2) (spec_l20Whos.l0 (k + 1) y0 y1 y2))
 | 0 => fun _ _ _ r h => by simp [spec_l20Whos.l0] at h
 | k + 1 => by
  have ih0 := spec_l20Whos.mono_l k
  ·intros
   unfold spec_l20Whos.l0
   exact zL
theorem spec_l20Whos.mono : ∀ a0 a1 k, LeO (spec_l20Whos.f k a0 a1) (spec_l20Whos.f (k + 1) a0 a1) := by
 intro a0 a1 k
 have ih0 := spec_l20Whos.mono_l k
 unfold spec_l20Whos.f
 exact zL
theorem spec_l20Whos.calls (k : Nat) (a0 : Int) (A1 : Option Addr) (c1 : Nat) (l1 : List (S31)) (r : Bool) (w : World) (hr1 : Kd.C k31 w A1 l1.length l1) (hc1 : l1.length ≤ c1) (h : spec_l20Whos.f k a0 l1 = some r) :
  Calls Try.prog 38 #[.int .i64 a0, .slice A1 l1.length c1] w fun e w' => e = .returned (.bool r) ∧ Drawn0 w w' := by
 have HR1 := zM hr1
 have HC1 := zM hc1
 clear hr1 hc1
 unfold spec_l20Whos.f at h
 have H := h
 clear h
 have H' := zM H
 clear H
 go_enter Try.func38, Try.ntmps38
 go_wp2
 go_loopg [5] k (fun kq v5 w' => ∃ (x5_1 : Int), v5 = .int .i64 x5_1 ∧ Aside0 (spec_l20Whos.l0 kq a0 l1 x5_1 = some r) ∧ Aside0 (kq ≤ k) ∧ Drawn0 w w')
 case atStart => exact ⟨(0), zJJ, H', ⟨Nat.le_refl _⟩, zDD⟩
 case round =>
  clear H'
  obtain ⟨x5_1, rfl, HA, HK1, ⟨m1, rfl⟩⟩ := hrel
  cases gk with
  | zero => exact absurd HA.1 (by simp [spec_l20Whos.l0])
  | succ k1 =>
   have H := HA.1
   clear HA
   simp only [spec_l20Whos.l0] at H
   by_cases c3 : x5_1 < (l1.length : Int)
   rotate_left
   ·rw [if_neg c3] at H
    have c3b0 := decide_eq_false c3
    clear c3
    replace H := zO H
    obtain ⟨t660, A7, H⟩ := H
    obtain rfl := Option.some.inj H
    go_wp2_with (first | ((with_reducible refine zG Try.func44 22 #[.int .i64 a0, .int .i64 1, .int .i64 8] ?_); (with_reducible refine (spec_l1In.calls a0 1 8 t660 _ A7.1).mono ?_); rintro e w' ⟨rfl, ⟨nd, rfl⟩⟩; refine ⟨_, rfl, ?_⟩))
    go_ret
    exact ⟨zJJ, zDD⟩
   rw [if_pos c3] at H
   have c3b0 := decide_eq_true c3
   clear c3
   replace H := zIt H
   obtain ⟨c4b0, H⟩ := H
   replace H := zO H
   obtain ⟨t659, A5, H⟩ := H
   by_cases c6 : t659 = true
   rotate_left
   ·replace c6 := Bool.eq_false_iff.mpr c6
    subst c6
    rw [if_neg zF] at H
    obtain rfl := Option.some.inj H
    obtain ⟨p658, q658, ad658, e658, hx658_0, hx658_1, hx658_2, hx658_3, hx658_4⟩ := zRd (at_T31 HR1.1 x5_1)
    cases e658
    go_wp2_with (first | ((with_reducible refine zG Try.func44 19 #[.int .i64 ((rd_T31 l1 x5_1).f0), .int .i64 0, .int .i64 (wrap64 (a0 - 1))] ?_); (with_reducible refine (spec_l1In.calls ((rd_T31 l1 x5_1).f0) 0 (wrap64 (a0 - 1)) false _ A5.1).mono ?_); rintro e w' ⟨rfl, ⟨nd, rfl⟩⟩; refine ⟨_, rfl, ?_⟩))
    go_ret
    exact ⟨zJJ, zDD⟩
   subst c6
   rw [if_pos rfl] at H
   have H' := zM H
   clear H
   obtain ⟨p658, q658, ad658, e658, hx658_0, hx658_1, hx658_2, hx658_3, hx658_4⟩ := zRd (at_T31 HR1.1 x5_1)
   cases e658
   go_wp2_with (first | ((with_reducible refine zG Try.func44 19 #[.int .i64 ((rd_T31 l1 x5_1).f0), .int .i64 0, .int .i64 (wrap64 (a0 - 1))] ?_); (with_reducible refine (spec_l1In.calls ((rd_T31 l1 x5_1).f0) 0 (wrap64 (a0 - 1)) true _ A5.1).mono ?_); rintro e w' ⟨rfl, ⟨nd, rfl⟩⟩; refine ⟨_, rfl, ?_⟩))
   go_roundg k1
   case measure => have := HK1.1; omega
   case rel => exact ⟨(wrap64 (x5_1 + 1)), zJJ, H', ⟨by have := HK1.1; omega⟩, zDD⟩

/-! ### spec_ClockNew: function 39 -/
def spec_ClockNew.f (a0 : Int) : Option (List Int) := (spec_l1In.f a0 1 8).bind fun t661 => (if t661 = true then (if 0 ≤ a0 then (if (a0 : Int).toNat ≤ 35184372088832 then (some (List.replicate (a0 : Int).toNat 0)) else (none)) else (none)) else (some (([] : List Int))))
theorem spec_ClockNew.calls (a0 : Int) (r : List Int) (w : World) (h : spec_ClockNew.f a0 = some r) :
  Calls Try.prog 39 #[.int .i64 a0] w fun e w' => ∃ v0_ : Value, e = .returned (v0_) ∧ Kd.R (Kd.int .i64) 3 w' w.heap.size (fun _ => True) v0_ r ∧ Below w.heap.size w w' := by
 have HB := zM (Below.refl w.heap.size w)
 unfold spec_ClockNew.f at h
 have H := h
 clear h
 replace H := zO H
 obtain ⟨t661, A2, H⟩ := H
 by_cases c3 : t661 = true
 rotate_left
 ·replace c3 := Bool.eq_false_iff.mpr c3
  subst c3
  rw [if_neg zF] at H
  generalize hy665 : ((([] : List Int)) : List Int) = y665 at H
  have Ny665 := zM hy665.symm
  clear hy665
  obtain rfl := Option.some.inj H
  go_enter Try.func39, Try.ntmps39
  go_wp2_with (first | ((with_reducible refine zG Try.func44 4 #[.int .i64 a0, .int .i64 1, .int .i64 8] ?_); (with_reducible refine (spec_l1In.calls a0 1 8 false _ A2.1).mono ?_); rintro e w' ⟨rfl, ⟨nd, rfl⟩⟩; refine ⟨_, rfl, ?_⟩) | ((with_reducible refine gate_dst (N := 6) rfl ?_); refine Kd.R_lit (Kd.int .i64) _ 3 ?hg (N := 6) ?hd (xs := ([] : List Int)) (inner := []) (ok := fun _ => True) (okp := fun _ => True) ?hr ?hp (fun _ hk => hk) trivial (Below.refl _ _) (Nat.le_refl _) (by simp) ?_; (case hd => rfl); (case hg => rfl); (case hr => exact zHH); (case hp => exact (Reps.none _ _)); intro v666 w8 ho9 hb hg_ hnew_; clear hg_ hnew_; (first | rw [← Ny665.1] at ho9 | (simp only [Int.reduceToNat] at ho9; rw [← Ny665.1] at ho9)); have HO667 := zM (Kd.R_lower ho9 (below_size zB1)); replace HB := zM (below_step zB1 hb); clear hb ho9))
  go_ret
  exact ⟨_, zE, zR HO667.1, zB1⟩
 subst c3
 rw [if_pos rfl] at H
 replace H := zIp H
 obtain ⟨c4, H⟩ := H
 have c4b0 := eq_true c4
 have c4b1 : decide (0 ≤ a0) = true := decide_eq_true c4
 clear c4
 replace H := zIp H
 obtain ⟨c5, H⟩ := H
 have c5b0 := eq_true c5
 have c5b1 : decide ((a0 : Int).toNat ≤ 35184372088832) = true := decide_eq_true c5
 clear c5
 generalize hy662 : ((List.replicate (a0 : Int).toNat 0) : List Int) = y662 at H
 have Ny662 := zM hy662.symm
 clear hy662
 obtain rfl := Option.some.inj H
 go_enter Try.func39, Try.ntmps39
 go_wp2_with (first | ((with_reducible refine zG Try.func44 4 #[.int .i64 a0, .int .i64 1, .int .i64 8] ?_); (with_reducible refine (spec_l1In.calls a0 1 8 true _ A2.1).mono ?_); rintro e w' ⟨rfl, ⟨nd, rfl⟩⟩; refine ⟨_, rfl, ?_⟩) | ((with_reducible refine gate_dst (N := 8) rfl ?_); refine Kd.R_make (Kd.int .i64) _ 3 rfl (N := 8) rfl 29 _ _ rfl a0 rfl rfl Try.underlying29 (.int .i64 0) 8 info3 rfl (by decide) (by omega) 0 (ok := fun _ => True) (okp := fun _ => True) rfl (fun _ hk => hk) trivial zA (Nat.le_trans (Nat.mul_le_mul_right _ (zA : a0.toNat ≤ 35184372088832)) (by omega)) (Below.refl _ _) (Nat.le_refl _) ?_; intro v663 w6 ho7 hb hg_ hnew_; clear hg_ hnew_; (first | rw [← Ny662.1] at ho7 | (simp only [Int.reduceToNat] at ho7; rw [← Ny662.1] at ho7)); have HO664 := zM (Kd.R_lower ho7 (below_size zB1)); replace HB := zM (below_step zB1 hb); clear hb ho7))
 go_ret
 exact ⟨_, zE, zR HO664.1, zB1⟩

end Go.Proofs.Ytgbjengnkbomoaa.PFnRaces
