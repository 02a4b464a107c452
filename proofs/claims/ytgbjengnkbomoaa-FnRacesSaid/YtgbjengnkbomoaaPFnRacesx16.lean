-- made by wip/tools/myprint.py out of the seat's translation
import Derived.Test.YtgbjengnkbomoaaPFnRacesx0
import Derived.Test.YtgbjengnkbomoaaPFnRacesx14
import Derived.Test.YtgbjengnkbomoaaPFnRacesx15
namespace Go.Proofs.Ytgbjengnkbomoaa.PFnRaces
open Go.RowKit Go.Proofs.YtgbjengnkbomoaaW.PrintWords Go.Proofs.YtgbjengnkbomoaaW.PrintLast Go.Proofs.YtgbjengnkbomoaaW.PrintMore
attribute [local go_sem] max2_int min2_int max_two min_two max_three min_three max_four min_four   -- for this text's walks alone
set_option linter.unusedVariables false
set_option linter.unusedSimpArgs false
set_option maxHeartbeats 8000000
set_option maxRecDepth 100000
abbrev zq16_0 : Array Bool := #[false, false, false, false, false, false, false, false, false, false, false, false, false, false, false, false, false, false, false, false, false]

/-! ### spec_Races: function 20 -/
mutual
def spec_Races.l0 : Nat → List (S31) → List (S44) → List (List Int) → Int → Option ((List (S44)))
 | 0, _, _, _, _ => none
 | k + 1, x1, x5, x6, x7 => if x7 < (x6.length : Int) then (spec_Races.l1 k x1 x5 x6 x7 0) else (some x5)
def spec_Races.l1 : Nat → List (S31) → List (S44) → List (List Int) → Int → Int → Option ((List (S44)))
 | 0, _, _, _, _, _ => none
 | k + 1, x1, x5, x6, x7, x8 => if x8 < x7 then (if 0 ≤ x8 then (if x8 < (x1.length : Int) then (if 0 ≤ x7 then (if x7 < (x1.length : Int) then ((spec_l20Meet.f ((rd_T31 x1 x8).f0) ((rd_T31 x1 x8).f1) ((rd_T31 x1 x8).f2) ((rd_T31 x1 x8).f3) ((rd_T31 x1 x8).f4) ((rd_T31 x1 x7).f0) ((rd_T31 x1 x7).f1) ((rd_T31 x1 x7).f2) ((rd_T31 x1 x7).f3) ((rd_T31 x1 x7).f4)).bind fun t756 => (if t756 = true then (if x8 < (x6.length : Int) then (if x7 < (x6.length : Int) then ((spec_ClockWithin.f k (rd_L3 x6 x8) (rd_L3 x6 x7)).bind fun t759 => (if t759 = true then (spec_Races.l1 k x1 x5 x6 x7 (wrap64 (x8 + 1))) else (if x5.length < 8796093022208 then (spec_Races.l1 k x1 (x5 ++ [(⟨x8, x7⟩ : S44)]) x6 x7 (wrap64 (x8 + 1))) else (none)))) else (none)) else (none)) else (spec_Races.l1 k x1 x5 x6 x7 (wrap64 (x8 + 1))))) else (none)) else (none)) else (none)) else (none)) else (spec_Races.l0 k x1 x5 x6 (wrap64 (x7 + 1)))
end
def spec_Races.f (k : Nat) (a0 : Int) (l1 : List (S31)) : Option ((List (S44))) := (spec_Clocks.f k a0 l1).bind fun t751 => (spec_Races.l0 k l1 (([] : List (S44))) t751 0)
theorem spec_Races.mono_l : ∀ k, (∀ y0 y1 y2 y3, LeO (spec_Races.l0 k y0 y1 y2 y3) (spec_Races.l0 (k + 1) y0 y1 y2 y3)) ∧ (∀ y0 y1 y2 y3 y4, LeO (spec_Races.l1 k y0 y1 y2 y3 y4) (spec_Races.l1 (k + 1) y0 y1 y2 y3 y4))
 | 0 => ⟨fun _ _ _ _ r h => by simp [spec_Races.l0] at h, fun _ _ _ _ _ r h => by simp [spec_Races.l1] at h⟩
 | k + 1 => by
  obtain ⟨ih0, ih1⟩ := spec_Races.mono_l k
  refine ⟨?_, ?_⟩
  ·intros
   unfold spec_Races.l0
   have mo0 := @spec_ClockWithin.mono
   have mo1 := @spec_Clocks.mono
   exact zL
  ·intros
   unfold spec_Races.l1
   have mo0 := @spec_ClockWithin.mono
   have mo1 := @spec_Clocks.mono
   exact zL
theorem spec_Races.mono : ∀ a0 a1 k, LeO (spec_Races.f k a0 a1) (spec_Races.f (k + 1) a0 a1) := by
 intro a0 a1 k
 obtain ⟨ih0, ih1⟩ := spec_Races.mono_l k
 unfold spec_Races.f
 have mo0 := @spec_ClockWithin.mono
 have mo1 := @spec_Clocks.mono
 exact zL
def spec_Races.T9 : Bool × List (List Nat × List Nat) := (true, [([], []), ([], []), ([0, 1], [0, 1]), ([2], [2]), ([], []), ([], []), ([4, 5], [4, 5]), ([6], [6]), ([3, 7], [3, 7]), ([8, 8], [8]), ([9], [9]), ([9], [9]), ([10, 11, 9], [9, 10, 11]), ([12, 9], [9, 12]), ([9], [9]), ([9], [9]), ([14, 15, 9], [9, 14, 15]), ([16, 9], [9, 16]), ([13, 17, 9, 9], [9, 13, 17]), ([18, 9], [9, 18]), ([9, 19], [9, 19])])
def spec_Races.B9 : List Nat := [0, 0, 3, 7, 0, 0, 48, 112, 255, 511, 1023, 1023, 4095, 8191, 1023, 1023, 50175, 115711, 262143, 524287, 1048575]
theorem spec_Races.tab9 : rtab .any (opsOf Try.f20 9) = spec_Races.T9 := by kernel_rfl
theorem spec_Races.bits9 : waitsOk spec_Races.T9.2 spec_Races.B9 = true := by kernel_rfl
abbrev zS0_16 := fun (ad754 : Addr) (x8_2 : Int) l1 (x7_1 : Int) (ad757 : Addr) (A757_0 : Option Addr) t751 (c757_0 : Nat) (A758_0 : Option Addr) (c758_0 : Nat) (w' : World) => (w'.cell? (ad754.add ((x8_2).toNat * 5)) = some (.int .i64 ((rd_T31 l1 x8_2).f0)) ∧ w'.cell? ⟨(ad754.add ((x8_2).toNat * 5)).block, (ad754.add ((x8_2).toNat * 5)).off + 1, none⟩ = some (.int .i64 ((rd_T31 l1 x8_2).f1)) ∧ w'.cell? ⟨(ad754.add ((x8_2).toNat * 5)).block, (ad754.add ((x8_2).toNat * 5)).off + 2, none⟩ = some (.int .i64 ((rd_T31 l1 x8_2).f2)) ∧ w'.cell? ⟨(ad754.add ((x8_2).toNat * 5)).block, (ad754.add ((x8_2).toNat * 5)).off + 3, none⟩ = some (.int .i64 ((rd_T31 l1 x8_2).f3)) ∧ w'.cell? ⟨(ad754.add ((x8_2).toNat * 5)).block, (ad754.add ((x8_2).toNat * 5)).off + 4, none⟩ = some (.int .i64 ((rd_T31 l1 x8_2).f4)) ∧ w'.cell? (ad754.add ((x7_1).toNat * 5)) = some (.int .i64 ((rd_T31 l1 x7_1).f0)) ∧ w'.cell? ⟨(ad754.add ((x7_1).toNat * 5)).block, (ad754.add ((x7_1).toNat * 5)).off + 1, none⟩ = some (.int .i64 ((rd_T31 l1 x7_1).f1)) ∧ w'.cell? ⟨(ad754.add ((x7_1).toNat * 5)).block, (ad754.add ((x7_1).toNat * 5)).off + 2, none⟩ = some (.int .i64 ((rd_T31 l1 x7_1).f2)) ∧ w'.cell? ⟨(ad754.add ((x7_1).toNat * 5)).block, (ad754.add ((x7_1).toNat * 5)).off + 3, none⟩ = some (.int .i64 ((rd_T31 l1 x7_1).f3)) ∧ w'.cell? ⟨(ad754.add ((x7_1).toNat * 5)).block, (ad754.add ((x7_1).toNat * 5)).off + 4, none⟩ = some (.int .i64 ((rd_T31 l1 x7_1).f4)) ∧ w'.cell? (ad757.add (x8_2).toNat) = some (.slice A757_0 (rd_L3 t751 x8_2).length c757_0) ∧ w'.cell? (ad757.add (x7_1).toNat) = some (.slice A758_0 (rd_L3 t751 x7_1).length c758_0))
theorem spec_Races.calls (k : Nat) (a0 : Int) (A1 : Option Addr) (c1 : Nat) (l1 : List (S31)) (r : List (S44)) (w : World) (hr1 : Kd.C k31 w A1 l1.length l1) (hc1 : l1.length ≤ c1) (h : spec_Races.f k a0 l1 = some r) :
  Calls Try.prog 20 #[.int .i64 a0, .slice A1 l1.length c1] w fun e w' => ∃ v0_ : Value, e = .returned (v0_) ∧ Kd.R k44 44 w' w.heap.size (fun _ => True) v0_ r ∧ Below w.heap.size w w' := by
 have hu31 := Try.underlying31
 have hu44 := Try.underlying44
 have HR1 := zM hr1
 have HC1 := zM hc1
 clear hr1 hc1
 have HB := zM (Below.refl w.heap.size w)
 unfold spec_Races.f at h
 have H := h
 clear h
 generalize hy748 : ((([] : List (S44))) : List (S44)) = y748 at H
 have Ny748 := zM hy748.symm
 clear hy748
 replace H := zO H
 obtain ⟨t751, A3, H⟩ := H
 have H' := zM H
 clear H
 go_enter Try.func20, Try.ntmps20
 go_wp2_with (first | ((with_reducible refine gate_dst (N := 9) rfl ?_); refine Kd.R_lit k44 _ 44 ?hg (N := 9) ?hd (xs := ([] : List (S44))) (inner := []) (ok := fun _ => True) (okp := fun _ => True) ?hr ?hp (fun _ hk => hk) trivial (Below.refl _ _) (Nat.le_refl _) (by simp) ?_; (case hd => rfl); (case hg => rfl); (case hr => exact zHH); (case hp => exact (Reps.none _ _)); intro v749 w4 ho5 hb hg_ hnew_; clear hg_ hnew_; (first | rw [← Ny748.1] at ho5 | (simp only [Int.reduceToNat] at ho5; rw [← Ny748.1] at ho5)); have HO750 := zM (Kd.R_lower ho5 (below_size zB1)); replace HB := zM (below_step zB1 hb); clear hb ho5) | ((with_reducible refine zG Try.func13 12 #[.int .i64 a0, .slice A1 l1.length c1] ?_); (with_reducible refine (spec_Clocks.calls k a0 _ _ l1 t751 _ ?side1 ?side2 A3.1).mono ?_); (case side1 => exact zC (Kd.C_below HR1.1 HB.1)); (case side2 => exact HC1.1); rintro e w6 ⟨v752, rfl, ho0, hb⟩; refine ⟨_, rfl, ?_⟩; replace HO750 := zM (Kd.R_below (zR HO750.1) hb); have HO753 := zM (Kd.S_lower ho0 (below_size zB1)); replace HB := zM (below_step zB1 hb); clear hb ho0))
 go_loopg [5, 7] k (fun kq v5 v7 w' => ∃ (x5_1 : List (S44)) (x7_1 : Int), v7 = .int .i64 x7_1 ∧ Aside0 (spec_Races.l0 kq l1 x5_1 t751 x7_1 = some r) ∧ Aside0 (kq ≤ k) ∧ Aside0 (Kd.R k44 44 w' w.heap.size (fun _ => True) v5 x5_1) ∧ Aside0 (Kd.S (Kd.slice 3 (Kd.int .i64)) 29 w' w.heap.size (fun _ => True) v752 t751) ∧ Aside0 (Below w.heap.size w w'))
 case atStart => exact ⟨(y748), (0), zJJ, H', ⟨Nat.le_refl _⟩, ⟨zR HO750.1⟩, ⟨zS HO753.1⟩, ⟨zB1⟩⟩
 case round =>
  clear H'
  obtain ⟨x5_1, x7_1, rfl, HA, HK1, HO_5, HO_6, HB⟩ := hrel
  cases gk with
  | zero => exact absurd HA.1 (by simp [spec_Races.l0])
  | succ k1 =>
   have H := HA.1
   clear HA
   simp only [spec_Races.l0] at H
   by_cases c7 : x7_1 < (t751.length : Int)
   rotate_left
   ·rw [if_neg c7] at H
    have c7b0 := decide_eq_false c7
    clear c7
    obtain rfl := Option.some.inj H
    obtain ⟨Ao28, co28, eo28⟩ := Kd.S_slice HO_6.1
    subst eo28
    go_wp2
    go_ret
    exact ⟨_, zE, zR HO_5.1, zB1⟩
   rw [if_pos c7] at H
   have c7b0 := decide_eq_true c7
   clear c7
   have H' := zM H
   clear H
   obtain ⟨Ao8, co8, eo8⟩ := Kd.S_slice HO_6.1
   subst eo8
   go_wp2
   go_loopg [5, 8] k1 (fun kq v5 v8 w' => ∃ (x5_2 : List (S44)) (x8_2 : Int), v8 = .int .i64 x8_2 ∧ Aside0 (spec_Races.l1 kq l1 x5_2 t751 x7_1 x8_2 = some r) ∧ Aside0 (kq ≤ k1) ∧ Aside0 (Kd.R k44 44 w' w.heap.size (fun _ => True) v5 x5_2) ∧ Aside0 (Kd.S (Kd.slice 3 (Kd.int .i64)) 29 w' w.heap.size (fun _ => True) (.slice Ao8 t751.length co8) t751) ∧ Aside0 (Below w.heap.size w w'))
   case atStart => exact ⟨(x5_1), (0), zJJ, H', ⟨Nat.le_refl _⟩, ⟨zR HO_5.1⟩, ⟨zS HO_6.1⟩, ⟨zB1⟩⟩
   case round =>
    clear H'
    obtain ⟨x5_2, x8_2, rfl, HA, HK2, HO_5, HO_6, HB⟩ := hrel
    cases gk with
    | zero => exact absurd HA.1 (by simp [spec_Races.l1])
    | succ k2 =>
     have H := HA.1
     clear HA
     simp only [spec_Races.l1] at H
     by_cases c9 : x8_2 < x7_1
     rotate_left
     ·rw [if_neg c9] at H
      have c9b0 := decide_eq_false c9
      clear c9
      have H' := zM H
      clear H
      go_wp2
      go_roundg k2
      case measure => have := HK1.1; have := HK2.1; omega
      case rel => exact ⟨(x5_2), (wrap64 (x7_1 + 1)), zJJ, H', ⟨by have := HK1.1; have := HK2.1; omega⟩, ⟨zR HO_5.1⟩, ⟨zS HO_6.1⟩, ⟨zB1⟩⟩
     rw [if_pos c9] at H
     have c9b0 := decide_eq_true c9
     clear c9
     replace H := zIt H
     obtain ⟨c10b0, H⟩ := H
     replace H := zIt H
     obtain ⟨c11b0, H⟩ := H
     replace H := zIt H
     obtain ⟨c12b0, H⟩ := H
     replace H := zIt H
     obtain ⟨c13b0, H⟩ := H
     replace H := zO H
     obtain ⟨t756, A14, H⟩ := H
     by_cases c15 : t756 = true
     rotate_left
     ·replace c15 := Bool.eq_false_iff.mpr c15
      subst c15
      rw [if_neg zF] at H
      have H' := zM H
      clear H
      try go_wp2
      replace HO_5 := zM (Kd.R_drew HO_5.1)
      replace HO_6 := zM (Kd.S_drew HO_6.1)
      replace HB := zM (below_drew1 HB.1)
      obtain ⟨p754, q754, ad754, e754, hx754_0, hx754_1, hx754_2, hx754_3, hx754_4⟩ := zRd (at_T31 HR1.1 x8_2)
      have hw754_4 := hx754_4
      have hw754_3 := hx754_3
      have hw754_2 := hx754_2
      have hw754_1 := hx754_1
      have hw754_0 := hx754_0
      cases e754
      replace hx754_0 := zHx HB.1 hx754_0
      replace hx754_1 := zHx HB.1 hx754_1
      replace hx754_2 := zHx HB.1 hx754_2
      replace hx754_3 := zHx HB.1 hx754_3
      replace hx754_4 := zHx HB.1 hx754_4
      obtain ⟨p755, q755, ad755, e755, hx755_0, hx755_1, hx755_2, hx755_3, hx755_4⟩ := zRd (at_T31 HR1.1 x7_1)
      have hw755_4 := hx755_4
      have hw755_3 := hx755_3
      have hw755_2 := hx755_2
      have hw755_1 := hx755_1
      have hw755_0 := hx755_0
      obtain rfl : ad754 = ad755 := (by injection e755)
      replace hx755_0 := zHx HB.1 hx755_0
      replace hx755_1 := zHx HB.1 hx755_1
      replace hx755_2 := zHx HB.1 hx755_2
      replace hx755_3 := zHx HB.1 hx755_3
      replace hx755_4 := zHx HB.1 hx755_4
      refine start_ (n := 21) (S := fun w' => w'.cell? (ad754.add ((x8_2).toNat * 5)) = some (.int .i64 ((rd_T31 l1 x8_2).f0)) ∧ w'.cell? ⟨(ad754.add ((x8_2).toNat * 5)).block, (ad754.add ((x8_2).toNat * 5)).off + 1, none⟩ = some (.int .i64 ((rd_T31 l1 x8_2).f1)) ∧ w'.cell? ⟨(ad754.add ((x8_2).toNat * 5)).block, (ad754.add ((x8_2).toNat * 5)).off + 2, none⟩ = some (.int .i64 ((rd_T31 l1 x8_2).f2)) ∧ w'.cell? ⟨(ad754.add ((x8_2).toNat * 5)).block, (ad754.add ((x8_2).toNat * 5)).off + 3, none⟩ = some (.int .i64 ((rd_T31 l1 x8_2).f3)) ∧ w'.cell? ⟨(ad754.add ((x8_2).toNat * 5)).block, (ad754.add ((x8_2).toNat * 5)).off + 4, none⟩ = some (.int .i64 ((rd_T31 l1 x8_2).f4)) ∧ w'.cell? (ad754.add ((x7_1).toNat * 5)) = some (.int .i64 ((rd_T31 l1 x7_1).f0)) ∧ w'.cell? ⟨(ad754.add ((x7_1).toNat * 5)).block, (ad754.add ((x7_1).toNat * 5)).off + 1, none⟩ = some (.int .i64 ((rd_T31 l1 x7_1).f1)) ∧ w'.cell? ⟨(ad754.add ((x7_1).toNat * 5)).block, (ad754.add ((x7_1).toNat * 5)).off + 2, none⟩ = some (.int .i64 ((rd_T31 l1 x7_1).f2)) ∧ w'.cell? ⟨(ad754.add ((x7_1).toNat * 5)).block, (ad754.add ((x7_1).toNat * 5)).off + 3, none⟩ = some (.int .i64 ((rd_T31 l1 x7_1).f3)) ∧ w'.cell? ⟨(ad754.add ((x7_1).toNat * 5)).block, (ad754.add ((x7_1).toNat * 5)).off + 4, none⟩ = some (.int .i64 ((rd_T31 l1 x7_1).f4))) (ds := []) zq16_0 (by kernel_rfl) rfl rfl ⟨((HB.1.cell (World.block_lt_of_cell? w _ hw754_0)).trans hw754_0), ((HB.1.cell (World.block_lt_of_cell? w _ hw754_1)).trans hw754_1), ((HB.1.cell (World.block_lt_of_cell? w _ hw754_2)).trans hw754_2), ((HB.1.cell (World.block_lt_of_cell? w _ hw754_3)).trans hw754_3), ((HB.1.cell (World.block_lt_of_cell? w _ hw754_4)).trans hw754_4), ((HB.1.cell (World.block_lt_of_cell? w _ hw755_0)).trans hw755_0), ((HB.1.cell (World.block_lt_of_cell? w _ hw755_1)).trans hw755_1), ((HB.1.cell (World.block_lt_of_cell? w _ hw755_2)).trans hw755_2), ((HB.1.cell (World.block_lt_of_cell? w _ hw755_3)).trans hw755_3), ((HB.1.cell (World.block_lt_of_cell? w _ hw755_4)).trans hw755_4)⟩ (fun hHeld => ?_); refine with_tabW spec_Races.tab9 spec_Races.bits9 (fun HT_ HW_ => ?_)
      generalize wr.drew = w26 at HO_5 HO_6 HB hx754_0 hx754_1 hx754_2 hx754_3 hx754_4 hx755_0 hx755_1 hx755_2 hx755_3 hx755_4 hHeld ⊢
      refine zPu 0 ?_
      refine zPu 1 ?_
      refine zPu 2 ?_
      refine zPu 4 ?_
      refine zPu 5 ?_
      refine zPu 6 ?_
      refine zTk10 3 hHeld ?_
      refine zTk10 7 hHeld ?_
      refine zOn 8 (some 32) fun K hK => ?_
      refine zGs Try.func47 #[.agg #[.int .i64 ((rd_T31 l1 x8_2).f0), .int .i64 ((rd_T31 l1 x8_2).f1), .int .i64 ((rd_T31 l1 x8_2).f2), .int .i64 ((rd_T31 l1 x8_2).f3), .int .i64 ((rd_T31 l1 x8_2).f4)], .agg #[.int .i64 ((rd_T31 l1 x7_1).f0), .int .i64 ((rd_T31 l1 x7_1).f1), .int .i64 ((rd_T31 l1 x7_1).f2), .int .i64 ((rd_T31 l1 x7_1).f3), .int .i64 ((rd_T31 l1 x7_1).f4)]] ?_
      with_reducible refine (spec_l20Meet.calls ((rd_T31 l1 x8_2).f0) ((rd_T31 l1 x8_2).f1) ((rd_T31 l1 x8_2).f2) ((rd_T31 l1 x8_2).f3) ((rd_T31 l1 x8_2).f4) ((rd_T31 l1 x7_1).f0) ((rd_T31 l1 x7_1).f1) ((rd_T31 l1 x7_1).f2) ((rd_T31 l1 x7_1).f3) ((rd_T31 l1 x7_1).f4) false _ A14.1).mono ?_
      rintro e w27 ⟨rfl, hb⟩
      refine ⟨_, rfl, ?_⟩
      replace HO_5 := zM (Kd.R_below (zR HO_5.1) hb)
      replace HO_6 := zM (Kd.S_below (zS HO_6.1) hb)
      replace HB := zM (below_step zB1 hb)
      refine hK.out _ _ ⟨((HB.1.cell (World.block_lt_of_cell? w _ hw754_0)).trans hw754_0), ((HB.1.cell (World.block_lt_of_cell? w _ hw754_1)).trans hw754_1), ((HB.1.cell (World.block_lt_of_cell? w _ hw754_2)).trans hw754_2), ((HB.1.cell (World.block_lt_of_cell? w _ hw754_3)).trans hw754_3), ((HB.1.cell (World.block_lt_of_cell? w _ hw754_4)).trans hw754_4), ((HB.1.cell (World.block_lt_of_cell? w _ hw755_0)).trans hw755_0), ((HB.1.cell (World.block_lt_of_cell? w _ hw755_1)).trans hw755_1), ((HB.1.cell (World.block_lt_of_cell? w _ hw755_2)).trans hw755_2), ((HB.1.cell (World.block_lt_of_cell? w _ hw755_3)).trans hw755_3), ((HB.1.cell (World.block_lt_of_cell? w _ hw755_4)).trans hw755_4)⟩ (fun hHeld => ?_)
      clear hK K
      refine zNo ?_
      refine zPu 9 ?_
      refine zPn 10 ?_
      refine zPn 11 ?_
      refine zPn 12 ?_
      refine zPn 13 ?_
      refine zPn 14 ?_
      refine zPn 15 ?_
      refine zPn 16 ?_
      refine zPn 17 ?_
      refine zPn 18 ?_
      refine zPn 19 ?_
      refine zPu 20 ?_
      refine done_ (done_of HT_.1 (by kernel_rfl)) ?_
      try go_wp2
      go_roundg k2
      case measure => have := HK1.1; have := HK2.1; omega
      case rel => exact ⟨(x5_2), (wrap64 (x8_2 + 1)), zJJ, H', ⟨by have := HK1.1; have := HK2.1; omega⟩, ⟨zR HO_5.1⟩, ⟨zS HO_6.1⟩, ⟨zB1⟩⟩
     subst c15
     rw [if_pos rfl] at H
     replace H := zIt H
     obtain ⟨c16b0, H⟩ := H
     replace H := zIt H
     obtain ⟨c17b0, H⟩ := H
     replace H := zO H
     obtain ⟨t759, A18, H⟩ := H
     by_cases c19 : t759 = true
     ·subst c19
      rw [if_pos rfl] at H
      have H' := zM H
      clear H
      try go_wp2
      replace HO_5 := zM (Kd.R_drew HO_5.1)
      replace HO_6 := zM (Kd.S_drew HO_6.1)
      replace HB := zM (below_drew1 HB.1)
      obtain ⟨p754, q754, ad754, e754, hx754_0, hx754_1, hx754_2, hx754_3, hx754_4⟩ := zRd (at_T31 HR1.1 x8_2)
      have hw754_4 := hx754_4
      have hw754_3 := hx754_3
      have hw754_2 := hx754_2
      have hw754_1 := hx754_1
      have hw754_0 := hx754_0
      cases e754
      replace hx754_0 := zHx HB.1 hx754_0
      replace hx754_1 := zHx HB.1 hx754_1
      replace hx754_2 := zHx HB.1 hx754_2
      replace hx754_3 := zHx HB.1 hx754_3
      replace hx754_4 := zHx HB.1 hx754_4
      obtain ⟨p755, q755, ad755, e755, hx755_0, hx755_1, hx755_2, hx755_3, hx755_4⟩ := zRd (at_T31 HR1.1 x7_1)
      have hw755_4 := hx755_4
      have hw755_3 := hx755_3
      have hw755_2 := hx755_2
      have hw755_1 := hx755_1
      have hw755_0 := hx755_0
      obtain rfl : ad754 = ad755 := (by injection e755)
      replace hx755_0 := zHx HB.1 hx755_0
      replace hx755_1 := zHx HB.1 hx755_1
      replace hx755_2 := zHx HB.1 hx755_2
      replace hx755_3 := zHx HB.1 hx755_3
      replace hx755_4 := zHx HB.1 hx755_4
      obtain ⟨p757, q757, ad757, A757_0, c757_0, e757, hx757_0, hl757_0, hi757_0⟩ := zRd (at_L3 (Kd.S_reads' HO_6.1).2.2 x8_2)
      cases e757
      obtain ⟨ce757, hce757, hMe757, hcc757⟩ := Kd.S_get HO_6.1 [] x8_2 zA (by first | exact zA | (have e_ := (Kd.S_reads' HO_6.1).1; omega))
      obtain ⟨ve757_0, rfl, ge757_0⟩ := hMe757
      have hv757_0 := hcc757 0 _ rfl
      rw [Nat.add_zero, show ((Kd.slice 3 (Kd.int .i64))).sz = 1 from rfl, Nat.mul_one] at hv757_0
      replace hv757_0 := Option.some.inj (hv757_0.symm.trans hx757_0)
      rw [hv757_0] at ge757_0
      have HL757_0 := zM (show Kd.R (Kd.int .i64) 3 _ _ _ _ (rd_L3 t751 x8_2) from ge757_0)
      clear hv757_0 ge757_0 hcc757 hce757
      have HR757_0 := zM hi757_0
      have HC757_0 := zM hl757_0
      clear hi757_0 hl757_0
      obtain ⟨p758, q758, ad758, A758_0, c758_0, e758, hx758_0, hl758_0, hi758_0⟩ := zRd (at_L3 (Kd.S_reads' HO_6.1).2.2 x7_1)
      obtain rfl : ad757 = ad758 := (by injection e758)
      obtain ⟨ce758, hce758, hMe758, hcc758⟩ := Kd.S_get HO_6.1 [] x7_1 zA (by first | exact zA | (have e_ := (Kd.S_reads' HO_6.1).1; omega))
      obtain ⟨ve758_0, rfl, ge758_0⟩ := hMe758
      have hv758_0 := hcc758 0 _ rfl
      rw [Nat.add_zero, show ((Kd.slice 3 (Kd.int .i64))).sz = 1 from rfl, Nat.mul_one] at hv758_0
      replace hv758_0 := Option.some.inj (hv758_0.symm.trans hx758_0)
      rw [hv758_0] at ge758_0
      have HL758_0 := zM (show Kd.R (Kd.int .i64) 3 _ _ _ _ (rd_L3 t751 x7_1) from ge758_0)
      clear hv758_0 ge758_0 hcc758 hce758
      have HR758_0 := zM hi758_0
      have HC758_0 := zM hl758_0
      clear hi758_0 hl758_0
      refine start_ (n := 21) (S := zS0_16 ad754 x8_2 l1 x7_1 ad757 A757_0 t751 c757_0 A758_0 c758_0) (ds := []) zq16_0 (by kernel_rfl) rfl rfl ⟨((HB.1.cell (World.block_lt_of_cell? w _ hw754_0)).trans hw754_0), ((HB.1.cell (World.block_lt_of_cell? w _ hw754_1)).trans hw754_1), ((HB.1.cell (World.block_lt_of_cell? w _ hw754_2)).trans hw754_2), ((HB.1.cell (World.block_lt_of_cell? w _ hw754_3)).trans hw754_3), ((HB.1.cell (World.block_lt_of_cell? w _ hw754_4)).trans hw754_4), ((HB.1.cell (World.block_lt_of_cell? w _ hw755_0)).trans hw755_0), ((HB.1.cell (World.block_lt_of_cell? w _ hw755_1)).trans hw755_1), ((HB.1.cell (World.block_lt_of_cell? w _ hw755_2)).trans hw755_2), ((HB.1.cell (World.block_lt_of_cell? w _ hw755_3)).trans hw755_3), ((HB.1.cell (World.block_lt_of_cell? w _ hw755_4)).trans hw755_4), hx757_0, hx758_0⟩ (fun hHeld => ?_); refine with_tabW spec_Races.tab9 spec_Races.bits9 (fun HT_ HW_ => ?_)
      generalize wr.drew = w20 at HO_5 HO_6 HB HL757_0 HL758_0 HR757_0 HR758_0 hx754_0 hx754_1 hx754_2 hx754_3 hx754_4 hx755_0 hx755_1 hx755_2 hx755_3 hx755_4 hx757_0 hx758_0 hHeld ⊢
      refine zPu 0 ?_
      refine zPu 1 ?_
      refine zPu 2 ?_
      refine zPu 4 ?_
      refine zPu 5 ?_
      refine zPu 6 ?_
      refine zTk12 3 hHeld ?_
      refine zTk12 7 hHeld ?_
      refine zOn 8 (some 32) fun K hK => ?_
      refine zGs Try.func47 #[.agg #[.int .i64 ((rd_T31 l1 x8_2).f0), .int .i64 ((rd_T31 l1 x8_2).f1), .int .i64 ((rd_T31 l1 x8_2).f2), .int .i64 ((rd_T31 l1 x8_2).f3), .int .i64 ((rd_T31 l1 x8_2).f4)], .agg #[.int .i64 ((rd_T31 l1 x7_1).f0), .int .i64 ((rd_T31 l1 x7_1).f1), .int .i64 ((rd_T31 l1 x7_1).f2), .int .i64 ((rd_T31 l1 x7_1).f3), .int .i64 ((rd_T31 l1 x7_1).f4)]] ?_
      with_reducible refine (spec_l20Meet.calls ((rd_T31 l1 x8_2).f0) ((rd_T31 l1 x8_2).f1) ((rd_T31 l1 x8_2).f2) ((rd_T31 l1 x8_2).f3) ((rd_T31 l1 x8_2).f4) ((rd_T31 l1 x7_1).f0) ((rd_T31 l1 x7_1).f1) ((rd_T31 l1 x7_1).f2) ((rd_T31 l1 x7_1).f3) ((rd_T31 l1 x7_1).f4) true _ A14.1).mono ?_
      rintro e w21 ⟨rfl, hb⟩
      have HS10_ := (hb.cell (World.block_lt_of_cell? _ _ (hHeld.2.2.2.2.2.2.2.2.2.2.1))).trans (hHeld.2.2.2.2.2.2.2.2.2.2.1)
      have HS11_ := (hb.cell (World.block_lt_of_cell? _ _ (hHeld.2.2.2.2.2.2.2.2.2.2.2))).trans (hHeld.2.2.2.2.2.2.2.2.2.2.2)
      refine ⟨_, rfl, ?_⟩
      replace HO_5 := zM (Kd.R_below (zR HO_5.1) hb)
      replace HO_6 := zM (Kd.S_below (zS HO_6.1) hb)
      replace HB := zM (below_step zB1 hb)
      refine hK.out _ _ ⟨((HB.1.cell (World.block_lt_of_cell? w _ hw754_0)).trans hw754_0), ((HB.1.cell (World.block_lt_of_cell? w _ hw754_1)).trans hw754_1), ((HB.1.cell (World.block_lt_of_cell? w _ hw754_2)).trans hw754_2), ((HB.1.cell (World.block_lt_of_cell? w _ hw754_3)).trans hw754_3), ((HB.1.cell (World.block_lt_of_cell? w _ hw754_4)).trans hw754_4), ((HB.1.cell (World.block_lt_of_cell? w _ hw755_0)).trans hw755_0), ((HB.1.cell (World.block_lt_of_cell? w _ hw755_1)).trans hw755_1), ((HB.1.cell (World.block_lt_of_cell? w _ hw755_2)).trans hw755_2), ((HB.1.cell (World.block_lt_of_cell? w _ hw755_3)).trans hw755_3), ((HB.1.cell (World.block_lt_of_cell? w _ hw755_4)).trans hw755_4), HS10_, HS11_⟩ (fun hHeld => ?_)
      clear hK K
      refine zNo ?_
      refine zPu 9 ?_
      refine zPu 10 ?_
      refine zPu 11 ?_
      refine zPu 12 ?_
      refine zPu 14 ?_
      refine zPu 15 ?_
      refine zPu 16 ?_
      refine zTk12 13 hHeld ?_
      refine zTk12 17 hHeld ?_
      refine zOn 18 (some 42) fun K hK => ?_
      refine zGs Try.func45 #[.slice A757_0 (rd_L3 t751 x8_2).length c757_0, .slice A758_0 (rd_L3 t751 x7_1).length c758_0] ?_
      with_reducible refine (spec_ClockWithin.calls k2 _ _ (rd_L3 t751 x8_2) _ _ (rd_L3 t751 x7_1) true _ ?side1 ?side2 ?side3 ?side4 A18.1).mono ?_
      (case side1 => exact zC (Kd.C_below HR757_0.1 hb))
      (case side2 => exact HC757_0.1)
      (case side3 => exact zC (Kd.C_below HR758_0.1 hb))
      (case side4 => exact HC758_0.1)
      rintro e w' ⟨rfl, ⟨nd, rfl⟩⟩
      refine ⟨_, rfl, ?_⟩
      refine hK.out _ _ ⟨((HB.1.cell (World.block_lt_of_cell? w _ hw754_0)).trans hw754_0), ((HB.1.cell (World.block_lt_of_cell? w _ hw754_1)).trans hw754_1), ((HB.1.cell (World.block_lt_of_cell? w _ hw754_2)).trans hw754_2), ((HB.1.cell (World.block_lt_of_cell? w _ hw754_3)).trans hw754_3), ((HB.1.cell (World.block_lt_of_cell? w _ hw754_4)).trans hw754_4), ((HB.1.cell (World.block_lt_of_cell? w _ hw755_0)).trans hw755_0), ((HB.1.cell (World.block_lt_of_cell? w _ hw755_1)).trans hw755_1), ((HB.1.cell (World.block_lt_of_cell? w _ hw755_2)).trans hw755_2), ((HB.1.cell (World.block_lt_of_cell? w _ hw755_3)).trans hw755_3), ((HB.1.cell (World.block_lt_of_cell? w _ hw755_4)).trans hw755_4), hHeld.2.2.2.2.2.2.2.2.2.2.1, hHeld.2.2.2.2.2.2.2.2.2.2.2⟩ (fun hHeld => ?_)
      clear hK K
      refine zNo ?_
      refine zPu 19 ?_
      refine zPu 20 ?_
      refine done_ (done_of HT_.1 (by kernel_rfl)) ?_
      try go_wp2
      go_roundg k2
      case measure => have := HK1.1; have := HK2.1; omega
      case rel => exact ⟨(x5_2), (wrap64 (x8_2 + 1)), zJJ, H', ⟨by have := HK1.1; have := HK2.1; omega⟩, ⟨zR HO_5.1⟩, ⟨zS HO_6.1⟩, ⟨zB1⟩⟩
     replace c19 := Bool.eq_false_iff.mpr c19
     subst c19
     rw [if_neg zF] at H
     replace H := zIn H
     obtain ⟨LMc22, H⟩ := H
     generalize hy760 : ((x5_2 ++ [(⟨x8_2, x7_1⟩ : S44)]) : List (S44)) = y760 at H
     have Ny760 := zM hy760.symm
     clear hy760
     have H' := zM H
     clear H
     try go_wp2
     replace HO_5 := zM (Kd.R_drew HO_5.1)
     replace HO_6 := zM (Kd.S_drew HO_6.1)
     replace HB := zM (below_drew1 HB.1)
     obtain ⟨p754, q754, ad754, e754, hx754_0, hx754_1, hx754_2, hx754_3, hx754_4⟩ := zRd (at_T31 HR1.1 x8_2)
     have hw754_4 := hx754_4
     have hw754_3 := hx754_3
     have hw754_2 := hx754_2
     have hw754_1 := hx754_1
     have hw754_0 := hx754_0
     cases e754
     replace hx754_0 := zHx HB.1 hx754_0
     replace hx754_1 := zHx HB.1 hx754_1
     replace hx754_2 := zHx HB.1 hx754_2
     replace hx754_3 := zHx HB.1 hx754_3
     replace hx754_4 := zHx HB.1 hx754_4
     obtain ⟨p755, q755, ad755, e755, hx755_0, hx755_1, hx755_2, hx755_3, hx755_4⟩ := zRd (at_T31 HR1.1 x7_1)
     have hw755_4 := hx755_4
     have hw755_3 := hx755_3
     have hw755_2 := hx755_2
     have hw755_1 := hx755_1
     have hw755_0 := hx755_0
     obtain rfl : ad754 = ad755 := (by injection e755)
     replace hx755_0 := zHx HB.1 hx755_0
     replace hx755_1 := zHx HB.1 hx755_1
     replace hx755_2 := zHx HB.1 hx755_2
     replace hx755_3 := zHx HB.1 hx755_3
     replace hx755_4 := zHx HB.1 hx755_4
     obtain ⟨p757, q757, ad757, A757_0, c757_0, e757, hx757_0, hl757_0, hi757_0⟩ := zRd (at_L3 (Kd.S_reads' HO_6.1).2.2 x8_2)
     cases e757
     obtain ⟨ce757, hce757, hMe757, hcc757⟩ := Kd.S_get HO_6.1 [] x8_2 zA (by first | exact zA | (have e_ := (Kd.S_reads' HO_6.1).1; omega))
     obtain ⟨ve757_0, rfl, ge757_0⟩ := hMe757
     have hv757_0 := hcc757 0 _ rfl
     rw [Nat.add_zero, show ((Kd.slice 3 (Kd.int .i64))).sz = 1 from rfl, Nat.mul_one] at hv757_0
     replace hv757_0 := Option.some.inj (hv757_0.symm.trans hx757_0)
     rw [hv757_0] at ge757_0
     have HL757_0 := zM (show Kd.R (Kd.int .i64) 3 _ _ _ _ (rd_L3 t751 x8_2) from ge757_0)
     clear hv757_0 ge757_0 hcc757 hce757
     have HR757_0 := zM hi757_0
     have HC757_0 := zM hl757_0
     clear hi757_0 hl757_0
     obtain ⟨p758, q758, ad758, A758_0, c758_0, e758, hx758_0, hl758_0, hi758_0⟩ := zRd (at_L3 (Kd.S_reads' HO_6.1).2.2 x7_1)
     obtain rfl : ad757 = ad758 := (by injection e758)
     obtain ⟨ce758, hce758, hMe758, hcc758⟩ := Kd.S_get HO_6.1 [] x7_1 zA (by first | exact zA | (have e_ := (Kd.S_reads' HO_6.1).1; omega))
     obtain ⟨ve758_0, rfl, ge758_0⟩ := hMe758
     have hv758_0 := hcc758 0 _ rfl
     rw [Nat.add_zero, show ((Kd.slice 3 (Kd.int .i64))).sz = 1 from rfl, Nat.mul_one] at hv758_0
     replace hv758_0 := Option.some.inj (hv758_0.symm.trans hx758_0)
     rw [hv758_0] at ge758_0
     have HL758_0 := zM (show Kd.R (Kd.int .i64) 3 _ _ _ _ (rd_L3 t751 x7_1) from ge758_0)
     clear hv758_0 ge758_0 hcc758 hce758
     have HR758_0 := zM hi758_0
     have HC758_0 := zM hl758_0
     clear hi758_0 hl758_0
     refine start_ (n := 21) (S := zS0_16 ad754 x8_2 l1 x7_1 ad757 A757_0 t751 c757_0 A758_0 c758_0) (ds := []) zq16_0 (by kernel_rfl) rfl rfl ⟨((HB.1.cell (World.block_lt_of_cell? w _ hw754_0)).trans hw754_0), ((HB.1.cell (World.block_lt_of_cell? w _ hw754_1)).trans hw754_1), ((HB.1.cell (World.block_lt_of_cell? w _ hw754_2)).trans hw754_2), ((HB.1.cell (World.block_lt_of_cell? w _ hw754_3)).trans hw754_3), ((HB.1.cell (World.block_lt_of_cell? w _ hw754_4)).trans hw754_4), ((HB.1.cell (World.block_lt_of_cell? w _ hw755_0)).trans hw755_0), ((HB.1.cell (World.block_lt_of_cell? w _ hw755_1)).trans hw755_1), ((HB.1.cell (World.block_lt_of_cell? w _ hw755_2)).trans hw755_2), ((HB.1.cell (World.block_lt_of_cell? w _ hw755_3)).trans hw755_3), ((HB.1.cell (World.block_lt_of_cell? w _ hw755_4)).trans hw755_4), hx757_0, hx758_0⟩ (fun hHeld => ?_); refine with_tabW spec_Races.tab9 spec_Races.bits9 (fun HT_ HW_ => ?_)
     generalize wr.drew = w23 at HO_5 HO_6 HB HL757_0 HL758_0 HR757_0 HR758_0 hx754_0 hx754_1 hx754_2 hx754_3 hx754_4 hx755_0 hx755_1 hx755_2 hx755_3 hx755_4 hx757_0 hx758_0 hHeld ⊢
     refine zPu 0 ?_
     refine zPu 1 ?_
     refine zPu 2 ?_
     refine zPu 4 ?_
     refine zPu 5 ?_
     refine zPu 6 ?_
     refine zTk12 3 hHeld ?_
     refine zTk12 7 hHeld ?_
     refine zOn 8 (some 32) fun K hK => ?_
     refine zGs Try.func47 #[.agg #[.int .i64 ((rd_T31 l1 x8_2).f0), .int .i64 ((rd_T31 l1 x8_2).f1), .int .i64 ((rd_T31 l1 x8_2).f2), .int .i64 ((rd_T31 l1 x8_2).f3), .int .i64 ((rd_T31 l1 x8_2).f4)], .agg #[.int .i64 ((rd_T31 l1 x7_1).f0), .int .i64 ((rd_T31 l1 x7_1).f1), .int .i64 ((rd_T31 l1 x7_1).f2), .int .i64 ((rd_T31 l1 x7_1).f3), .int .i64 ((rd_T31 l1 x7_1).f4)]] ?_
     with_reducible refine (spec_l20Meet.calls ((rd_T31 l1 x8_2).f0) ((rd_T31 l1 x8_2).f1) ((rd_T31 l1 x8_2).f2) ((rd_T31 l1 x8_2).f3) ((rd_T31 l1 x8_2).f4) ((rd_T31 l1 x7_1).f0) ((rd_T31 l1 x7_1).f1) ((rd_T31 l1 x7_1).f2) ((rd_T31 l1 x7_1).f3) ((rd_T31 l1 x7_1).f4) true _ A14.1).mono ?_
     rintro e w24 ⟨rfl, hb⟩
     have HS10_ := (hb.cell (World.block_lt_of_cell? _ _ (hHeld.2.2.2.2.2.2.2.2.2.2.1))).trans (hHeld.2.2.2.2.2.2.2.2.2.2.1)
     have HS11_ := (hb.cell (World.block_lt_of_cell? _ _ (hHeld.2.2.2.2.2.2.2.2.2.2.2))).trans (hHeld.2.2.2.2.2.2.2.2.2.2.2)
     refine ⟨_, rfl, ?_⟩
     replace HO_5 := zM (Kd.R_below (zR HO_5.1) hb)
     replace HO_6 := zM (Kd.S_below (zS HO_6.1) hb)
     replace HB := zM (below_step zB1 hb)
     refine hK.out _ _ ⟨((HB.1.cell (World.block_lt_of_cell? w _ hw754_0)).trans hw754_0), ((HB.1.cell (World.block_lt_of_cell? w _ hw754_1)).trans hw754_1), ((HB.1.cell (World.block_lt_of_cell? w _ hw754_2)).trans hw754_2), ((HB.1.cell (World.block_lt_of_cell? w _ hw754_3)).trans hw754_3), ((HB.1.cell (World.block_lt_of_cell? w _ hw754_4)).trans hw754_4), ((HB.1.cell (World.block_lt_of_cell? w _ hw755_0)).trans hw755_0), ((HB.1.cell (World.block_lt_of_cell? w _ hw755_1)).trans hw755_1), ((HB.1.cell (World.block_lt_of_cell? w _ hw755_2)).trans hw755_2), ((HB.1.cell (World.block_lt_of_cell? w _ hw755_3)).trans hw755_3), ((HB.1.cell (World.block_lt_of_cell? w _ hw755_4)).trans hw755_4), HS10_, HS11_⟩ (fun hHeld => ?_)
     clear hK K
     refine zNo ?_
     refine zPu 9 ?_
     refine zPu 10 ?_
     refine zPu 11 ?_
     refine zPu 12 ?_
     refine zPu 14 ?_
     refine zPu 15 ?_
     refine zPu 16 ?_
     refine zTk12 13 hHeld ?_
     refine zTk12 17 hHeld ?_
     refine zOn 18 (some 42) fun K hK => ?_
     refine zGs Try.func45 #[.slice A757_0 (rd_L3 t751 x8_2).length c757_0, .slice A758_0 (rd_L3 t751 x7_1).length c758_0] ?_
     with_reducible refine (spec_ClockWithin.calls k2 _ _ (rd_L3 t751 x8_2) _ _ (rd_L3 t751 x7_1) false _ ?side1 ?side2 ?side3 ?side4 A18.1).mono ?_
     (case side1 => exact zC (Kd.C_below HR757_0.1 hb))
     (case side2 => exact HC757_0.1)
     (case side3 => exact zC (Kd.C_below HR758_0.1 hb))
     (case side4 => exact HC758_0.1)
     rintro e w' ⟨rfl, ⟨nd, rfl⟩⟩
     refine ⟨_, rfl, ?_⟩
     refine hK.out _ _ ⟨((HB.1.cell (World.block_lt_of_cell? w _ hw754_0)).trans hw754_0), ((HB.1.cell (World.block_lt_of_cell? w _ hw754_1)).trans hw754_1), ((HB.1.cell (World.block_lt_of_cell? w _ hw754_2)).trans hw754_2), ((HB.1.cell (World.block_lt_of_cell? w _ hw754_3)).trans hw754_3), ((HB.1.cell (World.block_lt_of_cell? w _ hw754_4)).trans hw754_4), ((HB.1.cell (World.block_lt_of_cell? w _ hw755_0)).trans hw755_0), ((HB.1.cell (World.block_lt_of_cell? w _ hw755_1)).trans hw755_1), ((HB.1.cell (World.block_lt_of_cell? w _ hw755_2)).trans hw755_2), ((HB.1.cell (World.block_lt_of_cell? w _ hw755_3)).trans hw755_3), ((HB.1.cell (World.block_lt_of_cell? w _ hw755_4)).trans hw755_4), hHeld.2.2.2.2.2.2.2.2.2.2.1, hHeld.2.2.2.2.2.2.2.2.2.2.2⟩ (fun hHeld => ?_)
     clear hK K
     refine zNo ?_
     refine zPu 19 ?_
     refine zPu 20 ?_
     refine done_ (done_of HT_.1 (by kernel_rfl)) ?_
     try go_wp2_with (first | ((with_reducible refine gate_builtin (b := .append) (xs := #[.tmp 45, .tmp 49]) rfl ?_); at_builtin; refine Kd.R_append k44 (w0 := w) w.heap.size rfl (.tmp 45) (.tmp 49) 41 44 (.agg #[(.int .i64 0), (.int .i64 0)]) 16 rfl Try.underlying41 info44 rfl (by decide) (by omega) u5 x5_2 (⟨x8_2, x7_1⟩ : S44) [.int .i64 x8_2, .int .i64 x7_1] (fun _ => True) (fun _ => False) rfl rfl ?aP (fun _ hk => hk.elim) ?aF ?aO ?aB ?aS ?aL ?_; (case aP => exact k44_mkM _ _ _ (⟨x8_2, x7_1⟩ : S44)); (case aB => exact zB1); (case aF => exact (fun _ _ => trivial)); (case aO => exact (zR HO_5.1)); (case aS => exact (below_size zB1)); (case aL => have := LMc22.out; omega); intro v761 w25 ho hb hg hat; rw [← Ny760.1] at ho; replace HO_6 := zM (Kd.S_over' (zS HO_6.1) (Kd.R_typed (zR HO_5.1)) (by decide) hg); replace HB := zM hb; have HO762 := zM ho; clear HO_5; clear ho hb hg hat))
     go_roundg k2
     case measure => have := HK1.1; have := HK2.1; omega
     case rel => exact ⟨(y760), (wrap64 (x8_2 + 1)), zJJ, H', ⟨by have := HK1.1; have := HK2.1; omega⟩, ⟨zR HO762.1⟩, ⟨zS HO_6.1⟩, ⟨zB1⟩⟩

end Go.Proofs.Ytgbjengnkbomoaa.PFnRaces
