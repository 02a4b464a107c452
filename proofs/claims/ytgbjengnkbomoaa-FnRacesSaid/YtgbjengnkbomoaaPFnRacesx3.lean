-- made by wip/tools/myprint.py out of the seat's translation
import Derived.Test.YtgbjengnkbomoaaPFnRacesx0
import Derived.Test.YtgbjengnkbomoaaPFnRacesx2
namespace Go.Proofs.Ytgbjengnkbomoaa.PFnRaces
open Go.RowKit Go.Proofs.YtgbjengnkbomoaaW.PrintWords Go.Proofs.YtgbjengnkbomoaaW.PrintLast Go.Proofs.YtgbjengnkbomoaaW.PrintMore
attribute [local go_sem] max2_int min2_int max_two min_two max_three min_three max_four min_four   -- for this text's walks alone
set_option linter.unusedVariables false
set_option linter.unusedSimpArgs false
set_option maxHeartbeats 8000000
set_option maxRecDepth 100000

/-! ### impl_Clocks: function 12 -/
theorem clocks_re {α : Type} {d : Kd α} {e : Nat} {w wq w' : World} {ok : Nat → Prop} {r : List α} {en : Ending} (h0 : Below w.heap.size w wq) (h : ∃ v0_ : Value, en = .returned (v0_) ∧ Kd.S d e w' wq.heap.size ok v0_ r ∧ Below wq.heap.size wq w') : ∃ v0_ : Value, en = .returned (v0_) ∧ Kd.S d e w' w.heap.size ok v0_ r ∧ Below w.heap.size w w' := by
 obtain ⟨v, h1, h2, h3⟩ := h
 exact ⟨v, h1, Kd.S_lower h2 h0.size, below_step h0 h3⟩
mutual
def impl_Clocks.j0 : Nat → List (S31) → Int → List (List Int) → Bool → Option ((List (List Int)))
 | 0, _, _, _, _ => none
 | k + 1, x1, x2, x5, x21 => if x21 = true then (some x5) else (if 0 ≤ x2 then (if (x2 : Int).toNat ≤ 11728124029610 then ((some (List.replicate (x2 : Int).toNat [] : List (List Int))).bind fun y118 => (impl_Clocks.l0 k x1 x2 x5 y118 (y118.length : Int) 0)) else (none)) else (none))
def impl_Clocks.l0 : Nat → List (S31) → Int → List (List Int) → List (List Int) → Int → Int → Option ((List (List Int)))
 | 0, _, _, _, _, _, _ => none
 | k + 1, x1, x2, x5, x6, x26, x27 => if x27 < x26 then ((impl_ClockNew.f x2).bind fun t121 => (if 0 ≤ x27 then (if x27 < (x6.length : Int) then (impl_Clocks.l0 k x1 x2 x5 (x6.set (x27 : Int).toNat t121) x26 (wrap64 (x27 + 1))) else (none)) else (none))) else (impl_Clocks.l1 k x1 x5 x6 x1 (x1.length : Int) 0)
def impl_Clocks.l1 : Nat → List (S31) → List (List Int) → List (List Int) → List (S31) → Int → Int → Option ((List (List Int)))
 | 0, _, _, _, _, _, _ => none
 | k + 1, x1, x5, x6, x36, x37, x38 => if x38 < x37 then (if 0 ≤ x38 then (if x38 < (x36.length : Int) then (if 0 ≤ ((rd_T31 x36 x38).f0) then (if ((rd_T31 x36 x38).f0) < (x6.length : Int) then ((slices_Clone_int_int.f (rd_L3 x6 ((rd_T31 x36 x38).f0))).bind fun t128 => (if x38 ≤ (x1.length : Int) then ((some (x1.take (x38 : Int).toNat : List (S31))).bind fun y131 => (impl_Clocks.l2 k x1 x5 x6 t128 x36 x37 x38 y131 (y131.length : Int) 0 ((rd_T31 x36 x38).f0) ((rd_T31 x36 x38).f1) ((rd_T31 x36 x38).f2) ((rd_T31 x36 x38).f3) ((rd_T31 x36 x38).f4))) else (none))) else (none)) else (none)) else (none)) else (none)) else (some x5)
def impl_Clocks.l2 : Nat → List (S31) → List (List Int) → List (List Int) → List Int → List (S31) → Int → Int → List (S31) → Int → Int → Int → Int → Int → Int → Int → Option ((List (List Int)))
 | 0, _, _, _, _, _, _, _, _, _, _, _, _, _, _, _ => none
 | k + 1, x1, x5, x6, x10, x36, x37, x38, x51, x52, x53, x127000, x127001, x127002, x127003, x127004 => if x53 < x52 then (if 0 ≤ x53 then (if x53 < (x51.length : Int) then ((impl_isSwap.f x127000 x127001 x127002 x127003 x127004).bind fun t147 => (if t147 = true then ((impl_isSwap.f ((rd_T31 x51 x53).f0) ((rd_T31 x51 x53).f1) ((rd_T31 x51 x53).f2) ((rd_T31 x51 x53).f3) ((rd_T31 x51 x53).f4)).bind fun t148 => (if t148 = true then (if ((rd_T31 x51 x53).f2) = x127002 then (if x53 < (x5.length : Int) then ((impl_ClockJoin.f k x10 (rd_L3 x5 x53)).bind fun t150 => (impl_Clocks.l2 k x1 x5 x6 t150 x36 x37 x38 x51 x52 (wrap64 (x53 + 1)) x127000 x127001 x127002 x127003 x127004)) else (none)) else (impl_Clocks.l2 k x1 x5 x6 x10 x36 x37 x38 x51 x52 (wrap64 (x53 + 1)) x127000 x127001 x127002 x127003 x127004)) else (impl_Clocks.l2 k x1 x5 x6 x10 x36 x37 x38 x51 x52 (wrap64 (x53 + 1)) x127000 x127001 x127002 x127003 x127004))) else (impl_Clocks.l2 k x1 x5 x6 x10 x36 x37 x38 x51 x52 (wrap64 (x53 + 1)) x127000 x127001 x127002 x127003 x127004))) else (none)) else (none)) else (if 0 ≤ x127000 then (if x127000 < (x10.length : Int) then (if x127000 < (x6.length : Int) then ((some (x6.set (x127000 : Int).toNat (x10.set (x127000 : Int).toNat (wrap64 ((rd x10 x127000) + 1))) : List (List Int))).bind fun y137 => ((slices_Clone_int_int.f (rd_L3 y137 x127000)).bind fun t139 => (if x5.length < 5864062014805 then (impl_Clocks.l1 k x1 (x5 ++ [t139]) y137 x36 x37 (wrap64 (x38 + 1))) else (none)))) else (none)) else (none)) else (none))
end
def impl_Clocks.f (k : Nat) (a0 : Int) (l1 : List (S31)) : Option ((List (List Int))) := (some (([] : List (List Int)) : List (List Int))).bind fun y113 => ((impl_from.f a0 1 8).bind fun t116 => (if t116 = true then ((impl_Event_32.f a0 l1).bind fun t117 => (impl_Clocks.j0 k l1 a0 y113 t117)) else (impl_Clocks.j0 k l1 a0 y113 true)))
theorem impl_Clocks.mono_l : ∀ k, (∀ y0 y1 y2 y3, LeO (impl_Clocks.j0 k y0 y1 y2 y3) (impl_Clocks.j0 (k + 1) y0 y1 y2 y3)) ∧ (∀ y0 y1 y2 y3 y4 y5, LeO (impl_Clocks.l0 k y0 y1 y2 y3 y4 y5) (impl_Clocks.l0 (k + 1) y0 y1 y2 y3 y4 y5)) ∧ (∀ y0 y1 y2 y3 y4 y5, LeO (impl_Clocks.l1 k y0 y1 y2 y3 y4 y5) (impl_Clocks.l1 (k + 1) y0 y1 y2 y3 y4 y5)) ∧ (∀ y0 y1 y2 y3 y4 y5 y6 y7 y8 y9 y10 y11 y12 y13 y14, LeO (impl_Clocks.l2 k y0 y1 y2 y3 y4 y5 y6 y7 y8 y9 y10 y11 y12 y13 y14) (impl_Clocks.l2 (k + 1) y0 y1 y2 y3 y4 y5 y6 y7 y8 y9 y10 y11 y12 y13 y14))
 | 0 => ⟨fun _ _ _ _ r h => by simp [impl_Clocks.j0] at h, fun _ _ _ _ _ _ r h => by simp [impl_Clocks.l0] at h, fun _ _ _ _ _ _ r h => by simp [impl_Clocks.l1] at h, fun _ _ _ _ _ _ _ _ _ _ _ _ _ _ _ r h => by simp [impl_Clocks.l2] at h⟩
 | k + 1 => by
  obtain ⟨ih0, ih1, ih2, ih3⟩ := impl_Clocks.mono_l k
  refine ⟨?_, ?_, ?_, ?_⟩
  ·intros
   unfold impl_Clocks.j0
   have mo0 := @impl_ClockJoin.mono
   exact zL
  ·intros
   unfold impl_Clocks.l0
   have mo0 := @impl_ClockJoin.mono
   exact zL
  ·intros
   unfold impl_Clocks.l1
   have mo0 := @impl_ClockJoin.mono
   exact zL
  ·intros
   unfold impl_Clocks.l2
   have mo0 := @impl_ClockJoin.mono
   exact zL
theorem impl_Clocks.mono : ∀ a0 a1 k, LeO (impl_Clocks.f k a0 a1) (impl_Clocks.f (k + 1) a0 a1) := by
 intro a0 a1 k
 obtain ⟨ih0, ih1, ih2, ih3⟩ := impl_Clocks.mono_l k
 unfold impl_Clocks.f
 have mo0 := @impl_ClockJoin.mono
 exact zL
theorem impl_Clocks.calls (k : Nat) (a0 : Int) (A1 : Option Addr) (c1 : Nat) (l1 : List (S31)) (r : List (List Int)) (w : World) (hr1 : Kd.C k31 w A1 l1.length l1) (hc1 : l1.length ≤ c1) (h : impl_Clocks.f k a0 l1 = some r) :
  Calls Try.prog 12 #[.int .i64 a0, .slice A1 l1.length c1] w fun e w' => ∃ v0_ : Value, e = .returned (v0_) ∧ Kd.S (Kd.slice 3 (Kd.int .i64)) 29 w' w.heap.size (fun _ => True) v0_ r ∧ Below w.heap.size w w' := by
 have hu31 := Try.underlying31
 have HR1 := zM hr1
 have HC1 := zM hc1
 clear hr1 hc1
 have HB := zM (Below.refl w.heap.size w)
 unfold impl_Clocks.f at h
 have H := h
 clear h
 replace H := zY H
 obtain ⟨y113, Ny113, H⟩ := H
 have HC3 := zM H
 clear H
 go_enter Try.func12, Try.ntmps12
 go_upto_region 1 with (first | ((with_reducible refine zBx 2 3 #[.int .i64 a0] ?_); intro gbn hg wq hbox hb; have n0_ := zM (Kd.C_below HR1.1 hb); have HBZ := zM (below_step HB.1 hb); have HCN := zM (show wq.cell? ⟨gbn, 0, none⟩ = some (.int .i64 a0) from (blk_cell hbox 0).trans rfl); clear HR1 HB; have HR1 := n0_; clear n0_ hg hb hbox))
 (try simp only [Act.put, List.setIfInBounds_toArray, List.set_cons_zero, List.set_cons_succ])
 have HB := zM (Below.refl wq.heap.size wq)
 try have hcn_ := (HB.1.cell (World.block_lt_of_cell? wq _ HCN.out)).trans HCN.out
 go_upto_region 2 with (first | ((with_reducible refine gate_dst (N := 13) rfl ?_); refine Kd.S_lit (Kd.slice 3 (Kd.int .i64)) _ 29 ?hg (N := 13) ?hd (xs := ([] : List (List Int))) (inner := []) (ok := fun _ => True) (okp := fun _ => True) ?hr ?hp (fun _ hk => hk) trivial (Below.refl _ _) (Nat.le_refl _) (by simp) ?_; (case hd => rfl); (case hg => rfl); (case hr => exact zHH); (case hp => exact (Reps.none _ _)); intro v114 w4 ho5 hb hg_ hnew_; clear hg_ hnew_; (first | rw [← Ny113.1] at ho5 | (simp only [Int.reduceToNat] at ho5; rw [← Ny113.1] at ho5)); have HO115 := zM (Kd.S_lower ho5 (below_size zB1)); replace HB := zM (below_step zB1 hb); clear hb ho5))
 (try simp only [Act.put, List.setIfInBounds_toArray, List.set_cons_zero, List.set_cons_succ])
 go_cut [21] (fun v21 wc => ∃ (kq : Nat) (x21_2 : Bool), v21 = .bool x21_2 ∧ Aside0 (impl_Clocks.j0 kq l1 a0 y113 x21_2 = some r) ∧ Aside0 (kq ≤ k) ∧ Aside0 (Kd.S (Kd.slice 3 (Kd.int .i64)) 29 wc wq.heap.size (fun _ => True) v114 y113) ∧ Aside0 (Below wq.heap.size wq wc))
 case first =>
  have H := HC3.1
  clear HC3
  replace H := zO H
  obtain ⟨t116, A6, H⟩ := H
  by_cases c7 : t116 = true
  rotate_left
  ·replace c7 := Bool.eq_false_iff.mpr c7
   subst c7
   rw [if_neg zF] at H
   have H' := zM H
   clear H
   try have hcn_ := (HB.1.cell (World.block_lt_of_cell? wq _ HCN.out)).trans HCN.out
   go_wp2_with (first | ((with_reducible refine zG Try.func31 15 #[.int .i64 a0, .int .i64 1, .int .i64 8] ?_); (with_reducible refine (impl_from.calls a0 1 8 false _ A6.1).mono ?_); rintro e w' ⟨rfl, ⟨nd, rfl⟩⟩; refine ⟨_, rfl, ?_⟩))
   go_meet
   case rel => exact ⟨_, (true), zJJ, H', ⟨by first | omega | exact Nat.le_refl _⟩, ⟨zS HO115.1⟩, ⟨zB1⟩⟩
  subst c7
  rw [if_pos rfl] at H
  replace H := zO H
  obtain ⟨t117, A8, H⟩ := H
  have H' := zM H
  clear H
  try have hcn_ := (HB.1.cell (World.block_lt_of_cell? wq _ HCN.out)).trans HCN.out
  go_wp2_with (first | ((with_reducible refine zG Try.func31 15 #[.int .i64 a0, .int .i64 1, .int .i64 8] ?_); (with_reducible refine (impl_from.calls a0 1 8 true _ A6.1).mono ?_); rintro e w' ⟨rfl, ⟨nd, rfl⟩⟩; refine ⟨_, rfl, ?_⟩) | (go_at_call 32; (with_reducible refine (impl_Event_32.calls a0 gbn _ _ l1 t117 _ ?hbx ?side1 ?side2 A8.1).mono ?_); (case hbx => exact ((zB1 : Below wq.heap.size wq _).cell (World.block_lt_of_cell? wq _ HCN.out)).trans HCN.out); (case side1 => repeat (first | exact (Kd.C_below HR1.1 zB1) | (with_reducible refine Kd.C_alloc ?_ _) | (with_reducible refine Kd.C_drewN ?_ _) | (with_reducible refine Kd.C_drew ?_))); (case side2 => exact HC1.1); rintro e w9 ⟨rfl, hb⟩; replace HO115 := zM (Kd.S_below (zS HO115.1) hb); replace HB := zM (below_step zB1 hb); clear hb))
  go_meet
  case rel => exact ⟨_, (t117), zJJ, H', ⟨by first | omega | exact Nat.le_refl _⟩, ⟨zS HO115.1⟩, ⟨zB1⟩⟩
 case rest =>
  clear HC3
  obtain ⟨kq, x21_2, rfl, HA, HJ2, HO_5, HB⟩ := hcut
  cases kq with
  | zero => exact absurd HA.1 (by simp [impl_Clocks.j0])
  | succ kj2 =>
   have H := HA.1
   clear HA
   simp only [impl_Clocks.j0] at H
   by_cases c10 : x21_2 = true
   ·subst c10
    rw [if_pos rfl] at H
    obtain rfl := Option.some.inj H
    try have hcn_ := (HB.1.cell (World.block_lt_of_cell? wq _ HCN.out)).trans HCN.out
    go_wp2
    go_ret
    refine clocks_re HBZ.out ?_
    exact ⟨_, zE, zS HO_5.1, zB1⟩
   replace c10 := Bool.eq_false_iff.mpr c10
   subst c10
   rw [if_neg zF] at H
   replace H := zIp H
   obtain ⟨c11, H⟩ := H
   have c11b0 := eq_true c11
   have c11b1 : decide (0 ≤ a0) = true := decide_eq_true c11
   clear c11
   replace H := zIp H
   obtain ⟨c12, H⟩ := H
   have c12b0 := eq_true c12
   have c12b1 : decide ((a0 : Int).toNat ≤ 11728124029610) = true := decide_eq_true c12
   clear c12
   replace H := zY H
   obtain ⟨y118, Ny118, H⟩ := H
   have H' := zM H
   clear H
   try have hcn_ := (HB.1.cell (World.block_lt_of_cell? wq _ HCN.out)).trans HCN.out
   go_wp2_with (first | ((with_reducible refine gate_dst (N := 24) rfl ?_); refine Kd.S_make (Kd.slice 3 (Kd.int .i64)) _ 29 rfl (N := 24) rfl 35 _ _ rfl a0 rfl rfl Try.underlying35 (.slice none 0 0) 24 info29 rfl (by decide) (by omega) [] (ok := fun _ => True) (okp := fun _ => True) ⟨_, rfl, Kd.R_nil _ _ _ _ _⟩ (fun _ hk => hk) trivial zA (Nat.le_trans (Nat.mul_le_mul_right _ (zA : a0.toNat ≤ 11728124029610)) (by omega)) (Below.refl _ _) (Nat.le_refl _) ?_; intro v119 w13 ho14 hb hg_ hnew_; clear hg_ hnew_; (first | rw [← Ny118.1] at ho14 | (simp only [Int.reduceToNat] at ho14; rw [← Ny118.1] at ho14)); have HO120 := zM (Kd.S_lower (Kd.S_new' ho14 (Kd.S_lt (zS HO_5.1))) (below_size zB1)); replace HO_5 := zM (Kd.S_elder' (zS HO_5.1) (Kd.S_base ho14) hb); replace HB := zM (below_step zB1 hb); clear hb ho14; obtain ⟨Ao15, co15, eo15⟩ := Kd.S_slice HO120.1; subst eo15))
   go_loopg [27] kj2 (fun kq v27 w' => ∃ (x6_2 : List (List Int)) (x27_2 : Int), v27 = .int .i64 x27_2 ∧ Aside0 (impl_Clocks.l0 kq l1 a0 y113 x6_2 (y118.length : Int) x27_2 = some r) ∧ Aside0 (kq ≤ kj2) ∧ Aside0 (Kd.S (Kd.slice 3 (Kd.int .i64)) 29 w' wq.heap.size (fun k_ => some k_ ≠ ((.slice Ao15 y118.length co15) : Value).ownBlock) v114 y113) ∧ Aside0 (Kd.S (Kd.slice 3 (Kd.int .i64)) 29 w' wq.heap.size (fun k_ => some k_ ≠ (v114 : Value).ownBlock) (.slice Ao15 y118.length co15) x6_2) ∧ Aside0 (Below wq.heap.size wq w'))
   case atStart => exact ⟨(y118), (0), zJJ, H', ⟨Nat.le_refl _⟩, ⟨by refine zrS ?_; exact Kd.S_mono HO_5.1 (fun _ hk => hk.2)⟩, ⟨by refine zrS ?_; exact Kd.S_mono HO120.1 (fun _ hk => hk.2)⟩, ⟨zB1⟩⟩
   case round =>
    clear H'
    obtain ⟨x6_2, x27_2, rfl, HA, HK2, HO_5, HO_6, HB⟩ := hrel
    have hl6_2 := (Kd.S_reads' HO_6.1).1
    rw [hl6_2] at HO_6
    (try simp only [hl6_2])
    (try simp only [hl6_2] at HO_5)
    cases gk with
    | zero => exact absurd HA.1 (by simp [impl_Clocks.l0])
    | succ k2 =>
     have H := HA.1
     clear HA
     simp only [impl_Clocks.l0] at H
     by_cases c16 : x27_2 < (y118.length : Int)
     ·rw [if_pos c16] at H
      have c16b0 := decide_eq_true c16
      (try (have c16b0_ := c16b0; simp only [hl6_2] at c16b0_))
      clear c16
      replace H := zO H
      obtain ⟨t121, A17, H⟩ := H
      replace H := zIt H
      obtain ⟨c18b0, H⟩ := H
      replace H := zIp H
      obtain ⟨c19, H⟩ := H
      have c19b0 := decide_eq_true c19
      (try (have c19b0_ := c19b0; simp only [hl6_2] at c19b0_))
      clear c19
      generalize hy124 : ((x6_2.set (x27_2 : Int).toNat t121) : List (List Int)) = y124 at H
      have Ny124 := zM hy124.symm
      clear hy124
      have H' := zM H
      clear H
      try have hcn_ := (HB.1.cell (World.block_lt_of_cell? wq _ HCN.out)).trans HCN.out
      go_wp2_with (first | ((with_reducible refine zG Try.func34 33 #[.int .i64 a0] ?_); (with_reducible refine (impl_ClockNew.calls a0 t121 _ A17.1).mono ?_); rintro e w21 ⟨v122, rfl, ho0, hb⟩; refine ⟨_, rfl, ?_⟩; replace HO_5 := zM (Kd.S_elder' (zS HO_5.1) (Kd.R_base ho0) hb); replace HO_6 := zM (Kd.S_elder' (zS HO_6.1) (Kd.R_base ho0) hb); have HO123 := zM (Kd.R_lower ho0 (below_size zB1)); replace HB := zM (below_step zB1 hb); clear hb ho0; have p20 : 0 ≤ (x27_2 : Int) := zA; have q20 : (x27_2 : Int) < ((x6_2.length : Int) : Int) := zA; obtain ⟨go20, co20, eo20, gb20, gl20, cl20, HG20⟩ := Kd.S_form HO_6.1 (by omega); (first | cases eo20 | (injection eo20 with ea_ en_ ec_; (first | subst ea_ | (injection ea_ with ea_; subst ea_)); subst ec_; clear en_)); have GB20 := zM gb20; have GG20 := zM HG20; clear gb20 gl20 HG20; obtain ⟨_, ce20, hcl20, hM20, hcc20, hfr20, _, _⟩ := Kd.S_elem HO_6.1 [] (x27_2 : Int) p20 q20; obtain ⟨ve20_0, rfl, ge20_0⟩ := hM20; have hx20_0 := hcc20 0 _ rfl; have hf20_0 := hfr20 0; (try simp only [show ((Kd.slice 3 (Kd.int .i64))).sz = 1 from rfl, Nat.mul_one, Nat.add_zero] at hx20_0); (try simp only [show ((Kd.slice 3 (Kd.int .i64))).sz = 1 from rfl, Nat.mul_one, Nat.add_zero] at hf20_0); clear hcl20 hcc20 hfr20; replace p20 := eq_true p20; replace q20 := eq_true q20; obtain ⟨Ao22, co22, eo22⟩ := Kd.R_slice HO123.1; subst eo22; have HX23 := zM (show Kd.S (Kd.slice 3 (Kd.int .i64)) 29 w21 wq.heap.size (fun k_ => ((fun k_ => some k_ ≠ (v114 : Value).ownBlock)) k_ ∧ ¬ ((fun k_ => some k_ = (.slice Ao22 t121.length co22 : Value).ownBlock)) k_) (.slice (some ⟨go20, 0, none⟩) x6_2.length co15) x6_2 from (by refine zrS ?_; exact Kd.S_mono HO_6.1 (fun k_ hk => ⟨hk.1, fun e_ => hk.2 e_⟩))); obtain ⟨oki23, ce23, hcl23, hM23, hcc23, hfr23, hoki23, hH23⟩ := Kd.S_elem HX23.out [] (x27_2 : Int) zA (by have h_ : (x27_2 : Int) < ((x6_2.length : Int) : Int) := zA; first | exact h_ | (have e_ := (Kd.S_reads' HO_6.1).1; omega) | simpa using h_); obtain ⟨ve23_0, rfl, ge23_0⟩ := hM23; have HP23 := Kd.S_seg hH23 zA (by have h_ : (x27_2 : Int) < ((x6_2.length : Int) : Int) := zA; first | exact h_ | (have e_ := (Kd.S_reads' HO_6.1).1; omega) | simpa using h_) (seg := [.slice Ao22 t121.length co22]) (j := 0) (show 1 ≤ 1 from by decide) (x' := t121) (Kd.M_row (Kd.R_mono (Kd.R_tight rfl (Kd.R_mono (ok' := fun k_ => ((fun k_ => some k_ ≠ (v114 : Value).ownBlock)) k_ ∧ k_ ≠ go20) (Kd.R_apart' (Kd.R_apart' (HO123.1) (Kd.S_typed HO_5.1) (by decide)) (Kd.S_typed HO_6.1) (by decide)) (fun k_ hk => ⟨hk.1.2, fun e_ => (hk.2) (by rw [e_]; rfl)⟩))) (fun _ h_ => Or.inr (h_)))) (fun _ hk => hk) (fun k_ hk_ => ((Kd.R_mono (ok' := fun k_ => ((fun k_ => some k_ ≠ (v114 : Value).ownBlock)) k_ ∧ k_ ≠ go20) (Kd.R_apart' (Kd.R_apart' (HO123.1) (Kd.S_typed HO_5.1) (by decide)) (Kd.S_typed HO_6.1) (by decide)) (fun k_ hk => ⟨hk.1.2, fun e_ => (hk.2) (by rw [e_]; rfl)⟩))).1 k_ hk_.symm); have hx23_0 := hcc23 0 _ rfl; (try simp only [show ((Kd.slice 3 (Kd.int .i64))).sz = 1 from rfl, Nat.mul_one, Nat.add_zero] at hx23_0); have hf23_0 := hfr23 0; (try simp only [show ((Kd.slice 3 (Kd.int .i64))).sz = 1 from rfl, Nat.mul_one, Nat.add_zero] at hf23_0); clear hcl23 hcc23 hfr23 hoki23 hH23; (try simp only [show ((Kd.slice 3 (Kd.int .i64))).sz = 1 from rfl, Nat.mul_one, Nat.add_zero] at HP23)) | ((with_reducible refine gate_store (t := 29) (p := 34) rfl ?_); refine store_event (t := 29) (p := 34) (v := ?vo_w24) (w1 := (w21.setCell ⟨go20, (x27_2 : Int).toNat, none⟩ (.slice Ao22 t121.length co22))) ?hg ?ho ?hn ?hr ?_; (case ho => rfl); (case hg => rfl); (case hn => rfl); (case hr => exact zHH); intro w24 hw; have hg : w21.grownBy w24 (some go20) := (by rw [hw]; exact HP23.2); have hp_ : Kd.S (Kd.slice 3 (Kd.int .i64)) 29 w24 wq.heap.size (fun k_ => some k_ ≠ (v114 : Value).ownBlock) (.slice (some ⟨go20, 0, none⟩) x6_2.length co15) y124 := (by rw [hw, Ny124.1]; exact HP23.1); clear HP23; replace HO_5 := zM (Kd.S_after (v := (.slice (some ⟨go20, 0, none⟩) x6_2.length co15)) (v1 := (.slice (some ⟨go20, 0, none⟩) x6_2.length co15)) (ok := (fun k_ => some k_ ≠ (.slice Ao22 t121.length co22 : Value).ownBlock)) (by refine zrS ?_; exact Kd.S_mono HO_5.1 (fun _ hk => ⟨hk.2, hk.1⟩)) hg (.inl rfl)); replace HO_6 := zM hp_; replace HB := zM ((by rw [hw]; exact below_set (HB.1) GB20.1 : Below wq.heap.size wq w24)); clear HO123; clear hg hw hp_))
      (try simp only [← hl6_2])
      go_roundg k2
      case measure => have := HJ2.1; have := HK2.1; omega
      case rel => exact ⟨(y124), (wrap64 (x27_2 + 1)), zJJ, H', ⟨by have := HJ2.1; have := HK2.1; omega⟩, ⟨by (try simp only [hl6_2]); (with_reducible repeat (first | apply Kd.S_alloc | apply Kd.S_drewN | apply Kd.S_drew)); exact Kd.S_mono HO_5.1 (fun _ hk => hk.2)⟩, ⟨by (try simp only [hl6_2]); (with_reducible repeat (first | apply Kd.S_alloc | apply Kd.S_drewN | apply Kd.S_drew)); exact HO_6.1⟩, ⟨zB1⟩⟩
     rw [if_neg c16] at H
     have c16b0 := decide_eq_false c16
     (try (have c16b0_ := c16b0; simp only [hl6_2] at c16b0_))
     clear c16
     have H' := zM H
     clear H
     try have hcn_ := (HB.1.cell (World.block_lt_of_cell? wq _ HCN.out)).trans HCN.out
     go_wp2
     go_loopg [5, 38] k2 (fun kq v5 v38 w' => ∃ (x5_3 : List (List Int)) (x6_3 : List (List Int)) (x38_3 : Int), v38 = .int .i64 x38_3 ∧ Aside0 (impl_Clocks.l1 kq l1 x5_3 x6_3 l1 (l1.length : Int) x38_3 = some r) ∧ Aside0 (kq ≤ k2) ∧ Aside0 (Kd.S (Kd.slice 3 (Kd.int .i64)) 29 w' wq.heap.size (fun k_ => some k_ ≠ ((.slice Ao15 x6_2.length co15) : Value).ownBlock) v5 x5_3) ∧ Aside0 (Kd.S (Kd.slice 3 (Kd.int .i64)) 29 w' wq.heap.size (fun k_ => some k_ ≠ (v5 : Value).ownBlock) (.slice Ao15 x6_2.length co15) x6_3) ∧ Aside0 (Below wq.heap.size wq w'))
     case atStart => exact ⟨(y113), (x6_2), (0), zJJ, H', ⟨Nat.le_refl _⟩, ⟨by (try simp only [hl6_2]); (with_reducible repeat (first | apply Kd.S_alloc | apply Kd.S_drewN | apply Kd.S_drew)); exact HO_5.1⟩, ⟨by (try simp only [hl6_2]); (with_reducible repeat (first | apply Kd.S_alloc | apply Kd.S_drewN | apply Kd.S_drew)); exact HO_6.1⟩, ⟨zB1⟩⟩
     case round =>
      clear H'
      try clear hf2
      try clear hf20
      try clear hf23
      obtain ⟨x5_3, x6_3, x38_3, rfl, HA, HK3, HO_5, HO_6, HB⟩ := hrel
      have hl6_3 := (Kd.S_reads' HO_6.1).1
      rw [hl6_3] at HO_6
      (try simp only [hl6_3])
      (try simp only [hl6_3] at HO_5)
      cases gk with
      | zero => exact absurd HA.1 (by simp [impl_Clocks.l1])
      | succ k3 =>
       have H := HA.1
       clear HA
       simp only [impl_Clocks.l1] at H
       by_cases c25 : x38_3 < (l1.length : Int)
       rotate_left
       ·rw [if_neg c25] at H
        have c25b0 := decide_eq_false c25
        (try (have c25b0_ := c25b0; simp only [hl6_2, hl6_3] at c25b0_))
        clear c25
        obtain rfl := Option.some.inj H
        try have hcn_ := (HB.1.cell (World.block_lt_of_cell? wq _ HCN.out)).trans HCN.out
        go_wp2
        go_ret
        refine clocks_re HBZ.out ?_
        exact ⟨_, zE, by refine zrS ?_; exact Kd.S_mono HO_5.1 (fun _ hk => trivial), zB1⟩
       rw [if_pos c25] at H
       have c25b0 := decide_eq_true c25
       (try (have c25b0_ := c25b0; simp only [hl6_2, hl6_3] at c25b0_))
       clear c25
       replace H := zIt H
       obtain ⟨c26b0, H⟩ := H
       replace H := zIp H
       obtain ⟨c27, H⟩ := H
       have c27b0 := decide_eq_true c27
       (try (have c27b0_ := c27b0; simp only [hl6_2, hl6_3] at c27b0_))
       clear c27
       replace H := zIt H
       obtain ⟨c28b0, H⟩ := H
       replace H := zIp H
       obtain ⟨c29, H⟩ := H
       have c29b0 := decide_eq_true c29
       (try (have c29b0_ := c29b0; simp only [hl6_2, hl6_3] at c29b0_))
       clear c29
       replace H := zO H
       obtain ⟨t128, A30, H⟩ := H
       have c31b0 := eq_true (zA : 0 ≤ x38_3)
       replace H := zIp H
       obtain ⟨c32, H⟩ := H
       have c32b0 := eq_true c32
       have c32b1 : decide (x38_3 ≤ (l1.length : Int)) = true := decide_eq_true c32
       (try (have c32b1_ := c32b1; simp only [hl6_2, hl6_3] at c32b1_))
       clear c32
       replace H := zY H
       obtain ⟨y131, Ny131, H⟩ := H
       have H' := zM H
       clear H
       obtain ⟨p125, q125, ad125, e125, hx125_0, hx125_1, hx125_2, hx125_3, hx125_4⟩ := zRd (at_T31 HR1.1 x38_3)
       cases e125
       replace hx125_0 := (HB.1.cell (World.block_lt_of_cell? wq _ hx125_0)).trans hx125_0
       replace hx125_1 := (HB.1.cell (World.block_lt_of_cell? wq _ hx125_1)).trans hx125_1
       replace hx125_2 := (HB.1.cell (World.block_lt_of_cell? wq _ hx125_2)).trans hx125_2
       replace hx125_3 := (HB.1.cell (World.block_lt_of_cell? wq _ hx125_3)).trans hx125_3
       replace hx125_4 := (HB.1.cell (World.block_lt_of_cell? wq _ hx125_4)).trans hx125_4
       try have hcn_ := (HB.1.cell (World.block_lt_of_cell? wq _ HCN.out)).trans HCN.out
       go_wp2_with (first | ((with_reducible refine zBx 9 31 #[.int .i64 0, .int .i64 0, .int .i64 0, .int .i64 0, .int .i64 0] ?_); intro gb126 hg w33 hbox hb; replace HO_5 := zM (Kd.S_below (zS HO_5.1) hb); replace HO_6 := zM (Kd.S_below (zS HO_6.1) hb); have BK126 := zM hbox; have GW126 := zM ((by rw [hg]; exact (below_size zB1) : wq.heap.size ≤ gb126)); have GE126 := zM ((by rw [hg]; exact (below_size zB1) : wq.heap.size ≤ gb126)); replace HB := zM (below_step zB1 hb); clear hb hbox hg; have hcz34 := zc_5 (w := w33) BK126.1) | ((with_reducible refine gate_store (t := 31) (p := 9) rfl ?_); refine store_event (t := 31) (p := 9) (v := ?vo_w35) (w1 := (((((w33.setCell ⟨gb126, 0, none⟩ (.int .i64 ((rd_T31 l1 x38_3).f0))).setCell ⟨gb126, 1, none⟩ (.int .i64 ((rd_T31 l1 x38_3).f1))).setCell ⟨gb126, 2, none⟩ (.int .i64 ((rd_T31 l1 x38_3).f2))).setCell ⟨gb126, 3, none⟩ (.int .i64 ((rd_T31 l1 x38_3).f3))).setCell ⟨gb126, 4, none⟩ (.int .i64 ((rd_T31 l1 x38_3).f4)))) ?hg ?ho ?hn ?hr ?_; (case ho => rfl); (case hg => rfl); (case hn => rfl); (case hr => exact zHH); intro w35 hw; have n0_ : Aside0 (Kd.S (Kd.slice 3 (Kd.int .i64)) 29 w35 wq.heap.size (fun k_ => some k_ ≠ (.slice Ao15 x6_3.length co15 : Value).ownBlock) u5 x5_3) := ⟨(by rw [hw]; exact (by refine zrS ?_; exact Kd.S_mono (zfS (zfS (zfS (zfS (zfS (Kd.S_types HO_5.1 BK126.1 (by decide))))))) (fun _ hk => hk.1)))⟩; have n1_ : Aside0 (Kd.S (Kd.slice 3 (Kd.int .i64)) 29 w35 wq.heap.size (fun k_ => some k_ ≠ (u5 : Value).ownBlock) (.slice Ao15 x6_3.length co15) x6_3) := ⟨(by rw [hw]; exact (by refine zrS ?_; exact Kd.S_mono (zfS (zfS (zfS (zfS (zfS (Kd.S_types HO_6.1 BK126.1 (by decide))))))) (fun _ hk => hk.1)))⟩; have n2_ : Aside0 (w35.heap[gb126]? = some (.cells #[.int .i64 ((rd_T31 l1 x38_3).f0), .int .i64 ((rd_T31 l1 x38_3).f1), .int .i64 ((rd_T31 l1 x38_3).f2), .int .i64 ((rd_T31 l1 x38_3).f3), .int .i64 ((rd_T31 l1 x38_3).f4)] 31 (0, 0))) := ⟨(by rw [hw]; exact (by exact zp5 (zK BK126.1)))⟩; have n3_ : Aside0 (Below wq.heap.size wq w35) := ⟨(by rw [hw]; exact zB1)⟩; clear hw; clear HO_5; clear HO_6; clear BK126; clear HB; have HO_5 := n0_; have HO_6 := n1_; have BK126 := n2_; have HB := n3_; clear n0_ n1_ n2_ n3_; have hcz36 := zc_5 (w := w35) BK126.1; have p127 : 0 ≤ (((rd_T31 l1 x38_3).f0) : Int) := zA; have q127 : ((rd_T31 l1 x38_3).f0) < (x6_3.length : Int) := zA; obtain ⟨ad127, A127_0, c127_0, e127, hx127_0, hl127_0, hi127_0⟩ := at_L3 (Kd.S_reads' HO_6.1).2.2 ((rd_T31 l1 x38_3).f0) p127 q127; cases e127; obtain ⟨ce127, hce127, hMe127, hcc127⟩ := Kd.S_get HO_6.1 [] ((rd_T31 l1 x38_3).f0) p127 (by first | exact q127 | exact zA | (have e_ := (Kd.S_reads' HO_6.1).1; omega)); obtain ⟨ve127_0, rfl, ge127_0⟩ := hMe127; have hv127_0 := hcc127 0 _ rfl; rw [Nat.add_zero, show ((Kd.slice 3 (Kd.int .i64))).sz = 1 from rfl, Nat.mul_one] at hv127_0; replace hv127_0 := Option.some.inj (hv127_0.symm.trans hx127_0); rw [hv127_0] at ge127_0; have HL127_0 := zM (show Kd.R (Kd.int .i64) 3 _ _ _ _ (rd_L3 x6_3 ((rd_T31 l1 x38_3).f0)) from ge127_0); clear hv127_0 ge127_0; clear hcc127 hce127; have HR127_0 := zM hi127_0; have HC127_0 := zM hl127_0; clear hi127_0 hl127_0; replace p127 := eq_true p127; replace q127 := eq_true q127) | ((with_reducible refine zG Try.func35 48 #[.slice A127_0 (rd_L3 x6_3 ((rd_T31 l1 x38_3).f0)).length c127_0] ?_); (with_reducible refine (slices_Clone_int_int.calls _ _ (rd_L3 x6_3 ((rd_T31 l1 x38_3).f0)) t128 _ ?side1 ?side2 A30.1).mono ?_); (case side1 => exact zC HR127_0.1); (case side2 => exact HC127_0.1); rintro e w37 ⟨v129, rfl, ho0, hb⟩; refine ⟨_, rfl, ?_⟩; replace HO_5 := zM (Kd.S_elder' (zS HO_5.1) (Kd.R_base ho0) hb); replace HO_6 := zM (Kd.S_elder' (zS HO_6.1) (Kd.R_base ho0) hb); have HO130 := zM (Kd.R_lower (Kd.R_new' ho0 (Kd.R_lt (zR HL127_0.1))) (below_size zB1)); replace HL127_0 := zM (Kd.R_elder' (zR HL127_0.1) (Kd.R_base ho0) hb); replace BK126 := zM (zb BK126.1 hb); replace HR127_0 := zM (Kd.C_below (zC HR127_0.1) hb); replace HB := zM (below_step zB1 hb); clear hb ho0; have q38 : (x38_3 : Int) ≤ ((l1.length : Int) : Int) := zA; obtain ⟨i038, hi038, _, hsz38, _⟩ := info_parts info31; have hroom38 : l1.length ≤ c1 := HC1.1; have hC38 : Kd.C k31 _ (some ad125) l1.length l1 := HR1.1; have hcut38 := cut_to (P := Try.prog) 24 31 .i64 Try.underlying24 hi038 (some ad125) l1.length c1 x38_3 zA q38 hroom38; have hr38 := Kd.C_take (m := (x38_3 : Int).toNat) hC38 (by omega); have hy38 : y131.length = (x38_3 : Int).toNat := (by rw [Ny131.1, List.length_take]; omega); rw [← Ny131.1] at hr38; rw [← hy38] at hcut38; have HR134 := zM hr38; have HC134 := zM (show y131.length ≤ c1 from by omega); clear hr38 hC38 hroom38 hi038 hsz38; have KY38 := zM hy38; clear hy38; replace q38 := eq_true q38))
       go_loopg [10, 53] k3 (fun kq v10 v53 w' => ∃ (x10_4 : List Int) (x53_4 : Int), v53 = .int .i64 x53_4 ∧ Aside0 (impl_Clocks.l2 kq l1 x5_3 x6_3 x10_4 l1 (l1.length : Int) x38_3 y131 (y131.length : Int) x53_4 ((rd_T31 l1 x38_3).f0) ((rd_T31 l1 x38_3).f1) ((rd_T31 l1 x38_3).f2) ((rd_T31 l1 x38_3).f3) ((rd_T31 l1 x38_3).f4) = some r) ∧ Aside0 (kq ≤ k3) ∧ Aside0 (Kd.S (Kd.slice 3 (Kd.int .i64)) 29 w' wq.heap.size (fun k_ => some k_ ≠ ((.slice (some ad127) x6_3.length co15) : Value).ownBlock ∧ some k_ ≠ (v10 : Value).ownBlock) u5 x5_3) ∧ Aside0 (Kd.S (Kd.slice 3 (Kd.int .i64)) 29 w' wq.heap.size (fun k_ => some k_ ≠ (u5 : Value).ownBlock ∧ some k_ ≠ (v10 : Value).ownBlock) (.slice (some ad127) x6_3.length co15) x6_3) ∧ Aside0 (Kd.R (Kd.int .i64) 3 w' wq.heap.size (fun _ => True) v10 x10_4) ∧ Aside0 (w'.heap[gb126]? = some (.cells #[.int .i64 ((rd_T31 l1 x38_3).f0), .int .i64 ((rd_T31 l1 x38_3).f1), .int .i64 ((rd_T31 l1 x38_3).f2), .int .i64 ((rd_T31 l1 x38_3).f3), .int .i64 ((rd_T31 l1 x38_3).f4)] 31 (0, 0))) ∧ Aside0 (Below wq.heap.size wq w'))
       case atStart => exact ⟨(t128), (0), zJJ, H', ⟨Nat.le_refl _⟩, ⟨by (try simp only [hl6_2]); (try simp only [hl6_3]); (with_reducible repeat (first | apply Kd.S_alloc | apply Kd.S_drewN | apply Kd.S_drew)); exact HO_5.1⟩, ⟨by (try simp only [hl6_2]); (try simp only [hl6_3]); (with_reducible repeat (first | apply Kd.S_alloc | apply Kd.S_drewN | apply Kd.S_drew)); exact HO_6.1⟩, ⟨by (try simp only [hl6_2]); (try simp only [hl6_3]); (with_reducible repeat (first | apply Kd.R_alloc | apply Kd.R_drewN | apply Kd.R_drew)); exact Kd.R_mono HO130.1 (fun _ hk => trivial)⟩, ⟨by (try simp only [hl6_2]); (try simp only [hl6_3]); refine zP ?_; exact BK126.1⟩, ⟨zB1⟩⟩
       case round =>
        clear H'
        try clear hf2
        try clear hf20
        try clear hf23
        obtain ⟨x10_4, x53_4, rfl, HA, HK4, HO_5, HO_6, HO_10, BK126, HB⟩ := hrel
        cases gk with
        | zero => exact absurd HA.1 (by simp [impl_Clocks.l2])
        | succ k4 =>
         have H := HA.1
         clear HA
         simp only [impl_Clocks.l2] at H
         by_cases c39 : x53_4 < (y131.length : Int)
         rotate_left
         ·rw [if_neg c39] at H
          have c39b0 := decide_eq_false c39
          (try (have c39b0_ := c39b0; simp only [hl6_2, hl6_3] at c39b0_))
          clear c39
          replace H := zIt H
          obtain ⟨c82b0, H⟩ := H
          replace H := zIp H
          obtain ⟨c83, H⟩ := H
          have c83b0 := decide_eq_true c83
          (try (have c83b0_ := c83b0; simp only [hl6_2, hl6_3] at c83b0_))
          clear c83
          generalize hy136 : ((x10_4.set (((rd_T31 l1 x38_3).f0) : Int).toNat (wrap64 ((rd x10_4 ((rd_T31 l1 x38_3).f0)) + 1))) : List Int) = y136 at H
          have Ny136 := zM hy136.symm
          clear hy136
          replace H := zIp H
          obtain ⟨c85, H⟩ := H
          have c85b0 := decide_eq_true c85
          (try (have c85b0_ := c85b0; simp only [hl6_2, hl6_3] at c85b0_))
          clear c85
          replace H := zY H
          obtain ⟨y137, Ny137, H⟩ := H
          replace H := zO H
          obtain ⟨t139, A87, H⟩ := H
          replace H := zIn H
          obtain ⟨LMc88, H⟩ := H
          generalize hy142 : ((x5_3 ++ [t139]) : List (List Int)) = y142 at H
          have Ny142 := zM hy142.symm
          clear hy142
          have H' := zM H
          clear H
          have hcz89 := zc_5 (w := wr) BK126.1
          obtain ⟨Ao90, co90, eo90⟩ := Kd.R_slice HO_10.1
          subst eo90
          obtain ⟨p135, q135, ad135, e135, hx135_0⟩ := zRd (Kd.at_int (Kd.R_reads' HO_10.1).2.2 ((rd_T31 l1 x38_3).f0))
          cases e135
          have p84 : 0 ≤ (((rd_T31 l1 x38_3).f0) : Int) := zA
          have q84 : (((rd_T31 l1 x38_3).f0) : Int) < ((x10_4.length : Int) : Int) := zA
          obtain ⟨go84, co84, eo84, gb84, gl84, cl84, HG84⟩ := Kd.R_form HO_10.1 (by omega)
          (first | cases eo84 | (injection eo84 with ea_ en_ ec_; (first | subst ea_ | (injection ea_ with ea_; subst ea_)); subst ec_; clear en_))
          have GB84 := zM gb84
          have GG84 := zM HG84
          clear gb84 gl84 HG84
          (first | simp only [add_plain] at hx135_0 | skip)
          obtain ⟨hx84_0, hf84_0⟩ := Kd.R_celln 0 HO_10.1 (((rd_T31 l1 x38_3).f0) : Int) p84 q84
          replace p84 := eq_true p84
          replace q84 := eq_true q84
          have HP91 := Kd.R_putg HO_10.1 (((rd_T31 l1 x38_3).f0) : Int) (wrap64 ((rd x10_4 ((rd_T31 l1 x38_3).f0)) + 1))
          try have hcn_ := (HB.1.cell (World.block_lt_of_cell? wq _ HCN.out)).trans HCN.out
          go_wp2_with (first | ((with_reducible refine gate_store (t := 3) (p := 84) rfl ?_); refine store_event (t := 3) (p := 84) (v := ?vo_w92) (w1 := (wr.setCell ⟨go84, (((rd_T31 l1 x38_3).f0) : Int).toNat, none⟩ (.int .i64 (wrap64 ((rd x10_4 ((rd_T31 l1 x38_3).f0)) + 1))))) ?hg ?ho ?hn ?hr ?_; (case ho => rfl); (case hg => rfl); (case hn => rfl); (case hr => exact zHH); intro w92 hw; have hg : wr.grownBy w92 (some go84) := (by rw [hw]; exact HP91.2); have hp_ : Kd.R (Kd.int .i64) 3 w92 wq.heap.size (fun _ => True) (.slice (some ⟨go84, 0, none⟩) x10_4.length co90) y136 := (by rw [hw, Ny136.1]; exact HP91.1); clear HP91; replace HO_5 := zM (Kd.S_after (v := (.slice (some ⟨go84, 0, none⟩) x10_4.length co90)) (v1 := (.slice (some ⟨go84, 0, none⟩) x10_4.length co90)) (ok := (fun k_ => some k_ ≠ (.slice (some ad127) x6_3.length co15 : Value).ownBlock)) (zS HO_5.1) hg (.inl rfl)); replace HO_6 := zM (Kd.S_after (v := (.slice (some ⟨go84, 0, none⟩) x10_4.length co90)) (v1 := (.slice (some ⟨go84, 0, none⟩) x10_4.length co90)) (ok := (fun k_ => some k_ ≠ (u5 : Value).ownBlock)) (zS HO_6.1) hg (.inl rfl)); replace BK126 := zM (zg BK126.1 hg (Kd.R_ne HO_10.1 BK126.1 (by decide))); replace HO_10 := zM hp_; replace HB := zM ((by rw [hw]; exact below_set (HB.1) GB84.1 : Below wq.heap.size wq w92)); clear hg hw hp_; have hcz93 := zc_5 (w := w92) BK126.1; have p86 : 0 ≤ (((rd_T31 l1 x38_3).f0) : Int) := zA; have q86 : (((rd_T31 l1 x38_3).f0) : Int) < ((x6_3.length : Int) : Int) := zA; obtain ⟨go86, co86, eo86, gb86, gl86, cl86, HG86⟩ := Kd.S_form HO_6.1 (by omega); (first | cases eo86 | (injection eo86 with ea_ en_ ec_; (first | subst ea_ | (injection ea_ with ea_; subst ea_)); subst ec_; clear en_)); have GB86 := zM gb86; have GG86 := zM HG86; clear gb86 gl86 HG86; (first | simp only [add_plain] at hx127_0 | skip); obtain ⟨_, ce86, hcl86, hM86, hcc86, hfr86, _, _⟩ := Kd.S_elem HO_6.1 [] (((rd_T31 l1 x38_3).f0) : Int) p86 q86; obtain ⟨ve86_0, rfl, ge86_0⟩ := hM86; have hx86_0 := hcc86 0 _ rfl; have hf86_0 := hfr86 0; (try simp only [show ((Kd.slice 3 (Kd.int .i64))).sz = 1 from rfl, Nat.mul_one, Nat.add_zero] at hx86_0); (try simp only [show ((Kd.slice 3 (Kd.int .i64))).sz = 1 from rfl, Nat.mul_one, Nat.add_zero] at hf86_0); clear hcl86 hcc86 hfr86; replace p86 := eq_true p86; replace q86 := eq_true q86; have HX94 := zM (show Kd.S (Kd.slice 3 (Kd.int .i64)) 29 w92 wq.heap.size (fun k_ => ((fun k_ => some k_ ≠ (u5 : Value).ownBlock)) k_ ∧ ¬ ((fun k_ => some k_ = (.slice (some ⟨go84, 0, none⟩) x10_4.length co90 : Value).ownBlock)) k_) (.slice (some ⟨go86, 0, none⟩) x6_3.length co15) x6_3 from (by refine zrS ?_; exact Kd.S_mono HO_6.1 (fun k_ hk => ⟨hk.1, fun e_ => hk.2 e_⟩))); obtain ⟨oki94, ce94, hcl94, hM94, hcc94, hfr94, hoki94, hH94⟩ := Kd.S_elem HX94.out [] (((rd_T31 l1 x38_3).f0) : Int) zA (by have h_ : (((rd_T31 l1 x38_3).f0) : Int) < ((x6_3.length : Int) : Int) := zA; first | exact h_ | (have e_ := (Kd.S_reads' HO_6.1).1; omega) | simpa using h_); obtain ⟨ve94_0, rfl, ge94_0⟩ := hM94; have HP94 := Kd.S_seg hH94 zA (by have h_ : (((rd_T31 l1 x38_3).f0) : Int) < ((x6_3.length : Int) : Int) := zA; first | exact h_ | (have e_ := (Kd.S_reads' HO_6.1).1; omega) | simpa using h_) (seg := [.slice (some ⟨go84, 0, none⟩) x10_4.length co90]) (j := 0) (show 1 ≤ 1 from by decide) (x' := y136) (Kd.M_row (Kd.R_mono (Kd.R_tight rfl (Kd.R_mono (ok' := fun k_ => ((fun k_ => some k_ ≠ (u5 : Value).ownBlock)) k_ ∧ k_ ≠ go86) (Kd.R_apart' (Kd.R_apart' (HO_10.1) (Kd.S_typed HO_5.1) (by decide)) (Kd.S_typed HO_6.1) (by decide)) (fun k_ hk => ⟨hk.1.2, fun e_ => (hk.2) (by rw [e_]; rfl)⟩))) (fun _ h_ => Or.inr (h_)))) (fun _ hk => hk) (fun k_ hk_ => ((Kd.R_mono (ok' := fun k_ => ((fun k_ => some k_ ≠ (u5 : Value).ownBlock)) k_ ∧ k_ ≠ go86) (Kd.R_apart' (Kd.R_apart' (HO_10.1) (Kd.S_typed HO_5.1) (by decide)) (Kd.S_typed HO_6.1) (by decide)) (fun k_ hk => ⟨hk.1.2, fun e_ => (hk.2) (by rw [e_]; rfl)⟩))).1 k_ hk_.symm); have hx94_0 := hcc94 0 _ rfl; (try simp only [show ((Kd.slice 3 (Kd.int .i64))).sz = 1 from rfl, Nat.mul_one, Nat.add_zero] at hx94_0); have hf94_0 := hfr94 0; (try simp only [show ((Kd.slice 3 (Kd.int .i64))).sz = 1 from rfl, Nat.mul_one, Nat.add_zero] at hf94_0); clear hcl94 hcc94 hfr94 hoki94 hH94; (try simp only [show ((Kd.slice 3 (Kd.int .i64))).sz = 1 from rfl, Nat.mul_one, Nat.add_zero] at HP94)) | ((with_reducible refine gate_store (t := 29) (p := 89) rfl ?_); refine store_event (t := 29) (p := 89) (v := ?vo_w95) (w1 := (w92.setCell ⟨go86, (((rd_T31 l1 x38_3).f0) : Int).toNat, none⟩ (.slice (some ⟨go84, 0, none⟩) x10_4.length co90))) ?hg ?ho ?hn ?hr ?_; (case ho => rfl); (case hg => rfl); (case hn => rfl); (case hr => exact zHH); intro w95 hw; have hg : w92.grownBy w95 (some go86) := (by rw [hw]; exact HP94.2); have hp_ : Kd.S (Kd.slice 3 (Kd.int .i64)) 29 w95 wq.heap.size (fun k_ => some k_ ≠ (u5 : Value).ownBlock) (.slice (some ⟨go86, 0, none⟩) x6_3.length co15) y137 := (by rw [hw, Ny137.1]; exact HP94.1); clear HP94; replace HO_5 := zM (Kd.S_after (v := (.slice (some ⟨go86, 0, none⟩) x6_3.length co15)) (v1 := (.slice (some ⟨go86, 0, none⟩) x6_3.length co15)) (ok := (fun k_ => some k_ ≠ (.slice (some ⟨go84, 0, none⟩) x10_4.length co90 : Value).ownBlock)) (by refine zrS ?_; exact Kd.S_mono HO_5.1 (fun _ hk => ⟨hk.2, hk.1⟩)) hg (.inl rfl)); replace BK126 := zM (zg BK126.1 hg (Kd.S_ne HO_6.1 BK126.1 (by decide))); replace HO_6 := zM hp_; replace HB := zM ((by rw [hw]; exact below_set (HB.1) GB86.1 : Below wq.heap.size wq w95)); clear HO_10; have HST_ := zM (show w95.cell? ⟨go86, (((rd_T31 l1 x38_3).f0) : Int).toNat, none⟩ = some (.slice (some ⟨go84, 0, none⟩) x10_4.length co90) by rw [hw]; first | exact World.cell?_setCell_same _ _ _ hx94_0 | exact World.cell?_setCell_same _ _ _ hx86_0); clear hg hw hp_; have hcz96 := zc_5 (w := w95) BK126.1; have p138 : 0 ≤ (((rd_T31 l1 x38_3).f0) : Int) := zA; have q138 : ((rd_T31 l1 x38_3).f0) < (y137.length : Int) := (by have h_ : (((rd_T31 l1 x38_3).f0) : Int) < ((x6_3.length : Int) : Int) := zA; first | (have e_ := (Kd.S_reads' HO_6.1).1; omega) | simpa only [Ny137.1, List.length_set] using h_); have ql138 : ((((rd_T31 l1 x38_3).f0) : Int) < ((x6_3.length : Int) : Int)) = True := eq_true zA; obtain ⟨ad138, A138_0, c138_0, e138, hx138_0, hl138_0, hi138_0⟩ := at_L3 (Kd.S_reads' HO_6.1).2.2 ((rd_T31 l1 x38_3).f0) p138 q138; obtain rfl : (⟨go86, 0, none⟩ : Addr) = ad138 := (by injection e138); obtain ⟨ce138, hce138, hMe138, hcc138⟩ := Kd.S_get HO_6.1 [] ((rd_T31 l1 x38_3).f0) p138 (by first | exact q138 | exact zA | (have e_ := (Kd.S_reads' HO_6.1).1; omega)); obtain ⟨ve138_0, rfl, ge138_0⟩ := hMe138; have hv138_0 := hcc138 0 _ rfl; rw [Nat.add_zero, show ((Kd.slice 3 (Kd.int .i64))).sz = 1 from rfl, Nat.mul_one] at hv138_0; replace hv138_0 := Option.some.inj (hv138_0.symm.trans hx138_0); rw [hv138_0] at ge138_0; have HL138_0 := zM (show Kd.R (Kd.int .i64) 3 _ _ _ _ (rd_L3 y137 ((rd_T31 l1 x38_3).f0)) from ge138_0); clear hv138_0 ge138_0; clear hcc138 hce138; (first | simp only [add_plain] at hx138_0 | simp only [add_at] at hx138_0 | simp only [Addr.add, Nat.zero_add] at hx138_0 | skip); obtain ⟨rfl, hsn_, rfl⟩ : (some ⟨go84, 0, none⟩) = A138_0 ∧ x10_4.length = (rd_L3 y137 ((rd_T31 l1 x38_3).f0)).length ∧ co90 = c138_0 := Value.slice.inj (Option.some.inj (HST_.out.symm.trans hx138_0)); have HSN_ := zM hsn_; clear hsn_ HST_; have HR138_0 := zM hi138_0; have HC138_0 := zM hl138_0; clear hi138_0 hl138_0; replace p138 := eq_true p138; replace q138 := eq_true q138) | ((with_reducible refine zG Try.func35 92 #[.slice (some ⟨go84, 0, none⟩) x10_4.length co90] ?_); rw [HSN_.out]; (with_reducible refine (slices_Clone_int_int.calls _ _ (rd_L3 y137 ((rd_T31 l1 x38_3).f0)) t139 _ ?side1 ?side2 A87.1).mono ?_); (case side1 => exact zC HR138_0.1); (case side2 => exact HC138_0.1); rintro e w97 ⟨v140, rfl, ho0, hb⟩; refine ⟨_, rfl, ?_⟩; replace HO_5 := zM (Kd.S_elder' (zS HO_5.1) (Kd.R_base ho0) hb); replace HO_6 := zM (Kd.S_elder' (zS HO_6.1) (Kd.R_base ho0) hb); have HO141 := zM (Kd.R_lower (Kd.R_new' ho0 (Kd.R_lt (zR HL138_0.1))) (below_size zB1)); replace HL138_0 := zM (Kd.R_elder' (zR HL138_0.1) (Kd.R_base ho0) hb); replace BK126 := zM (zb BK126.1 hb); replace HR138_0 := zM (Kd.C_below (zC HR138_0.1) hb); replace HB := zM (below_step zB1 hb); clear hb ho0; obtain ⟨Ao99, co99, eo99⟩ := Kd.R_slice HO141.1; subst eo99) | ((with_reducible refine gate_builtin (b := .append) (xs := #[.tmp 90, .tmp 93]) rfl ?_); at_builtin; refine Kd.S_append (Kd.slice 3 (Kd.int .i64)) (w0 := wq) wq.heap.size rfl (.tmp 90) (.tmp 93) 35 29 (.slice none 0 0) 24 rfl Try.underlying35 info29 rfl (by decide) (by omega) u5 x5_3 t139 [.slice Ao99 t139.length co99] (fun k_ => some k_ ≠ (.slice (some ⟨go86, 0, none⟩) x6_3.length co15 : Value).ownBlock) (fun k_ => some k_ = (.slice Ao99 t139.length co99 : Value).ownBlock) rfl rfl ?aP (fun k_ hk_ => ((Kd.R_mono (ok' := fun k_ => ((fun k_ => some k_ ≠ (.slice (some ⟨go86, 0, none⟩) x6_3.length co15 : Value).ownBlock)) k_ ∧ some k_ ≠ (u5 : Value).ownBlock) (Kd.R_apart' (Kd.R_apart' (HO141.1) (Kd.S_typed HO_6.1) (by decide)) (Kd.S_typed HO_5.1) (by decide)) (fun k_ hk => ⟨hk.1.2, hk.2⟩))).1 k_ hk_.symm) ?aF ?aO ?aB ?aS ?aL ?_; (case aP => exact Kd.M_row (Kd.R_mono (Kd.R_tight rfl (Kd.R_mono (ok' := fun k_ => ((fun k_ => some k_ ≠ (.slice (some ⟨go86, 0, none⟩) x6_3.length co15 : Value).ownBlock)) k_ ∧ some k_ ≠ (u5 : Value).ownBlock) (Kd.R_apart' (Kd.R_apart' (HO141.1) (Kd.S_typed HO_6.1) (by decide)) (Kd.S_typed HO_5.1) (by decide)) (fun k_ hk => ⟨hk.1.2, hk.2⟩))) (fun _ h_ => h_))); (case aB => exact zB1); (case aF => exact (fun k_ hk => Kd.fresh' (Kd.S_lt (zS HO_6.1)) k_ hk)); (case aO => exact (by refine zrS ?_; exact Kd.S_mono HO_5.1 (fun k_ hk => ⟨hk.1.2, fun e_ => hk.2 e_⟩))); (case aS => exact (below_size zB1)); (case aL => have := LMc88.out; omega); intro v143 w98 ho hb hg hat; rw [← Ny142.1] at ho; replace HO_6 := zM (Kd.S_after (ok := (fun k_ => some k_ ≠ (.slice Ao99 t139.length co99 : Value).ownBlock)) (by refine zrS ?_; exact Kd.S_mono HO_6.1 (fun _ hk => ⟨hk.2, hk.1⟩)) hg hat); replace BK126 := zM (zg BK126.1 hg (Kd.S_ne HO_5.1 BK126.1 (by decide))); replace HL138_0 := zM (Kd.R_after (ok := (fun k_ => some k_ ≠ (.slice (some ⟨go86, 0, none⟩) x6_3.length co15 : Value).ownBlock ∧ some k_ ≠ (.slice Ao99 t139.length co99 : Value).ownBlock)) (by refine zrR ?_; exact Kd.R_mono HL138_0.1 (fun _ hk => ⟨⟨hk.1.2, hk.2⟩, hk.1.1⟩)) hg hat); replace HB := zM hb; have HO144 := zM ho; clear HO_5 HO141; clear ho hb hg hat))
          (try simp only [← hl6_3])
          go_roundg k4
          case measure => have := HJ2.1; have := HK2.1; have := HK3.1; have := HK4.1; omega
          case rel => exact ⟨(y142), (y137), (wrap64 (x38_3 + 1)), zJJ, H', ⟨by have := HJ2.1; have := HK2.1; have := HK3.1; have := HK4.1; omega⟩, ⟨by (try simp only [hl6_2]); (try simp only [hl6_3]); (with_reducible repeat (first | apply Kd.S_alloc | apply Kd.S_drewN | apply Kd.S_drew)); exact HO144.1⟩, ⟨by (try simp only [hl6_2]); (try simp only [hl6_3]); (with_reducible repeat (first | apply Kd.S_alloc | apply Kd.S_drewN | apply Kd.S_drew)); exact Kd.S_mono HO_6.1 (fun _ hk => hk.2)⟩, ⟨zB1⟩⟩
         rw [if_pos c39] at H
         have c39b0 := decide_eq_true c39
         (try (have c39b0_ := c39b0; simp only [hl6_2, hl6_3] at c39b0_))
         clear c39
         replace H := zIt H
         obtain ⟨c40b0, H⟩ := H
         replace H := zIp H
         obtain ⟨c41, H⟩ := H
         have c41b0 := decide_eq_true c41
         (try (have c41b0_ := c41b0; simp only [hl6_2, hl6_3] at c41b0_))
         clear c41
         replace H := zO H
         obtain ⟨t147, A42, H⟩ := H
         by_cases c43 : t147 = true
         rotate_left
         ·replace c43 := Bool.eq_false_iff.mpr c43
          subst c43
          rw [if_neg zF] at H
          have H' := zM H
          clear H
          obtain ⟨p145, q145, ad145, e145, hx145_0, hx145_1, hx145_2, hx145_3, hx145_4⟩ := zRd (at_T31 HR134.1 x53_4)
          obtain rfl : ad125 = ad145 := (by injection e145)
          replace hx145_0 := (HB.1.cell (World.block_lt_of_cell? wq _ hx145_0)).trans hx145_0
          replace hx145_1 := (HB.1.cell (World.block_lt_of_cell? wq _ hx145_1)).trans hx145_1
          replace hx145_2 := (HB.1.cell (World.block_lt_of_cell? wq _ hx145_2)).trans hx145_2
          replace hx145_3 := (HB.1.cell (World.block_lt_of_cell? wq _ hx145_3)).trans hx145_3
          replace hx145_4 := (HB.1.cell (World.block_lt_of_cell? wq _ hx145_4)).trans hx145_4
          try have hcn_ := (HB.1.cell (World.block_lt_of_cell? wq _ HCN.out)).trans HCN.out
          go_wp2_with (first | ((with_reducible refine zBx 12 31 #[.int .i64 0, .int .i64 0, .int .i64 0, .int .i64 0, .int .i64 0] ?_); intro gb146 hg w77 hbox hb; replace HO_5 := zM (Kd.S_below (zS HO_5.1) hb); replace HO_6 := zM (Kd.S_below (zS HO_6.1) hb); replace HO_10 := zM (Kd.R_below (zR HO_10.1) hb); have BK146 := zM hbox; have GW146 := zM ((by rw [hg]; exact (below_size zB1) : wq.heap.size ≤ gb146)); have GE146 := zM ((by rw [hg]; exact (below_size zB1) : wq.heap.size ≤ gb146)); replace HB := zM (below_step zB1 hb); have NB126_146 := zM ((zn BK126.1 hg : gb126 ≠ gb146)); have NB146_126 := zM ((zm BK126.1 hg : gb146 ≠ gb126)); replace BK126 := zM (zb BK126.1 hb); clear hb hbox hg; have hnb78 := NB146_126.1; have hnc78 := NB126_146.1; have hcz79 := zc_5 (w := w77) BK146.1; have hcz80 := zc_5 (w := w77) BK126.1) | ((with_reducible refine zG Try.func36 59 #[.agg #[.int .i64 ((rd_T31 l1 x38_3).f0), .int .i64 ((rd_T31 l1 x38_3).f1), .int .i64 ((rd_T31 l1 x38_3).f2), .int .i64 ((rd_T31 l1 x38_3).f3), .int .i64 ((rd_T31 l1 x38_3).f4)]] ?_); (with_reducible refine (impl_isSwap.calls ((rd_T31 l1 x38_3).f0) ((rd_T31 l1 x38_3).f1) ((rd_T31 l1 x38_3).f2) ((rd_T31 l1 x38_3).f3) ((rd_T31 l1 x38_3).f4) false _ A42.1).mono ?_); rintro e w81 ⟨rfl, hb⟩; refine ⟨_, rfl, ?_⟩; replace HO_5 := zM (Kd.S_below (by refine zrS ?_; exact (Kd.S_mono (zfS (zfS (zfS (zfS (zfS (Kd.S_types HO_5.1 BK146.1 (by decide))))))) (fun _ h_ => h_.1))) hb); replace HO_6 := zM (Kd.S_below (by refine zrS ?_; exact (Kd.S_mono (zfS (zfS (zfS (zfS (zfS (Kd.S_types HO_6.1 BK146.1 (by decide))))))) (fun _ h_ => h_.1))) hb); replace HO_10 := zM (Kd.R_below (by refine zrR ?_; exact (Kd.R_mono (zfR (zfR (zfR (zfR (zfR (Kd.R_types HO_10.1 BK146.1 (by decide))))))) (fun _ h_ => h_.1))) hb); replace BK126 := zM (zf BK126.1 hb); replace BK146 := zM (blk_below (g := gb146) (o := .cells #[.int .i64 ((rd_T31 y131 x53_4).f0), .int .i64 ((rd_T31 y131 x53_4).f1), .int .i64 ((rd_T31 y131 x53_4).f2), .int .i64 ((rd_T31 y131 x53_4).f3), .int .i64 ((rd_T31 y131 x53_4).f4)] 31 (0, 0)) (by exact zp5 (zK BK146.1)) hb); replace HB := zM (below_step zB1 hb); clear hb))
          go_roundg k4
          case measure => have := HJ2.1; have := HK2.1; have := HK3.1; have := HK4.1; omega
          case rel => exact ⟨(x10_4), (wrap64 (x53_4 + 1)), zJJ, H', ⟨by have := HJ2.1; have := HK2.1; have := HK3.1; have := HK4.1; omega⟩, ⟨by (try simp only [hl6_2]); (try simp only [hl6_3]); (with_reducible repeat (first | apply Kd.S_alloc | apply Kd.S_drewN | apply Kd.S_drew)); exact HO_5.1⟩, ⟨by (try simp only [hl6_2]); (try simp only [hl6_3]); (with_reducible repeat (first | apply Kd.S_alloc | apply Kd.S_drewN | apply Kd.S_drew)); exact HO_6.1⟩, ⟨by (try simp only [hl6_2]); (try simp only [hl6_3]); (with_reducible repeat (first | apply Kd.R_alloc | apply Kd.R_drewN | apply Kd.R_drew)); exact HO_10.1⟩, ⟨by (try simp only [hl6_2]); (try simp only [hl6_3]); refine zP ?_; exact BK126.1⟩, ⟨zB1⟩⟩
         subst c43
         rw [if_pos rfl] at H
         replace H := zO H
         obtain ⟨t148, A44, H⟩ := H
         by_cases c45 : t148 = true
         rotate_left
         ·replace c45 := Bool.eq_false_iff.mpr c45
          subst c45
          rw [if_neg zF] at H
          have H' := zM H
          clear H
          obtain ⟨p145, q145, ad145, e145, hx145_0, hx145_1, hx145_2, hx145_3, hx145_4⟩ := zRd (at_T31 HR134.1 x53_4)
          obtain rfl : ad125 = ad145 := (by injection e145)
          replace hx145_0 := (HB.1.cell (World.block_lt_of_cell? wq _ hx145_0)).trans hx145_0
          replace hx145_1 := (HB.1.cell (World.block_lt_of_cell? wq _ hx145_1)).trans hx145_1
          replace hx145_2 := (HB.1.cell (World.block_lt_of_cell? wq _ hx145_2)).trans hx145_2
          replace hx145_3 := (HB.1.cell (World.block_lt_of_cell? wq _ hx145_3)).trans hx145_3
          replace hx145_4 := (HB.1.cell (World.block_lt_of_cell? wq _ hx145_4)).trans hx145_4
          try have hcn_ := (HB.1.cell (World.block_lt_of_cell? wq _ HCN.out)).trans HCN.out
          go_wp2_with (first | ((with_reducible refine zBx 12 31 #[.int .i64 0, .int .i64 0, .int .i64 0, .int .i64 0, .int .i64 0] ?_); intro gb146 hg w70 hbox hb; replace HO_5 := zM (Kd.S_below (zS HO_5.1) hb); replace HO_6 := zM (Kd.S_below (zS HO_6.1) hb); replace HO_10 := zM (Kd.R_below (zR HO_10.1) hb); have BK146 := zM hbox; have GW146 := zM ((by rw [hg]; exact (below_size zB1) : wq.heap.size ≤ gb146)); have GE146 := zM ((by rw [hg]; exact (below_size zB1) : wq.heap.size ≤ gb146)); replace HB := zM (below_step zB1 hb); have NB126_146 := zM ((zn BK126.1 hg : gb126 ≠ gb146)); have NB146_126 := zM ((zm BK126.1 hg : gb146 ≠ gb126)); replace BK126 := zM (zb BK126.1 hb); clear hb hbox hg; have hnb71 := NB146_126.1; have hnc71 := NB126_146.1; have hcz72 := zc_5 (w := w70) BK146.1; have hcz73 := zc_5 (w := w70) BK126.1) | ((with_reducible refine zG Try.func36 59 #[.agg #[.int .i64 ((rd_T31 l1 x38_3).f0), .int .i64 ((rd_T31 l1 x38_3).f1), .int .i64 ((rd_T31 l1 x38_3).f2), .int .i64 ((rd_T31 l1 x38_3).f3), .int .i64 ((rd_T31 l1 x38_3).f4)]] ?_); (with_reducible refine (impl_isSwap.calls ((rd_T31 l1 x38_3).f0) ((rd_T31 l1 x38_3).f1) ((rd_T31 l1 x38_3).f2) ((rd_T31 l1 x38_3).f3) ((rd_T31 l1 x38_3).f4) true _ A42.1).mono ?_); rintro e w74 ⟨rfl, hb⟩; refine ⟨_, rfl, ?_⟩; replace HO_5 := zM (Kd.S_below (by refine zrS ?_; exact (Kd.S_mono (zfS (zfS (zfS (zfS (zfS (Kd.S_types HO_5.1 BK146.1 (by decide))))))) (fun _ h_ => h_.1))) hb); replace HO_6 := zM (Kd.S_below (by refine zrS ?_; exact (Kd.S_mono (zfS (zfS (zfS (zfS (zfS (Kd.S_types HO_6.1 BK146.1 (by decide))))))) (fun _ h_ => h_.1))) hb); replace HO_10 := zM (Kd.R_below (by refine zrR ?_; exact (Kd.R_mono (zfR (zfR (zfR (zfR (zfR (Kd.R_types HO_10.1 BK146.1 (by decide))))))) (fun _ h_ => h_.1))) hb); replace BK126 := zM (zf BK126.1 hb); replace BK146 := zM (blk_below (g := gb146) (o := .cells #[.int .i64 ((rd_T31 y131 x53_4).f0), .int .i64 ((rd_T31 y131 x53_4).f1), .int .i64 ((rd_T31 y131 x53_4).f2), .int .i64 ((rd_T31 y131 x53_4).f3), .int .i64 ((rd_T31 y131 x53_4).f4)] 31 (0, 0)) (by exact zp5 (zK BK146.1)) hb); replace HB := zM (below_step zB1 hb); clear hb; have hcz75 := zc_5 (w := w74) BK146.1) | (go_at_call 36; (with_reducible refine (impl_isSwap.calls ((rd_T31 y131 x53_4).f0) ((rd_T31 y131 x53_4).f1) ((rd_T31 y131 x53_4).f2) ((rd_T31 y131 x53_4).f3) ((rd_T31 y131 x53_4).f4) false _ A44.1).mono ?_); rintro e w76 ⟨rfl, hb⟩; replace HO_5 := zM (Kd.S_below (zS HO_5.1) hb); replace HO_6 := zM (Kd.S_below (zS HO_6.1) hb); replace HO_10 := zM (Kd.R_below (zR HO_10.1) hb); replace BK126 := zM (zb BK126.1 hb); replace BK146 := zM (zb BK146.1 hb); replace HB := zM (below_step zB1 hb); clear hb))
          go_roundg k4
          case measure => have := HJ2.1; have := HK2.1; have := HK3.1; have := HK4.1; omega
          case rel => exact ⟨(x10_4), (wrap64 (x53_4 + 1)), zJJ, H', ⟨by have := HJ2.1; have := HK2.1; have := HK3.1; have := HK4.1; omega⟩, ⟨by (try simp only [hl6_2]); (try simp only [hl6_3]); (with_reducible repeat (first | apply Kd.S_alloc | apply Kd.S_drewN | apply Kd.S_drew)); exact HO_5.1⟩, ⟨by (try simp only [hl6_2]); (try simp only [hl6_3]); (with_reducible repeat (first | apply Kd.S_alloc | apply Kd.S_drewN | apply Kd.S_drew)); exact HO_6.1⟩, ⟨by (try simp only [hl6_2]); (try simp only [hl6_3]); (with_reducible repeat (first | apply Kd.R_alloc | apply Kd.R_drewN | apply Kd.R_drew)); exact HO_10.1⟩, ⟨by (try simp only [hl6_2]); (try simp only [hl6_3]); refine zP ?_; exact BK126.1⟩, ⟨zB1⟩⟩
         subst c45
         rw [if_pos rfl] at H
         by_cases c46 : ((rd_T31 y131 x53_4).f2) = ((rd_T31 l1 x38_3).f2)
         rotate_left
         ·rw [if_neg c46] at H
          have c46b0 : (((rd_T31 y131 x53_4).f2) == ((rd_T31 l1 x38_3).f2)) = false := beq_eq_false_iff_ne.mpr c46
          have c46b1 : (((rd_T31 y131 x53_4).f2) != ((rd_T31 l1 x38_3).f2)) = true := bne_iff_ne.mpr c46
          have H' := zM H
          clear H
          obtain ⟨p145, q145, ad145, e145, hx145_0, hx145_1, hx145_2, hx145_3, hx145_4⟩ := zRd (at_T31 HR134.1 x53_4)
          obtain rfl : ad125 = ad145 := (by injection e145)
          replace hx145_0 := (HB.1.cell (World.block_lt_of_cell? wq _ hx145_0)).trans hx145_0
          replace hx145_1 := (HB.1.cell (World.block_lt_of_cell? wq _ hx145_1)).trans hx145_1
          replace hx145_2 := (HB.1.cell (World.block_lt_of_cell? wq _ hx145_2)).trans hx145_2
          replace hx145_3 := (HB.1.cell (World.block_lt_of_cell? wq _ hx145_3)).trans hx145_3
          replace hx145_4 := (HB.1.cell (World.block_lt_of_cell? wq _ hx145_4)).trans hx145_4
          try have hcn_ := (HB.1.cell (World.block_lt_of_cell? wq _ HCN.out)).trans HCN.out
          go_wp2_with (first | ((with_reducible refine zBx 12 31 #[.int .i64 0, .int .i64 0, .int .i64 0, .int .i64 0, .int .i64 0] ?_); intro gb146 hg w61 hbox hb; replace HO_5 := zM (Kd.S_below (zS HO_5.1) hb); replace HO_6 := zM (Kd.S_below (zS HO_6.1) hb); replace HO_10 := zM (Kd.R_below (zR HO_10.1) hb); have BK146 := zM hbox; have GW146 := zM ((by rw [hg]; exact (below_size zB1) : wq.heap.size ≤ gb146)); have GE146 := zM ((by rw [hg]; exact (below_size zB1) : wq.heap.size ≤ gb146)); replace HB := zM (below_step zB1 hb); have NB126_146 := zM ((zn BK126.1 hg : gb126 ≠ gb146)); have NB146_126 := zM ((zm BK126.1 hg : gb146 ≠ gb126)); replace BK126 := zM (zb BK126.1 hb); clear hb hbox hg; have hnb62 := NB146_126.1; have hnc62 := NB126_146.1; have hcz63 := zc_5 (w := w61) BK146.1; have hcz64 := zc_5 (w := w61) BK126.1) | ((with_reducible refine zG Try.func36 59 #[.agg #[.int .i64 ((rd_T31 l1 x38_3).f0), .int .i64 ((rd_T31 l1 x38_3).f1), .int .i64 ((rd_T31 l1 x38_3).f2), .int .i64 ((rd_T31 l1 x38_3).f3), .int .i64 ((rd_T31 l1 x38_3).f4)]] ?_); (with_reducible refine (impl_isSwap.calls ((rd_T31 l1 x38_3).f0) ((rd_T31 l1 x38_3).f1) ((rd_T31 l1 x38_3).f2) ((rd_T31 l1 x38_3).f3) ((rd_T31 l1 x38_3).f4) true _ A42.1).mono ?_); rintro e w65 ⟨rfl, hb⟩; refine ⟨_, rfl, ?_⟩; replace HO_5 := zM (Kd.S_below (by refine zrS ?_; exact (Kd.S_mono (zfS (zfS (zfS (zfS (zfS (Kd.S_types HO_5.1 BK146.1 (by decide))))))) (fun _ h_ => h_.1))) hb); replace HO_6 := zM (Kd.S_below (by refine zrS ?_; exact (Kd.S_mono (zfS (zfS (zfS (zfS (zfS (Kd.S_types HO_6.1 BK146.1 (by decide))))))) (fun _ h_ => h_.1))) hb); replace HO_10 := zM (Kd.R_below (by refine zrR ?_; exact (Kd.R_mono (zfR (zfR (zfR (zfR (zfR (Kd.R_types HO_10.1 BK146.1 (by decide))))))) (fun _ h_ => h_.1))) hb); replace BK126 := zM (zf BK126.1 hb); replace BK146 := zM (blk_below (g := gb146) (o := .cells #[.int .i64 ((rd_T31 y131 x53_4).f0), .int .i64 ((rd_T31 y131 x53_4).f1), .int .i64 ((rd_T31 y131 x53_4).f2), .int .i64 ((rd_T31 y131 x53_4).f3), .int .i64 ((rd_T31 y131 x53_4).f4)] 31 (0, 0)) (by exact zp5 (zK BK146.1)) hb); replace HB := zM (below_step zB1 hb); clear hb; have hcz66 := zc_5 (w := w65) BK146.1) | (go_at_call 36; (with_reducible refine (impl_isSwap.calls ((rd_T31 y131 x53_4).f0) ((rd_T31 y131 x53_4).f1) ((rd_T31 y131 x53_4).f2) ((rd_T31 y131 x53_4).f3) ((rd_T31 y131 x53_4).f4) true _ A44.1).mono ?_); rintro e w67 ⟨rfl, hb⟩; replace HO_5 := zM (Kd.S_below (zS HO_5.1) hb); replace HO_6 := zM (Kd.S_below (zS HO_6.1) hb); replace HO_10 := zM (Kd.R_below (zR HO_10.1) hb); replace BK126 := zM (zb BK126.1 hb); replace BK146 := zM (zb BK146.1 hb); replace HB := zM (below_step zB1 hb); clear hb; have hcz68 := zc_5 (w := w67) BK146.1; have hcz69 := zc_5 (w := w67) BK126.1))
          go_roundg k4
          case measure => have := HJ2.1; have := HK2.1; have := HK3.1; have := HK4.1; omega
          case rel => exact ⟨(x10_4), (wrap64 (x53_4 + 1)), zJJ, H', ⟨by have := HJ2.1; have := HK2.1; have := HK3.1; have := HK4.1; omega⟩, ⟨by (try simp only [hl6_2]); (try simp only [hl6_3]); (with_reducible repeat (first | apply Kd.S_alloc | apply Kd.S_drewN | apply Kd.S_drew)); exact HO_5.1⟩, ⟨by (try simp only [hl6_2]); (try simp only [hl6_3]); (with_reducible repeat (first | apply Kd.S_alloc | apply Kd.S_drewN | apply Kd.S_drew)); exact HO_6.1⟩, ⟨by (try simp only [hl6_2]); (try simp only [hl6_3]); (with_reducible repeat (first | apply Kd.R_alloc | apply Kd.R_drewN | apply Kd.R_drew)); exact HO_10.1⟩, ⟨by (try simp only [hl6_2]); (try simp only [hl6_3]); refine zP ?_; exact BK126.1⟩, ⟨zB1⟩⟩
         rw [if_pos c46] at H
         have c46b0 : (((rd_T31 y131 x53_4).f2) == ((rd_T31 l1 x38_3).f2)) = true := beq_iff_eq.mpr c46
         have c46b1 : (((rd_T31 y131 x53_4).f2) != ((rd_T31 l1 x38_3).f2)) = false := bne_eq_false_iff_eq.mpr c46
         clear c46
         replace H := zIp H
         obtain ⟨c47, H⟩ := H
         have c47b0 := decide_eq_true c47
         (try (have c47b0_ := c47b0; simp only [hl6_2, hl6_3] at c47b0_))
         clear c47
         replace H := zO H
         obtain ⟨t150, A48, H⟩ := H
         have H' := zM H
         clear H
         obtain ⟨p145, q145, ad145, e145, hx145_0, hx145_1, hx145_2, hx145_3, hx145_4⟩ := zRd (at_T31 HR134.1 x53_4)
         obtain rfl : ad125 = ad145 := (by injection e145)
         replace hx145_0 := (HB.1.cell (World.block_lt_of_cell? wq _ hx145_0)).trans hx145_0
         replace hx145_1 := (HB.1.cell (World.block_lt_of_cell? wq _ hx145_1)).trans hx145_1
         replace hx145_2 := (HB.1.cell (World.block_lt_of_cell? wq _ hx145_2)).trans hx145_2
         replace hx145_3 := (HB.1.cell (World.block_lt_of_cell? wq _ hx145_3)).trans hx145_3
         replace hx145_4 := (HB.1.cell (World.block_lt_of_cell? wq _ hx145_4)).trans hx145_4
         try have hcn_ := (HB.1.cell (World.block_lt_of_cell? wq _ HCN.out)).trans HCN.out
         go_wp2_with (first | ((with_reducible refine zBx 12 31 #[.int .i64 0, .int .i64 0, .int .i64 0, .int .i64 0, .int .i64 0] ?_); intro gb146 hg w49 hbox hb; replace HO_5 := zM (Kd.S_below (zS HO_5.1) hb); replace HO_6 := zM (Kd.S_below (zS HO_6.1) hb); replace HO_10 := zM (Kd.R_below (zR HO_10.1) hb); have BK146 := zM hbox; have GW146 := zM ((by rw [hg]; exact (below_size zB1) : wq.heap.size ≤ gb146)); have GE146 := zM ((by rw [hg]; exact (below_size zB1) : wq.heap.size ≤ gb146)); replace HB := zM (below_step zB1 hb); have NB126_146 := zM ((zn BK126.1 hg : gb126 ≠ gb146)); have NB146_126 := zM ((zm BK126.1 hg : gb146 ≠ gb126)); replace BK126 := zM (zb BK126.1 hb); clear hb hbox hg; have hnb50 := NB146_126.1; have hnc50 := NB126_146.1; have hcz51 := zc_5 (w := w49) BK146.1; have hcz52 := zc_5 (w := w49) BK126.1) | ((with_reducible refine zG Try.func36 59 #[.agg #[.int .i64 ((rd_T31 l1 x38_3).f0), .int .i64 ((rd_T31 l1 x38_3).f1), .int .i64 ((rd_T31 l1 x38_3).f2), .int .i64 ((rd_T31 l1 x38_3).f3), .int .i64 ((rd_T31 l1 x38_3).f4)]] ?_); (with_reducible refine (impl_isSwap.calls ((rd_T31 l1 x38_3).f0) ((rd_T31 l1 x38_3).f1) ((rd_T31 l1 x38_3).f2) ((rd_T31 l1 x38_3).f3) ((rd_T31 l1 x38_3).f4) true _ A42.1).mono ?_); rintro e w53 ⟨rfl, hb⟩; refine ⟨_, rfl, ?_⟩; replace HO_5 := zM (Kd.S_below (by refine zrS ?_; exact (Kd.S_mono (zfS (zfS (zfS (zfS (zfS (Kd.S_types HO_5.1 BK146.1 (by decide))))))) (fun _ h_ => h_.1))) hb); replace HO_6 := zM (Kd.S_below (by refine zrS ?_; exact (Kd.S_mono (zfS (zfS (zfS (zfS (zfS (Kd.S_types HO_6.1 BK146.1 (by decide))))))) (fun _ h_ => h_.1))) hb); replace HO_10 := zM (Kd.R_below (by refine zrR ?_; exact (Kd.R_mono (zfR (zfR (zfR (zfR (zfR (Kd.R_types HO_10.1 BK146.1 (by decide))))))) (fun _ h_ => h_.1))) hb); replace BK126 := zM (zf BK126.1 hb); replace BK146 := zM (blk_below (g := gb146) (o := .cells #[.int .i64 ((rd_T31 y131 x53_4).f0), .int .i64 ((rd_T31 y131 x53_4).f1), .int .i64 ((rd_T31 y131 x53_4).f2), .int .i64 ((rd_T31 y131 x53_4).f3), .int .i64 ((rd_T31 y131 x53_4).f4)] 31 (0, 0)) (by exact zp5 (zK BK146.1)) hb); replace HB := zM (below_step zB1 hb); clear hb; have hcz54 := zc_5 (w := w53) BK146.1) | (go_at_call 36; (with_reducible refine (impl_isSwap.calls ((rd_T31 y131 x53_4).f0) ((rd_T31 y131 x53_4).f1) ((rd_T31 y131 x53_4).f2) ((rd_T31 y131 x53_4).f3) ((rd_T31 y131 x53_4).f4) true _ A44.1).mono ?_); rintro e w55 ⟨rfl, hb⟩; replace HO_5 := zM (Kd.S_below (zS HO_5.1) hb); replace HO_6 := zM (Kd.S_below (zS HO_6.1) hb); replace HO_10 := zM (Kd.R_below (zR HO_10.1) hb); replace BK126 := zM (zb BK126.1 hb); replace BK146 := zM (zb BK146.1 hb); replace HB := zM (below_step zB1 hb); clear hb; have hcz56 := zc_5 (w := w55) BK146.1; have hcz57 := zc_5 (w := w55) BK126.1; obtain ⟨Ao58, co58, eo58⟩ := Kd.S_slice HO_5.1; subst eo58; have p149 : 0 ≤ (x53_4 : Int) := zA; have q149 : x53_4 < (x5_3.length : Int) := zA; obtain ⟨ad149, A149_0, c149_0, e149, hx149_0, hl149_0, hi149_0⟩ := at_L3 (Kd.S_reads' HO_5.1).2.2 x53_4 p149 q149; cases e149; obtain ⟨ce149, hce149, hMe149, hcc149⟩ := Kd.S_get HO_5.1 [] x53_4 p149 (by first | exact q149 | exact zA | (have e_ := (Kd.S_reads' HO_5.1).1; omega)); obtain ⟨ve149_0, rfl, ge149_0⟩ := hMe149; have hv149_0 := hcc149 0 _ rfl; rw [Nat.add_zero, show ((Kd.slice 3 (Kd.int .i64))).sz = 1 from rfl, Nat.mul_one] at hv149_0; replace hv149_0 := Option.some.inj (hv149_0.symm.trans hx149_0); rw [hv149_0] at ge149_0; have HL149_0 := zM (show Kd.R (Kd.int .i64) 3 _ _ _ _ (rd_L3 x5_3 x53_4) from ge149_0); clear hv149_0 ge149_0; clear hcc149 hce149; have HR149_0 := zM hi149_0; have HC149_0 := zM hl149_0; clear hi149_0 hl149_0; replace p149 := eq_true p149; replace q149 := eq_true q149; obtain ⟨Ao59, co59, eo59⟩ := Kd.R_slice HO_10.1; subst eo59) | ((with_reducible refine zG Try.func37 76 #[.slice Ao59 x10_4.length co59, .slice A149_0 (rd_L3 x5_3 x53_4).length c149_0] ?_); (with_reducible refine (impl_ClockJoin.calls k4 _ _ x10_4 _ _ (rd_L3 x5_3 x53_4) t150 _ ?side1 ?side2 ?side3 ?side4 A48.1).mono ?_); (case side1 => exact zC (Kd.R_reads' HO_10.1).2.2); (case side2 => exact (Kd.R_reads' HO_10.1).2.1); (case side3 => exact zC HR149_0.1); (case side4 => exact HC149_0.1); rintro e w60 ⟨v151, rfl, ho0, hb⟩; refine ⟨_, rfl, ?_⟩; replace HO_5 := zM (Kd.S_elder' (zS HO_5.1) (Kd.R_base ho0) hb); replace HO_6 := zM (Kd.S_elder' (zS HO_6.1) (Kd.R_base ho0) hb); have HO152 := zM (Kd.R_lower (Kd.R_new' (Kd.R_new' ho0 (Kd.R_lt (zR HO_10.1))) (Kd.R_lt (zR HL149_0.1))) (below_size zB1)); replace HO_10 := zM (Kd.R_elder' (zR HO_10.1) (Kd.R_base ho0) hb); replace HL149_0 := zM (Kd.R_elder' (zR HL149_0.1) (Kd.R_base ho0) hb); replace BK126 := zM (zb BK126.1 hb); replace BK146 := zM (zb BK146.1 hb); replace HR149_0 := zM (Kd.C_below (zC HR149_0.1) hb); replace HB := zM (below_step zB1 hb); clear hb ho0))
         go_roundg k4
         case measure => have := HJ2.1; have := HK2.1; have := HK3.1; have := HK4.1; omega
         case rel => exact ⟨(t150), (wrap64 (x53_4 + 1)), zJJ, H', ⟨by have := HJ2.1; have := HK2.1; have := HK3.1; have := HK4.1; omega⟩, ⟨by (try simp only [hl6_2]); (try simp only [hl6_3]); (with_reducible repeat (first | apply Kd.S_alloc | apply Kd.S_drewN | apply Kd.S_drew)); exact Kd.S_mono HO_5.1 (fun _ hk => ⟨hk.1.1, hk.2⟩)⟩, ⟨by (try simp only [hl6_2]); (try simp only [hl6_3]); (with_reducible repeat (first | apply Kd.S_alloc | apply Kd.S_drewN | apply Kd.S_drew)); exact Kd.S_mono HO_6.1 (fun _ hk => ⟨hk.1.1, hk.2⟩)⟩, ⟨by (try simp only [hl6_2]); (try simp only [hl6_3]); (with_reducible repeat (first | apply Kd.R_alloc | apply Kd.R_drewN | apply Kd.R_drew)); exact Kd.R_mono HO152.1 (fun _ hk => trivial)⟩, ⟨by (try simp only [hl6_2]); (try simp only [hl6_3]); refine zP ?_; exact BK126.1⟩, ⟨zB1⟩⟩

/-! ### impl_ClockWithin: function 65 -/
def impl_ClockWithin.l0 : Nat → List Int → List Int → Int → Int → Option (Bool)
 | 0, _, _, _, _ => none
 | k + 1, x0, x1, x12, x13 => if x13 < x12 then (if 0 ≤ x13 then (if x13 < (x0.length : Int) then (if x13 < (x1.length : Int) then (if (rd x0 x13) > (rd x1 x13) then (some false) else (impl_ClockWithin.l0 k x0 x1 x12 (wrap64 (x13 + 1)))) else (none)) else (none)) else (none)) else (some true)
def impl_ClockWithin.f (k : Nat) (l0 : List Int) (l1 : List Int) : Option (Bool) := if (l0.length : Int) = (l1.length : Int) then (impl_ClockWithin.l0 k l0 l1 (l0.length : Int) 0) else (some false)
theorem impl_ClockWithin.mono_l : ∀ k, (∀ y0 y1 y2 y3, LeO (impl_ClockWithin.l0 k y0 y1 y2 y3) (impl_ClockWithin.l0 (k + 1) y0 y1 y2 y3))
 | 0 => fun _ _ _ _ r h => by simp [impl_ClockWithin.l0] at h
 | k + 1 => by
  have ih0 := impl_ClockWithin.mono_l k
  ·intros
   unfold impl_ClockWithin.l0
   exact zL
theorem impl_ClockWithin.mono : ∀ a0 a1 k, LeO (impl_ClockWithin.f k a0 a1) (impl_ClockWithin.f (k + 1) a0 a1) := by
 intro a0 a1 k
 have ih0 := impl_ClockWithin.mono_l k
 unfold impl_ClockWithin.f
 exact zL
theorem impl_ClockWithin.calls (k : Nat) (A0 : Option Addr) (c0 : Nat) (l0 : List Int) (A1 : Option Addr) (c1 : Nat) (l1 : List Int) (r : Bool) (w : World) (hr0 : Kd.C (Kd.int .i64) w A0 l0.length l0) (hc0 : l0.length ≤ c0) (hr1 : Kd.C (Kd.int .i64) w A1 l1.length l1) (hc1 : l1.length ≤ c1) (h : impl_ClockWithin.f k l0 l1 = some r) :
  Calls Try.prog 65 #[.slice A0 l0.length c0, .slice A1 l1.length c1] w fun e w' => e = .returned (.bool r) ∧ Drawn0 w w' := by
 have HR0 := zM hr0
 have HC0 := zM hc0
 clear hr0 hc0
 have HR1 := zM hr1
 have HC1 := zM hc1
 clear hr1 hc1
 unfold impl_ClockWithin.f at h
 have H := h
 clear h
 by_cases c3 : (l0.length : Int) = (l1.length : Int)
 rotate_left
 ·rw [if_neg c3] at H
  have c3b0 : ((l0.length : Int) == (l1.length : Int)) = false := beq_eq_false_iff_ne.mpr c3
  have c3b1 : ((l0.length : Int) != (l1.length : Int)) = true := bne_iff_ne.mpr c3
  have c3b2 : (l0.length == l1.length) = false := by first | simpa using c3 | (simp at c3 ⊢; omega)
  obtain rfl := Option.some.inj H
  go_enter Try.func65, Try.ntmps65
  go_wp2
  repeat (go_quiet (fail); try go_wp2)
  go_ret
  exact ⟨zJJ, zDD⟩
 rw [if_pos c3] at H
 have c3b0 : ((l0.length : Int) == (l1.length : Int)) = true := beq_iff_eq.mpr c3
 have c3b1 : ((l0.length : Int) != (l1.length : Int)) = false := bne_eq_false_iff_eq.mpr c3
 have c3b2 : (l0.length == l1.length) = true := by first | simpa using c3 | (simp at c3 ⊢; omega)
 clear c3
 have H' := zM H
 clear H
 go_enter Try.func65, Try.ntmps65
 go_wp2
 repeat (go_quiet (fail); try go_wp2)
 go_loopg [13] k (fun kq v13 w' => ∃ (x13_1 : Int), v13 = .int .i64 x13_1 ∧ Aside0 (impl_ClockWithin.l0 kq l0 l1 (l0.length : Int) x13_1 = some r) ∧ Aside0 (kq ≤ k) ∧ Drawn0 w w')
 case atStart => exact ⟨(0), zJJ, H', ⟨Nat.le_refl _⟩, zDD⟩
 case round =>
  clear H'
  obtain ⟨x13_1, rfl, HA, HK1, ⟨m1, rfl⟩⟩ := hrel
  cases gk with
  | zero => exact absurd HA.1 (by simp [impl_ClockWithin.l0])
  | succ k1 =>
   have H := HA.1
   clear HA
   simp only [impl_ClockWithin.l0] at H
   by_cases c4 : x13_1 < (l0.length : Int)
   rotate_left
   ·rw [if_neg c4] at H
    have c4b0 := decide_eq_false c4
    clear c4
    obtain rfl := Option.some.inj H
    go_wp2
    repeat (go_quiet (fail); try go_wp2)
    go_ret
    exact ⟨zJJ, zDD⟩
   rw [if_pos c4] at H
   have c4b0 := decide_eq_true c4
   clear c4
   replace H := zIt H
   obtain ⟨c5b0, H⟩ := H
   replace H := zIt H
   obtain ⟨c6b0, H⟩ := H
   replace H := zIt H
   obtain ⟨c7b0, H⟩ := H
   by_cases c8 : (rd l0 x13_1) > (rd l1 x13_1)
   ·rw [if_pos c8] at H
    have c8b0 := decide_eq_true c8
    clear c8
    obtain rfl := Option.some.inj H
    obtain ⟨p153, q153, ad153, e153, hx153_0⟩ := zRd (Kd.at_int HR0.1 x13_1)
    cases e153
    obtain ⟨p154, q154, ad154, e154, hx154_0⟩ := zRd (Kd.at_int HR1.1 x13_1)
    cases e154
    go_wp2
    repeat (go_quiet (fail); try go_wp2)
    go_ret
    exact ⟨zJJ, zDD⟩
   rw [if_neg c8] at H
   have c8b0 := decide_eq_false c8
   clear c8
   have H' := zM H
   clear H
   obtain ⟨p153, q153, ad153, e153, hx153_0⟩ := zRd (Kd.at_int HR0.1 x13_1)
   cases e153
   obtain ⟨p154, q154, ad154, e154, hx154_0⟩ := zRd (Kd.at_int HR1.1 x13_1)
   cases e154
   go_wp2
   repeat (go_quiet (fail); try go_wp2)
   go_roundg k1
   case measure => have := HK1.1; omega
   case rel => exact ⟨(wrap64 (x13_1 + 1)), zJJ, H', ⟨by have := HK1.1; omega⟩, zDD⟩

end Go.Proofs.Ytgbjengnkbomoaa.PFnRaces
