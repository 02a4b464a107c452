-- made by wip/tools/myprint.py out of the seat's translation
import Derived.Test.YtaakcbgpmabaaaaPFnLinkedx0
import Derived.Test.YtaakcbgpmabaaaaPFnLinkedx5
import Derived.Test.YtaakcbgpmabaaaaPFnLinkedx7
namespace Go.Proofs.Ytaakcbgpmabaaaa.PFnLinked
open Go.RowKit Go.Proofs.YtaakcbgpmabaaaaW.PrintWords Go.Proofs.YtaakcbgpmabaaaaW.PrintLast Go.Proofs.YtaakcbgpmabaaaaW.PrintMore
attribute [local go_sem] max2_int min2_int max_two min_two max_three min_three max_four min_four   -- for this text's walks alone
set_option linter.unusedVariables false
set_option linter.unusedSimpArgs false
set_option maxHeartbeats 8000000
set_option maxRecDepth 100000

-- NOT PRINTED: function 69 (impl_Part)

-- NOT PRINTED: function 70 (impl_PartAt_1)

/-! ### impl_PartAt: function 28 -/
theorem partAt1 (g : Nat) (nm name : ByteArray) (A1 A2 : Option Addr) (n1 c1 n2 c2 : Nat) (w : World) (hc : w.cell? ⟨g, 0, none⟩ = some (.string name)) :
  Calls Try.prog 70 #[.agg #[.string nm, .slice A1 n1 c1, .slice A2 n2 c2], .pointer (some ⟨g, 0, none⟩)] w fun e w' => e = .returned (.bool (nm.toList == name.toList)) ∧ Below w.heap.size w w' := by
 have hu := Try.underlying49
 have HB := zM (Below.refl w.heap.size w)
 have HC := zM hc
 clear hc
 go_enter Try.func70, Try.ntmps70
 go_wp2_with (first
  | ((with_reducible refine zBx 2 49 #[.string nm, .slice A1 n1 c1, .slice A2 n2 c2] ?_); intro g1 hg w1 hbox hb; have BK1 := zM hbox; have HB1 := zM (below_step HB.1 hb); clear hg; have hcz0 : w1.cell? ⟨g1, 0, none⟩ = some (.string nm) := (blk_cell BK1.1 0).trans rfl; have hcn : w1.cell? ⟨g, 0, none⟩ = some (.string name) := (hb.cell (World.block_lt_of_cell? w _ HC.1)).trans HC.1; clear hb hbox HB))
 go_ret
 exact ⟨rfl, zB40⟩
/-- The first part of this name, from here on. -/
def partIdx (name : ByteArray) : List S49 → Nat → Int
 | [], _ => -1
 | x :: r, i => if x.f0.toList = name.toList then (i : Int) else partIdx name r (i + 1)
theorem partIdx_drop (name : ByteArray) (l : List S49) (i : Nat) (h : i < l.length) : partIdx name (l.drop i) i = if (rd_T49 l (i : Int)).f0.toList = name.toList then (i : Int) else partIdx name (l.drop (i + 1)) (i + 1) := by
 have e : rd_T49 l (i : Int) = l[i] := by unfold rd_T49; simp [List.getD, h]
 rw [List.drop_eq_getElem_cons h, partIdx, e]
theorem partIdx_calls (A0 : Option Addr) (c0 : Nat) (l0 : List S49) (g : Nat) (name : ByteArray) (w : World) (hr0 : Kd.C k49 w A0 l0.length l0) (hc : w.cell? ⟨g, 0, none⟩ = some (.string name)) :
  Calls Try.prog 69 #[.slice A0 l0.length c0, .func (.func 70) #[] #[.pointer (some ⟨g, 0, none⟩)]] w fun e w' => e = .returned (.int .i64 (partIdx name l0 0)) ∧ Below w.heap.size w w' := by
 have hu49 := Try.underlying49
 have HR0 := zM hr0
 have HC := zM hc
 have HL := zM (show l0.length ≤ 9223372036854775807 from hr0.2.1)
 clear hr0 hc
 have HB := zM (Below.refl w.heap.size w)
 go_enter Try.func69, Try.ntmps69
 go_wp2
 go_loopg [8] l0.length (fun kq v8 w' => ∃ i : Nat, v8 = .int .i64 i ∧ Aside0 (i + kq = l0.length) ∧ Aside0 (partIdx name (l0.drop i) i = partIdx name l0 0) ∧ Aside0 (Below w.heap.size w w'))
 case atStart => exact ⟨0, rfl, ⟨by omega⟩, ⟨rfl⟩, ⟨HB.1⟩⟩
 case round =>
  clear HB
  obtain ⟨i, rfl, HI, HP, HB⟩ := hrel
  by_cases hi : i < l0.length
  rotate_left
  ·have d0 : decide ((i : Int) < (l0.length : Int)) = false := decide_eq_false (by omega)
   have hp := HP.1
   rw [List.drop_of_length_le (by omega)] at hp
   have HP' := zM hp
   clear hp HP
   go_wp2_with fail
   go_ret
   exact ⟨by rw [← HP'.out]; rfl, zB0⟩
  have HI2 := zM hi
  have d0 : decide ((i : Int) < (l0.length : Int)) = true := decide_eq_true (by omega)
  have hp := HP.1
  rw [partIdx_drop name l0 i hi] at hp
  obtain ⟨ad, A1, c1, A2, c2, e0, hx0, hx1, hx2, _, _, _, _⟩ := at_T49 HR0.1 (i : Int) (by omega) (by omega)
  cases e0
  replace hx0 := zHx HB.1 hx0
  replace hx1 := zHx HB.1 hx1
  replace hx2 := zHx HB.1 hx2
  simp only [Int.toNat_natCast] at hx0 hx1 hx2
  have p1 : (0 ≤ (i : Int)) = True := eq_true (by omega)
  have p2' : ((i : Int) < (l0.length : Int)) = True := eq_true (by omega)
  by_cases hn : (rd_T49 l0 (i : Int)).f0.toList = name.toList
  ·rw [if_pos hn] at hp
   have HP' := zM hp
   have HN := zM (show ((rd_T49 l0 (i : Int)).f0.toList == name.toList) = true from beq_iff_eq.mpr hn)
   clear hp hn HP
   go_wp2_with (first | (go_at_call 70; (refine (partAt1 g ((rd_T49 l0 (i : Int)).f0) name A1 A2 _ _ _ _ _ ((HB.1.cell (World.block_lt_of_cell? w _ HC.1)).trans HC.1)).mono ?_); rintro e w8 ⟨rfl, hb⟩; rw [HN.out]; have n0_ := zM (below_step HB.1 hb); clear HB; have HB := n0_; clear n0_ hb))
   go_ret
   exact ⟨by rw [← HP'.out]; rfl, zB0⟩
  rw [if_neg hn] at hp
  have HP' := zM hp
  have HN := zM (show ((rd_T49 l0 (i : Int)).f0.toList == name.toList) = false from beq_eq_false_iff_ne.mpr hn)
  clear hp hn HP
  go_wp2_with (first | (go_at_call 70; (refine (partAt1 g ((rd_T49 l0 (i : Int)).f0) name A1 A2 _ _ _ _ _ ((HB.1.cell (World.block_lt_of_cell? w _ HC.1)).trans HC.1)).mono ?_); rintro e w8 ⟨rfl, hb⟩; rw [HN.out]; have n0_ := zM (below_step HB.1 hb); clear HB; have HB := n0_; clear n0_ hb))
  go_roundg (gk - 1)
  case rel => exact ⟨i + 1, congrArg (Value.int .i64) (by have h1_ := HI2.1; have h2_ := HL.1; show wrap64 ((i : Int) + 1) = ((i + 1 : Nat) : Int); unfold wrap64; omega), ⟨by have := HI.1; have := HI2.1; omega⟩, ⟨HP'.out⟩, ⟨HB.1⟩⟩
  all_goals (have := HI.1; have := HI2.1; omega)
def impl_PartAt.f (l0 : List S49) (a1 : ByteArray) : Option Int := some (partIdx a1 l0 0)
theorem impl_PartAt.calls (A0 : Option Addr) (c0 : Nat) (l0 : List S49) (a1 : ByteArray) (r : Int) (w : World) (hr0 : Kd.C k49 w A0 l0.length l0) (hc0 : l0.length ≤ c0) (h : impl_PartAt.f l0 a1 = some r) :
  Calls Try.prog 28 #[.slice A0 l0.length c0, .string a1] w fun e w' => e = .returned (.int .i64 r) ∧ Below w.heap.size w w' := by
 obtain rfl := Option.some.inj h
 have HR0 := zM hr0
 clear hr0 hc0 h
 have HB := zM (Below.refl w.heap.size w)
 go_enter Try.func28, Try.ntmps28
 go_wp2_with (first
  | ((with_reducible refine zBx 3 9 #[.string a1] ?_); intro g1 hg w1 hbox hb; have BK1 := zM hbox; have HB1 := zM (below_step HB.1 hb); clear hg hb hbox HB)
  | (go_at_call 69; (refine (partIdx_calls A0 c0 l0 g1 a1 _ (Kd.C_below HR0.1 HB1.1) ((blk_cell BK1.1 0).trans rfl)).mono ?_); rintro e w8 ⟨rfl, hb⟩; have n0_ := zM (below_step HB1.1 hb); clear HB1; have HB1 := n0_; clear n0_ hb))
 go_ret
 exact ⟨rfl, zB40⟩

/-! ### impl_Layout: function 21 -/
def impl_Layout.l0 : Nat → List (S49) → List Int → Int → List (S49) → Int → Int → Option (List Int × Bool)
 | 0, _, _, _, _, _, _ => none
 | k + 1, x0, x4, x5, x12, x13, x14 => if x14 < x13 then (if 0 ≤ x14 then (if x14 < (x12.length : Int) then ((impl_PartOk.f k ((rd_T49 x12 x14).f0) ((rd_T49 x12 x14).f1) ((rd_T49 x12 x14).f2)).bind fun t330 => (if t330 = true then ((impl_PartAt.f x0 ((rd_T49 x12 x14).f0)).bind fun t331 => (if t331 = x14 then (if x4.length < 17592186044416 then (impl_Layout.l0 k x0 (x4 ++ [x5]) (wrap64 (x5 + (((rd_T49 x12 x14).f1).length : Int))) x12 x13 (wrap64 (x14 + 1))) else (none)) else (some (([] : List Int), false)))) else (some (([] : List Int), false)))) else (none)) else (none)) else (if x5 > 24 then (some (([] : List Int), false)) else (some (x4, true)))
def impl_Layout.f (k : Nat) (l0 : List (S49)) : Option (List Int × Bool) := if (l0.length : Int) > 4 then (some (([] : List Int), false)) else (impl_Layout.l0 k l0 (([] : List Int)) 0 l0 (l0.length : Int) 0)
theorem impl_Layout.mono_l : ∀ k, (∀ y0 y1 y2 y3 y4 y5, LeO (impl_Layout.l0 k y0 y1 y2 y3 y4 y5) (impl_Layout.l0 (k + 1) y0 y1 y2 y3 y4 y5))
 | 0 => fun _ _ _ _ _ _ r h => by simp [impl_Layout.l0] at h
 | k + 1 => by
  have ih0 := impl_Layout.mono_l k
  ·intros
   unfold impl_Layout.l0
   have mo0 := @impl_PartOk.mono
   exact zL
theorem impl_Layout.mono : ∀ a0 k, LeO (impl_Layout.f k a0) (impl_Layout.f (k + 1) a0) := by
 intro a0 k
 have ih0 := impl_Layout.mono_l k
 unfold impl_Layout.f
 have mo0 := @impl_PartOk.mono
 exact zL
theorem impl_Layout.calls (k : Nat) (A0 : Option Addr) (c0 : Nat) (l0 : List (S49)) (r1 : List Int) (r2 : Bool) (w : World) (hr0 : Kd.C k49 w A0 l0.length l0) (hc0 : l0.length ≤ c0) (h : impl_Layout.f k l0 = some (r1, r2)) :
  Calls Try.prog 21 #[.slice A0 l0.length c0] w fun e w' => ∃ v0_ : Value, e = .returned (.tuple #[v0_, .bool r2]) ∧ Kd.R (Kd.int .i64) 3 w' w.heap.size (fun _ => True) v0_ r1 ∧ Below w.heap.size w w' := by
 have hu49 := Try.underlying49
 have HR0 := zM hr0
 have HC0 := zM hc0
 clear hr0 hc0
 have HB := zM (Below.refl w.heap.size w)
 unfold impl_Layout.f at h
 have H := h
 clear h
 by_cases c2 : (l0.length : Int) > 4
 ·rw [if_pos c2] at H
  have c2b0 := decide_eq_true c2
  have c2b1 : decide (4 < l0.length) = true := decide_eq_true (by omega)
  clear c2
  simp only [Option.some.injEq, Prod.mk.injEq] at H
  obtain ⟨rfl, rfl⟩ := H
  go_enter Try.func21, Try.ntmps21
  go_wp2
  go_ret2
  exact ⟨_, zE, by first | exact Kd.R_nil _ _ _ _ _ | exact Kd.N_nil _ _ _ _ _ | exact Kd.V_nil _ _ _ _ _ | exact Kd.Q_nil _ _ _ _ _ | exact Kd.S_nil _ _ _ _ _, zB0⟩
 rw [if_neg c2] at H
 have c2b0 := decide_eq_false c2
 have c2b1 : decide (4 < l0.length) = false := decide_eq_false (by omega)
 clear c2
 generalize hy325 : ((([] : List Int)) : List Int) = y325 at H
 have Ny325 := zM hy325.symm
 clear hy325
 have H' := zM H
 clear H
 go_enter Try.func21, Try.ntmps21
 go_wp2_with (first | ((with_reducible refine gate_dst (N := 11) rfl ?_); refine Kd.R_lit (Kd.int .i64) _ 3 ?hg (N := 11) ?hd (xs := ([] : List Int)) (inner := []) (ok := fun _ => True) (okp := fun _ => True) ?hr ?hp (fun _ hk => hk) trivial (Below.refl _ _) (Nat.le_refl _) (by simp) ?_; (case hd => rfl); (case hg => rfl); (case hr => exact zHH); (case hp => exact (Reps.none _ _)); intro v326 w3 ho4 hb hg_ hnew_; clear hg_ hnew_; (first | rw [← Ny325.1] at ho4 | (simp only [Int.reduceToNat] at ho4; rw [← Ny325.1] at ho4)); have HO327 := zM (Kd.R_lower ho4 (below_size zB0)); replace HB := zM (below_step zB0 hb); clear hb ho4))
 go_loopg [4, 5, 14] k (fun kq v4 v5 v14 w' => ∃ (x4_1 : List Int) (x5_1 : Int) (x14_1 : Int), v5 = .int .i64 x5_1 ∧ v14 = .int .i64 x14_1 ∧ Aside0 (impl_Layout.l0 kq l0 x4_1 x5_1 l0 (l0.length : Int) x14_1 = some (r1, r2)) ∧ Aside0 (kq ≤ k) ∧ Aside0 (Kd.R (Kd.int .i64) 3 w' w.heap.size (fun _ => True) v4 x4_1) ∧ Aside0 (Below w.heap.size w w'))
 case atStart => exact ⟨(y325), (0), (0), zJJ, zJJ, H', ⟨Nat.le_refl _⟩, ⟨zR HO327.1⟩, ⟨zB0⟩⟩
 case round =>
  clear H'
  obtain ⟨x4_1, x5_1, x14_1, rfl, rfl, HA, HK1, HO_4, HB⟩ := hrel
  cases gk with
  | zero => exact absurd HA.1 (by simp [impl_Layout.l0])
  | succ k1 =>
   have H := HA.1
   clear HA
   simp only [impl_Layout.l0] at H
   by_cases c5 : x14_1 < (l0.length : Int)
   rotate_left
   ·rw [if_neg c5] at H
    have c5b0 := decide_eq_false c5
    clear c5
    by_cases c28 : x5_1 > 24
    rotate_left
    ·rw [if_neg c28] at H
     have c28b0 := decide_eq_false c28
     clear c28
     simp only [Option.some.injEq, Prod.mk.injEq] at H
     obtain ⟨rfl, rfl⟩ := H
     go_wp2
     go_ret2
     exact ⟨_, zE, zR HO_4.1, zB0⟩
    rw [if_pos c28] at H
    have c28b0 := decide_eq_true c28
    clear c28
    simp only [Option.some.injEq, Prod.mk.injEq] at H
    obtain ⟨rfl, rfl⟩ := H
    go_wp2
    go_ret2
    exact ⟨_, zE, by first | exact Kd.R_nil _ _ _ _ _ | exact Kd.N_nil _ _ _ _ _ | exact Kd.V_nil _ _ _ _ _ | exact Kd.Q_nil _ _ _ _ _ | exact Kd.S_nil _ _ _ _ _, zB0⟩
   rw [if_pos c5] at H
   have c5b0 := decide_eq_true c5
   clear c5
   replace H := zIt H
   obtain ⟨c6b0, H⟩ := H
   replace H := zIt H
   obtain ⟨c7b0, H⟩ := H
   replace H := zO H
   obtain ⟨t330, A8, H⟩ := H
   by_cases c9 : t330 = true
   rotate_left
   ·replace c9 := Bool.eq_false_iff.mpr c9
    subst c9
    rw [if_neg zF] at H
    simp only [Option.some.injEq, Prod.mk.injEq] at H
    obtain ⟨rfl, rfl⟩ := H
    obtain ⟨p328, q328, ad328, A328_1, c328_1, A328_2, c328_2, e328, hx328_0, hx328_1, hx328_2, hl328_1, hi328_1, hl328_2, hi328_2⟩ := zRd (at_T49 HR0.1 x14_1)
    cases e328
    replace hx328_0 := zHx HB.1 hx328_0
    replace hx328_1 := zHx HB.1 hx328_1
    replace hx328_2 := zHx HB.1 hx328_2
    have HR328_1 := zM hi328_1
    have HC328_1 := zM hl328_1
    clear hi328_1 hl328_1
    have HR328_2 := zM hi328_2
    have HC328_2 := zM hl328_2
    clear hi328_2 hl328_2
    go_wp2_with (first | ((with_reducible refine zBx 7 49 #[.string (⟨#[]⟩ : ByteArray), .slice none 0 0, .slice none 0 0] ?_); intro gb329 hg w25 hbox hb; replace HO_4 := zM (Kd.R_below (zR HO_4.1) hb); have BK329 := zM hbox; have GW329 := zM (zW hg (below_size zB0)); have GE329 := zM (zW hg (below_size zB0)); replace HB := zM (below_step zB0 hb); clear hb hbox hg; have hcz26 := zc_3 (w := w25) BK329.1) | ((with_reducible refine zG Try.func26 20 #[.agg #[.string ((rd_T49 l0 x14_1).f0), .slice A328_1 ((rd_T49 l0 x14_1).f1).length c328_1, .slice A328_2 ((rd_T49 l0 x14_1).f2).length c328_2]] ?_); (with_reducible refine (impl_PartOk.calls k1 ((rd_T49 l0 x14_1).f0) _ _ ((rd_T49 l0 x14_1).f1) _ _ ((rd_T49 l0 x14_1).f2) false _ ?side1 ?side2 ?side3 ?side4 A8.1).mono ?_); (case side1 => exact Kd.C_below HR328_1.1 zB0); (case side2 => exact HC328_1.1); (case side3 => exact Kd.C_below HR328_2.1 zB0); (case side4 => exact HC328_2.1); rintro e w27 ⟨rfl, hb⟩; refine ⟨_, rfl, ?_⟩; replace HO_4 := zM (Kd.R_below (by refine zrR ?_; exact (Kd.R_mono (zfR (zfR (zfR (Kd.R_types HO_4.1 BK329.1 (by decide))))) (fun _ h_ => h_.1))) hb); replace BK329 := zM (blk_below (g := gb329) (o := .cells #[.string ((rd_T49 l0 x14_1).f0), .slice A328_1 ((rd_T49 l0 x14_1).f1).length c328_1, .slice A328_2 ((rd_T49 l0 x14_1).f2).length c328_2] 49 (0, 0)) (by exact zp3 (zK BK329.1)) hb); replace HB := zM (below_step zB0 hb); clear hb))
    go_ret2
    exact ⟨_, zE, by first | exact Kd.R_nil _ _ _ _ _ | exact Kd.N_nil _ _ _ _ _ | exact Kd.V_nil _ _ _ _ _ | exact Kd.Q_nil _ _ _ _ _ | exact Kd.S_nil _ _ _ _ _, zB0⟩
   subst c9
   rw [if_pos rfl] at H
   replace H := zO H
   obtain ⟨t331, A10, H⟩ := H
   by_cases c11 : t331 = x14_1
   rotate_left
   ·rw [if_neg c11] at H
    have c11b0 : (t331 == x14_1) = false := beq_eq_false_iff_ne.mpr c11
    have c11b1 : (t331 != x14_1) = true := bne_iff_ne.mpr c11
    simp only [Option.some.injEq, Prod.mk.injEq] at H
    obtain ⟨rfl, rfl⟩ := H
    obtain ⟨p328, q328, ad328, A328_1, c328_1, A328_2, c328_2, e328, hx328_0, hx328_1, hx328_2, hl328_1, hi328_1, hl328_2, hi328_2⟩ := zRd (at_T49 HR0.1 x14_1)
    cases e328
    replace hx328_0 := zHx HB.1 hx328_0
    replace hx328_1 := zHx HB.1 hx328_1
    replace hx328_2 := zHx HB.1 hx328_2
    have HR328_1 := zM hi328_1
    have HC328_1 := zM hl328_1
    clear hi328_1 hl328_1
    have HR328_2 := zM hi328_2
    have HC328_2 := zM hl328_2
    clear hi328_2 hl328_2
    go_wp2_with (first | ((with_reducible refine zBx 7 49 #[.string (⟨#[]⟩ : ByteArray), .slice none 0 0, .slice none 0 0] ?_); intro gb329 hg w20 hbox hb; replace HO_4 := zM (Kd.R_below (zR HO_4.1) hb); have BK329 := zM hbox; have GW329 := zM (zW hg (below_size zB0)); have GE329 := zM (zW hg (below_size zB0)); replace HB := zM (below_step zB0 hb); clear hb hbox hg; have hcz21 := zc_3 (w := w20) BK329.1) | ((with_reducible refine zG Try.func26 20 #[.agg #[.string ((rd_T49 l0 x14_1).f0), .slice A328_1 ((rd_T49 l0 x14_1).f1).length c328_1, .slice A328_2 ((rd_T49 l0 x14_1).f2).length c328_2]] ?_); (with_reducible refine (impl_PartOk.calls k1 ((rd_T49 l0 x14_1).f0) _ _ ((rd_T49 l0 x14_1).f1) _ _ ((rd_T49 l0 x14_1).f2) true _ ?side1 ?side2 ?side3 ?side4 A8.1).mono ?_); (case side1 => exact Kd.C_below HR328_1.1 zB0); (case side2 => exact HC328_1.1); (case side3 => exact Kd.C_below HR328_2.1 zB0); (case side4 => exact HC328_2.1); rintro e w22 ⟨rfl, hb⟩; refine ⟨_, rfl, ?_⟩; replace HO_4 := zM (Kd.R_below (by refine zrR ?_; exact (Kd.R_mono (zfR (zfR (zfR (Kd.R_types HO_4.1 BK329.1 (by decide))))) (fun _ h_ => h_.1))) hb); replace BK329 := zM (blk_below (g := gb329) (o := .cells #[.string ((rd_T49 l0 x14_1).f0), .slice A328_1 ((rd_T49 l0 x14_1).f1).length c328_1, .slice A328_2 ((rd_T49 l0 x14_1).f2).length c328_2] 49 (0, 0)) (by exact zp3 (zK BK329.1)) hb); replace HB := zM (below_step zB0 hb); clear hb; have hcz23 := zc_3 (w := w22) BK329.1) | (go_at_call 28; (with_reducible refine (impl_PartAt.calls _ _ l0 ((rd_T49 l0 x14_1).f0) t331 _ ?side1 ?side2 A10.1).mono ?_); (case side1 => exact zC (Kd.C_below HR0.1 HB.1)); (case side2 => exact HC0.1); rintro e w24 ⟨rfl, hb⟩; replace HO_4 := zM (Kd.R_below (zR HO_4.1) hb); replace BK329 := zM (zb BK329.1 hb); replace HB := zM (below_step zB0 hb); clear hb))
    go_ret2
    exact ⟨_, zE, by first | exact Kd.R_nil _ _ _ _ _ | exact Kd.N_nil _ _ _ _ _ | exact Kd.V_nil _ _ _ _ _ | exact Kd.Q_nil _ _ _ _ _ | exact Kd.S_nil _ _ _ _ _, zB0⟩
   rw [if_pos c11] at H
   have c11b0 : (t331 == x14_1) = true := beq_iff_eq.mpr c11
   have c11b1 : (t331 != x14_1) = false := bne_eq_false_iff_eq.mpr c11
   clear c11
   replace H := zIn H
   obtain ⟨LMc12, H⟩ := H
   generalize hy332 : ((x4_1 ++ [x5_1]) : List Int) = y332 at H
   have Ny332 := zM hy332.symm
   clear hy332
   have H' := zM H
   clear H
   obtain ⟨p328, q328, ad328, A328_1, c328_1, A328_2, c328_2, e328, hx328_0, hx328_1, hx328_2, hl328_1, hi328_1, hl328_2, hi328_2⟩ := zRd (at_T49 HR0.1 x14_1)
   cases e328
   replace hx328_0 := zHx HB.1 hx328_0
   replace hx328_1 := zHx HB.1 hx328_1
   replace hx328_2 := zHx HB.1 hx328_2
   have HR328_1 := zM hi328_1
   have HC328_1 := zM hl328_1
   clear hi328_1 hl328_1
   have HR328_2 := zM hi328_2
   have HC328_2 := zM hl328_2
   clear hi328_2 hl328_2
   go_wp2_with (first | ((with_reducible refine zBx 7 49 #[.string (⟨#[]⟩ : ByteArray), .slice none 0 0, .slice none 0 0] ?_); intro gb329 hg w13 hbox hb; replace HO_4 := zM (Kd.R_below (zR HO_4.1) hb); have BK329 := zM hbox; have GW329 := zM (zW hg (below_size zB0)); have GE329 := zM (zW hg (below_size zB0)); replace HB := zM (below_step zB0 hb); clear hb hbox hg; have hcz14 := zc_3 (w := w13) BK329.1) | ((with_reducible refine zG Try.func26 20 #[.agg #[.string ((rd_T49 l0 x14_1).f0), .slice A328_1 ((rd_T49 l0 x14_1).f1).length c328_1, .slice A328_2 ((rd_T49 l0 x14_1).f2).length c328_2]] ?_); (with_reducible refine (impl_PartOk.calls k1 ((rd_T49 l0 x14_1).f0) _ _ ((rd_T49 l0 x14_1).f1) _ _ ((rd_T49 l0 x14_1).f2) true _ ?side1 ?side2 ?side3 ?side4 A8.1).mono ?_); (case side1 => exact Kd.C_below HR328_1.1 zB0); (case side2 => exact HC328_1.1); (case side3 => exact Kd.C_below HR328_2.1 zB0); (case side4 => exact HC328_2.1); rintro e w15 ⟨rfl, hb⟩; refine ⟨_, rfl, ?_⟩; replace HO_4 := zM (Kd.R_below (by refine zrR ?_; exact (Kd.R_mono (zfR (zfR (zfR (Kd.R_types HO_4.1 BK329.1 (by decide))))) (fun _ h_ => h_.1))) hb); replace BK329 := zM (blk_below (g := gb329) (o := .cells #[.string ((rd_T49 l0 x14_1).f0), .slice A328_1 ((rd_T49 l0 x14_1).f1).length c328_1, .slice A328_2 ((rd_T49 l0 x14_1).f2).length c328_2] 49 (0, 0)) (by exact zp3 (zK BK329.1)) hb); replace HB := zM (below_step zB0 hb); clear hb; have hcz16 := zc_3 (w := w15) BK329.1) | (go_at_call 28; (with_reducible refine (impl_PartAt.calls _ _ l0 ((rd_T49 l0 x14_1).f0) t331 _ ?side1 ?side2 A10.1).mono ?_); (case side1 => exact zC (Kd.C_below HR0.1 HB.1)); (case side2 => exact HC0.1); rintro e w17 ⟨rfl, hb⟩; replace HO_4 := zM (Kd.R_below (zR HO_4.1) hb); replace BK329 := zM (zb BK329.1 hb); replace HB := zM (below_step zB0 hb); clear hb) | ((with_reducible refine gate_builtin (b := .append) (xs := #[.tmp 30, .tmp 32]) rfl ?_); at_builtin; refine Kd.R_append (Kd.int .i64) (w0 := w) w.heap.size rfl (.tmp 30) (.tmp 32) 24 3 (.int .i64 0) 8 rfl Try.underlying24 info3 rfl (by decide) (by omega) u4 x4_1 x5_1 [.int .i64 x5_1] (fun _ => True) (fun _ => False) rfl rfl ?aP (fun _ hk => hk.elim) ?aF ?aO ?aB ?aS ?aL ?_; (case aP => exact rfl); (case aB => exact zB0); (case aF => exact (fun _ _ => trivial)); (case aO => exact (zR HO_4.1)); (case aS => exact (below_size zB0)); (case aL => have := LMc12.out; omega); intro v333 w18 ho hb hg hat; rw [← Ny332.1] at ho; replace BK329 := zM (zg BK329.1 hg (Kd.R_ne HO_4.1 BK329.1 (by decide))); replace HB := zM hb; have HO334 := zM ho; clear HO_4; clear ho hb hg hat; have hcz19 := zc_3 (w := w18) BK329.1))
   go_roundg k1
   case measure => have := HK1.1; omega
   case rel => exact ⟨(y332), (wrap64 (x5_1 + (((rd_T49 l0 x14_1).f1).length : Int))), (wrap64 (x14_1 + 1)), zJJ, zJJ, H', ⟨by have := HK1.1; omega⟩, ⟨zR HO334.1⟩, ⟨zB0⟩⟩

/-! ### impl_Ins_54: function 54 -/
def impl_Ins_54.f (l0 : List S57) : Option (List S57) := if l0.length ≤ 3518437208883 then some l0 else none
theorem impl_Ins_54.calls (A0 : Option Addr) (c0 : Nat) (l0 : List S57) (r : List S57) (w : World) (hr0 : Kd.C k57 w A0 l0.length l0) (hc0 : l0.length ≤ c0) (h : impl_Ins_54.f l0 = some r) :
  Calls Try.prog 54 #[.slice A0 l0.length c0] w fun e w' => ∃ v0_ : Value, e = .returned (v0_) ∧ Kd.R k57 57 w' w.heap.size (fun _ => True) v0_ r ∧ Below w.heap.size w w' := by
 unfold impl_Ins_54.f at h
 by_cases hl : l0.length ≤ 3518437208883
 rotate_left
 ·rw [if_neg hl] at h
  exact absurd h (by simp)
 rw [if_pos hl] at h
 obtain rfl := Option.some.inj h
 have LM := zM hl
 clear h hl
 have HR0 := zM hr0
 have HC0 := zM hc0
 clear hr0 hc0
 have HB := zM (Below.refl w.heap.size w)
 have q22 : ∀ (w : World) (a : Option Addr) (n c n' c' : Nat), (binOp .eql 46 (.slice a n c) (.slice none n' c')).run Try.prog w = .ok (.bool a.isNone) w := fun w a n c n' c' => Lib.run_eql_slice_nil w _ _ a n c n' c' Try.underlying46
 cases A0 with
 | none =>
  have hz : l0 = [] := by
   cases l0 with
   | nil => rfl
   | cons x xs => obtain ⟨ad, e, _⟩ := HR0.1.2.2 (by simp); cases e
  subst hz
  go_enter Try.func54, Try.ntmps54
  go_wp2
  go_ret
  exact ⟨_, rfl, Kd.R_nil _ _ _ _ _, Below.refl _ _⟩
 | some ad =>
  obtain ⟨y1, hy1⟩ : ∃ y_ : List S57, y_ = ([] : List S57) := ⟨_, rfl⟩
  have Ny1 := zM hy1
  clear hy1
  go_enter Try.func54, Try.ntmps54
  go_wp2_with (first | ((with_reducible refine gate_dst (N := 5) rfl ?_); refine Kd.R_lit k57 _ 57 ?hg (N := 5) ?hd (xs := ([] : List S57)) (inner := []) (ok := fun _ => True) (okp := fun _ => True) ?hr ?hp (fun _ hk => hk) trivial (Below.refl _ _) (Nat.le_refl _) (by simp) ?_; (case hd => rfl); (case hg => rfl); (case hr => exact zHH); (case hp => exact (Reps.none _ _)); intro v461 w5 ho6 hb hg_ hnew_; clear hg_ hnew_; (first | rw [← Ny1.1] at ho6 | (simp only [Int.reduceToNat] at ho6; rw [← Ny1.1] at ho6)); have n0_ := zM (Kd.R_lower ho6 (below_size HB.1)); have n3_ := zM (below_step HB.1 hb); clear HB; have HO462 := n0_; have HB := n3_; clear n0_ n3_; clear hb ho6) | ((with_reducible refine gate_builtin (b := .append) (xs := #[.tmp 5, .tmp 6]) rfl ?_); at_builtin; refine Kd.R_append_rows k57 (w0 := w) w.heap.size rfl (.tmp 5) (.tmp 6) 46 57 (.agg #[(.int .i64 0), (.int .i64 0), (.int .i64 0), (.int .i64 0), (.int .i64 0)]) 40 rfl Try.underlying46 info57 rfl (by decide) (by omega) v461 y1 l0 _ _ _ (fun _ => True) (fun _ => False) rfl rfl ?aO ?aR (fun _ _ h => h) (fun _ h => h.elim) ?aF ?aB ?aS ?aL ?_; (case aR => exact zC (Kd.C_below HR0.1 HB.1)); (case aB => exact zB0); (case aF => exact (fun _ _ => trivial)); (case aO => exact (zR HO462.1)); (case aS => exact (below_size zB0)); (case aL => have h1_ := LM.out; have h2_ : y1.length = 0 := (by rw [Ny1.1]; rfl); rw [h2_]; omega); intro v464 w9 ho hb hg hat; rw [Ny1.1, List.nil_append] at ho; have n2_ := zM hb; have n3_ := zM ho; clear HB; clear HO462; have HB := n2_; have HO465 := n3_; clear n2_ n3_; clear ho hb hg hat))
  go_ret
  exact ⟨_, rfl, HO465.1, HB.1⟩

/-! ### impl_Code: function 55 -/
def impl_Code.f (a0_0 : Int) (a0_1 : Int) (a0_2 : Int) (a0_3 : Int) (a0_4 : Int) : Option (Int × Bool) := (impl_InsOk.f a0_0 a0_1 a0_2 a0_3 a0_4).bind fun t336 => (if t336 = true then (some (wrap64 ((wrap64 ((wrap64 ((wrap64 (a0_0 + (wrap64 (16 * a0_1)))) + (wrap64 (64 * a0_2)))) + (wrap64 (256 * a0_3)))) + (wrap64 (1024 * a0_4))), true)) else (some (0, false)))
theorem impl_Code.calls (a0_0 : Int) (a0_1 : Int) (a0_2 : Int) (a0_3 : Int) (a0_4 : Int) (r1 : Int) (r2 : Bool) (w : World) (h : impl_Code.f a0_0 a0_1 a0_2 a0_3 a0_4 = some (r1, r2)) :
  Calls Try.prog 55 #[.agg #[.int .i64 a0_0, .int .i64 a0_1, .int .i64 a0_2, .int .i64 a0_3, .int .i64 a0_4]] w fun e w' => e = .returned (.tuple #[.int .i64 r1, .bool r2]) ∧ Below w.heap.size w w' := by
 have hu57 := Try.underlying57
 have HB := zM (Below.refl w.heap.size w)
 unfold impl_Code.f at h
 have H := h
 clear h
 replace H := zO H
 obtain ⟨t336, A2, H⟩ := H
 by_cases c3 : t336 = true
 rotate_left
 ·replace c3 := Bool.eq_false_iff.mpr c3
  subst c3
  rw [if_neg zF] at H
  simp only [Option.some.injEq, Prod.mk.injEq] at H
  obtain ⟨rfl, rfl⟩ := H
  go_enter Try.func55, Try.ntmps55
  go_wp2_with (first | ((with_reducible refine zBx 1 57 #[.int .i64 a0_0, .int .i64 a0_1, .int .i64 a0_2, .int .i64 a0_3, .int .i64 a0_4] ?_); intro gb335 hg w8 hbox hb; have BK335 := zM hbox; have GW335 := zM (zW hg (below_size zB0)); have GE335 := zM (zW hg (below_size zB0)); replace HB := zM (below_step zB0 hb); clear hb hbox hg; have hcz9 := zc_5 (w := w8) BK335.1) | ((with_reducible refine zG Try.func63 5 #[.agg #[.int .i64 a0_0, .int .i64 a0_1, .int .i64 a0_2, .int .i64 a0_3, .int .i64 a0_4]] ?_); (with_reducible refine (impl_InsOk.calls a0_0 a0_1 a0_2 a0_3 a0_4 false _ A2.1).mono ?_); rintro e w10 ⟨rfl, hb⟩; refine ⟨_, rfl, ?_⟩; replace BK335 := zM (zb BK335.1 hb); replace HB := zM (below_step zB0 hb); clear hb))
  go_ret2
  exact ⟨zE, zB0⟩
 subst c3
 rw [if_pos rfl] at H
 simp only [Option.some.injEq, Prod.mk.injEq] at H
 obtain ⟨rfl, rfl⟩ := H
 go_enter Try.func55, Try.ntmps55
 go_wp2_with (first | ((with_reducible refine zBx 1 57 #[.int .i64 a0_0, .int .i64 a0_1, .int .i64 a0_2, .int .i64 a0_3, .int .i64 a0_4] ?_); intro gb335 hg w4 hbox hb; have BK335 := zM hbox; have GW335 := zM (zW hg (below_size zB0)); have GE335 := zM (zW hg (below_size zB0)); replace HB := zM (below_step zB0 hb); clear hb hbox hg; have hcz5 := zc_5 (w := w4) BK335.1) | ((with_reducible refine zG Try.func63 5 #[.agg #[.int .i64 a0_0, .int .i64 a0_1, .int .i64 a0_2, .int .i64 a0_3, .int .i64 a0_4]] ?_); (with_reducible refine (impl_InsOk.calls a0_0 a0_1 a0_2 a0_3 a0_4 true _ A2.1).mono ?_); rintro e w6 ⟨rfl, hb⟩; refine ⟨_, rfl, ?_⟩; replace BK335 := zM (zb BK335.1 hb); replace HB := zM (below_step zB0 hb); clear hb; have hcz7 := zc_5 (w := w6) BK335.1))
 go_ret2
 exact ⟨zE, zB0⟩

end Go.Proofs.Ytaakcbgpmabaaaa.PFnLinked
