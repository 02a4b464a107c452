-- made by wip/tools/myprint.py out of the seat's translation
import Derived.Test.YtgbjengnkbomoaaPFnRacesx0
namespace Go.Proofs.Ytgbjengnkbomoaa.PFnRaces
open Go.RowKit Go.Proofs.YtgbjengnkbomoaaW.PrintWords Go.Proofs.YtgbjengnkbomoaaW.PrintLast Go.Proofs.YtgbjengnkbomoaaW.PrintMore
attribute [local go_sem] max2_int min2_int max_two min_two max_three min_three max_four min_four   -- for this text's walks alone
set_option linter.unusedVariables false
set_option linter.unusedSimpArgs false
set_option maxHeartbeats 8000000
set_option maxRecDepth 100000

/-! ### laws_big: function 8 -/
def laws_big.f (l0 : List Int) : Option (Bool) := some (decide ((l0.length : Int) > 1048576))
theorem laws_big.calls (A0 : Option Addr) (c0 : Nat) (l0 : List Int) (r : Bool) (w : World) (hr0 : Kd.C (Kd.int .u8) w A0 l0.length l0) (hc0 : l0.length ≤ c0) (h : laws_big.f l0 = some r) :
  Calls Try.prog 8 #[.slice A0 l0.length c0] w fun e w' => e = .returned (.bool r) ∧ Drawn0 w w' := by
 have HR0 := zM hr0
 have HC0 := zM hc0
 clear hr0 hc0
 unfold laws_big.f at h
 have H := h
 clear h
 obtain rfl := Option.some.inj H
 go_enter Try.func8, Try.ntmps8
 go_wp2
 go_ret
 exact ⟨zJJ, zDD⟩

/-! ### impl_from: function 31 -/
def impl_from.f (a0 : Int) (a1 : Int) (a2 : Int) : Option (Bool) := if a0 ≥ a1 then (some (decide (a0 ≤ a2))) else (some false)
theorem impl_from.calls (a0 : Int) (a1 : Int) (a2 : Int) (r : Bool) (w : World) (h : impl_from.f a0 a1 a2 = some r) :
  Calls Try.prog 31 #[.int .i64 a0, .int .i64 a1, .int .i64 a2] w fun e w' => e = .returned (.bool r) ∧ Drawn0 w w' := by
 unfold impl_from.f at h
 have H := h
 clear h
 by_cases c4 : a0 ≥ a1
 ·rw [if_pos c4] at H
  have c4b0 := decide_eq_true c4
  clear c4
  obtain rfl := Option.some.inj H
  go_enter Try.func31, Try.ntmps31
  go_wp2
  go_ret
  exact ⟨zJJ, zDD⟩
 rw [if_neg c4] at H
 have c4b0 := decide_eq_false c4
 clear c4
 obtain rfl := Option.some.inj H
 go_enter Try.func31, Try.ntmps31
 go_wp2
 go_ret
 exact ⟨zJJ, zDD⟩

-- NOT PRINTED: function 62 (impl_Event_62)

/-! ### impl_Event_32: function 32 -/
theorem whosIn1 (g : Nat) (a b c d f n : Int) (q : Bool) (w : World) (hc : w.cell? ⟨g, 0, none⟩ = some (.int .i64 n)) (hq : impl_from.f a 0 (wrap64 (n - 1)) = some q) :
  Calls Try.prog 33 #[.agg #[.int .i64 a, .int .i64 b, .int .i64 c, .int .i64 d, .int .i64 f], .pointer (some ⟨g, 0, none⟩)] w fun e w' => e = .returned (.bool (!q)) ∧ Below w.heap.size w w' := by
 have hu := Try.underlying31
 have HB := zM (Below.refl w.heap.size w)
 have HC := zM hc
 have HQ := zM hq
 clear hc hq
 go_enter Try.func33, Try.ntmps33
 go_wp2_with (first
  | ((with_reducible refine zBx 2 31 #[.int .i64 a, .int .i64 b, .int .i64 c, .int .i64 d, .int .i64 f] ?_); intro g1 hg w1 hbox hb; have BK1 := zM hbox; have HB1 := zM (below_step HB.1 hb); clear hg; have hcz0 : w1.cell? ⟨g1, 0, none⟩ = some (.int .i64 a) := (blk_cell BK1.1 0).trans rfl; have hcn : w1.cell? ⟨g, 0, none⟩ = some (.int .i64 n) := (hb.cell (World.block_lt_of_cell? w _ HC.1)).trans HC.1; clear hb hbox)
  | (go_at_call 31; (refine (impl_from.calls a 0 (wrap64 (n - 1)) q _ HQ.out).mono ?_); rintro e w' ⟨rfl, ⟨nd, rfl⟩⟩))
 go_ret
 exact ⟨by cases q <;> rfl, zB0⟩
theorem whosFrom (a lo hi : Int) : impl_from.f a lo hi = some (decide (lo ≤ a ∧ a ≤ hi)) := by
 unfold impl_from.f
 by_cases h : a ≥ lo
 rotate_left
 ·rw [if_neg h, decide_eq_false (fun q => h q.1)]
 rw [if_pos h]
 by_cases h2 : a ≤ hi
 ·rw [decide_eq_true h2, decide_eq_true ⟨h, h2⟩]
 rw [decide_eq_false h2, decide_eq_false (fun q => h2 q.2)]
/-- The first event that is of none of so many harts, from here on. -/
def whoIdx (n : Int) : List S31 → Nat → Int
 | [], _ => -1
 | x :: r, i => if 0 ≤ x.f0 ∧ x.f0 ≤ wrap64 (n - 1) then whoIdx n r (i + 1) else (i : Int)
theorem whoIdx_drop (n : Int) (l : List S31) (i : Nat) (h : i < l.length) : whoIdx n (l.drop i) i = if 0 ≤ (rd_T31 l (i : Int)).f0 ∧ (rd_T31 l (i : Int)).f0 ≤ wrap64 (n - 1) then whoIdx n (l.drop (i + 1)) (i + 1) else (i : Int) := by
 have e : rd_T31 l (i : Int) = l[i] := by unfold rd_T31; simp [List.getD, h]
 rw [List.drop_eq_getElem_cons h, whoIdx, e]
theorem whoIdx_any (n : Int) : ∀ (l : List S31) (i : Nat), decide (0 ≤ whoIdx n l i) = l.any fun e => !decide (0 ≤ e.f0 ∧ e.f0 ≤ wrap64 (n - 1))
 | [], i => rfl
 | x :: r, i => by
  unfold whoIdx
  rw [List.any_cons]
  by_cases c : 0 ≤ x.f0 ∧ x.f0 ≤ wrap64 (n - 1)
  ·rw [if_pos c, decide_eq_true c, Bool.not_true, Bool.false_or]; exact whoIdx_any n r (i + 1)
  rw [if_neg c, decide_eq_false c, Bool.not_false, Bool.true_or]; exact decide_eq_true (by omega)
theorem whoIdx_calls (A0 : Option Addr) (c0 : Nat) (l0 : List S31) (g : Nat) (n : Int) (w : World) (hr0 : Kd.C k31 w A0 l0.length l0) (hc : w.cell? ⟨g, 0, none⟩ = some (.int .i64 n)) :
  Calls Try.prog 62 #[.slice A0 l0.length c0, .func (.func 33) #[] #[.pointer (some ⟨g, 0, none⟩)]] w fun e w' => e = .returned (.int .i64 (whoIdx n l0 0)) ∧ Below w.heap.size w w' := by
 have hu31 := Try.underlying31
 have HR0 := zM hr0
 have HC := zM hc
 have HL := zM (show l0.length ≤ 9223372036854775807 from hr0.2.1)
 clear hr0 hc
 have HB := zM (Below.refl w.heap.size w)
 go_enter Try.func62, Try.ntmps62
 go_wp2
 go_loopg [8] l0.length (fun kq v8 w' => ∃ i : Nat, v8 = .int .i64 i ∧ Aside0 (i + kq = l0.length) ∧ Aside0 (whoIdx n (l0.drop i) i = whoIdx n l0 0) ∧ Aside0 (Below w.heap.size w w'))
 case atStart => exact ⟨0, rfl, ⟨by omega⟩, ⟨rfl⟩, ⟨HB.1⟩⟩
 case round =>
  clear HB
  obtain ⟨i, rfl, HI, HP, HB⟩ := hrel
  by_cases hi : i < l0.length
  rotate_left
  ·have d0 : decide ((i : Int) < (l0.length : Int)) = false := decide_eq_false (by omega)
   have hp := HP.1
   rw [List.drop_of_length_le (by omega)] at hp
   have HP' := zM hp
   clear hp HP
   go_wp2_with fail
   go_ret
   exact ⟨by rw [← HP'.out]; rfl, zB1⟩
  have HI2 := zM hi
  have d0 : decide ((i : Int) < (l0.length : Int)) = true := decide_eq_true (by omega)
  have hp := HP.1
  rw [whoIdx_drop n l0 i hi] at hp
  obtain ⟨ad, e0, hx0, hx1, hx2, hx3, hx4⟩ := at_T31 HR0.1 (i : Int) (by omega) (by omega)
  cases e0
  replace hx0 := zHx HB.1 hx0
  replace hx1 := zHx HB.1 hx1
  replace hx2 := zHx HB.1 hx2
  replace hx3 := zHx HB.1 hx3
  replace hx4 := zHx HB.1 hx4
  simp only [Int.toNat_natCast] at hx0 hx1 hx2 hx3 hx4
  have p1 : (0 ≤ (i : Int)) = True := eq_true (by omega)
  have p2' : ((i : Int) < (l0.length : Int)) = True := eq_true (by omega)
  by_cases hn : 0 ≤ (rd_T31 l0 (i : Int)).f0 ∧ (rd_T31 l0 (i : Int)).f0 ≤ wrap64 (n - 1)
  rotate_left
  ·rw [if_neg hn] at hp
   have HP' := zM hp
   have HN := zM (show impl_from.f ((rd_T31 l0 (i : Int)).f0) 0 (wrap64 (n - 1)) = some false by rw [whosFrom, decide_eq_false hn])
   clear hp hn HP
   go_wp2_with (first | (go_at_call 33; (refine (whosIn1 g ((rd_T31 l0 (i : Int)).f0) _ _ _ _ n false _ ((HB.1.cell (World.block_lt_of_cell? w _ HC.1)).trans HC.1) HN.out).mono ?_); rintro e w8 ⟨rfl, hb⟩; have n0_ := zM (below_step HB.1 hb); clear HB; have HB := n0_; clear n0_ hb))
   go_ret
   exact ⟨by rw [← HP'.out]; rfl, zB1⟩
  rw [if_pos hn] at hp
  have HP' := zM hp
  have HN := zM (show impl_from.f ((rd_T31 l0 (i : Int)).f0) 0 (wrap64 (n - 1)) = some true by rw [whosFrom, decide_eq_true hn])
  clear hp hn HP
  go_wp2_with (first | (go_at_call 33; (refine (whosIn1 g ((rd_T31 l0 (i : Int)).f0) _ _ _ _ n true _ ((HB.1.cell (World.block_lt_of_cell? w _ HC.1)).trans HC.1) HN.out).mono ?_); rintro e w8 ⟨rfl, hb⟩; have n0_ := zM (below_step HB.1 hb); clear HB; have HB := n0_; clear n0_ hb))
  go_roundg (gk - 1)
  case rel => exact ⟨i + 1, congrArg (Value.int .i64) (by have h1_ := HI2.1; have h2_ := HL.1; show wrap64 ((i : Int) + 1) = ((i + 1 : Nat) : Int); unfold wrap64; omega), ⟨by have := HI.1; have := HI2.1; omega⟩, ⟨HP'.out⟩, ⟨HB.1⟩⟩
  all_goals (have := HI.1; have := HI2.1; omega)
def impl_Event_32.f (a0 : Int) (l1 : List S31) : Option Bool := some (l1.any fun e => !decide (0 ≤ e.f0 ∧ e.f0 ≤ wrap64 (a0 - 1)))
theorem impl_Event_32.calls (a0 : Int) (g : Nat) (A1 : Option Addr) (c1 : Nat) (l1 : List S31) (r : Bool) (w : World) (hbx : w.cell? ⟨g, 0, none⟩ = some (.int .i64 a0)) (hr1 : Kd.C k31 w A1 l1.length l1) (hc1 : l1.length ≤ c1) (h : impl_Event_32.f a0 l1 = some r) :
  Calls Try.prog 32 #[.slice A1 l1.length c1, .func (.func 33) #[] #[.pointer (some ⟨g, 0, none⟩)]] w fun e w' => e = .returned (.bool r) ∧ Below w.heap.size w w' := by
 obtain rfl := Option.some.inj h
 rw [← whoIdx_any a0 l1 0]
 have HR0 := zM hr1
 have HC := zM hbx
 clear hr1 hc1 hbx h
 have HB := zM (Below.refl w.heap.size w)
 go_enter Try.func32, Try.ntmps32
 go_wp2_with (first
  | (go_at_call 62; (refine (whoIdx_calls A1 c1 l1 g a0 _ HR0.1 HC.1).mono ?_); rintro e w8 ⟨rfl, hb⟩; have n0_ := zM (below_step HB.1 hb); clear HB; have HB := n0_; clear n0_ hb))
 go_ret
 exact ⟨rfl, zB1⟩

-- NOT PRINTED: function 33 (impl_Clocks_1)

/-! ### impl_ClockNew: function 34 -/
def impl_ClockNew.f (a0 : Int) : Option (List Int) := (impl_from.f a0 1 8).bind fun t102 => (if t102 = true then (if 0 ≤ a0 then (if (a0 : Int).toNat ≤ 35184372088832 then (some (List.replicate (a0 : Int).toNat 0)) else (none)) else (none)) else (some ([] : List Int)))
theorem impl_ClockNew.calls (a0 : Int) (r : List Int) (w : World) (h : impl_ClockNew.f a0 = some r) :
  Calls Try.prog 34 #[.int .i64 a0] w fun e w' => ∃ v0_ : Value, e = .returned (v0_) ∧ Kd.R (Kd.int .i64) 3 w' w.heap.size (fun _ => True) v0_ r ∧ Below w.heap.size w w' := by
 have HB := zM (Below.refl w.heap.size w)
 unfold impl_ClockNew.f at h
 have H := h
 clear h
 replace H := zO H
 obtain ⟨t102, A2, H⟩ := H
 by_cases c3 : t102 = true
 rotate_left
 ·replace c3 := Bool.eq_false_iff.mpr c3
  subst c3
  rw [if_neg zF] at H
  obtain rfl := Option.some.inj H
  go_enter Try.func34, Try.ntmps34
  go_wp2_with (first | ((with_reducible refine zG Try.func31 4 #[.int .i64 a0, .int .i64 1, .int .i64 8] ?_); (with_reducible refine (impl_from.calls a0 1 8 false _ A2.1).mono ?_); rintro e w' ⟨rfl, ⟨nd, rfl⟩⟩; refine ⟨_, rfl, ?_⟩))
  go_ret
  exact ⟨_, zE, by first | exact Kd.R_nil _ _ _ _ _ | exact Kd.N_nil _ _ _ _ _ | exact Kd.V_nil _ _ _ _ _ | exact Kd.Q_nil _ _ _ _ _ | exact Kd.S_nil _ _ _ _ _, zB1⟩
 subst c3
 rw [if_pos rfl] at H
 replace H := zIp H
 obtain ⟨c4, H⟩ := H
 have c4b0 := eq_true c4
 have c4b1 : decide (0 ≤ a0) = true := decide_eq_true c4
 clear c4
 replace H := zIp H
 obtain ⟨c5, H⟩ := H
 have c5b0 := eq_true c5
 have c5b1 : decide ((a0 : Int).toNat ≤ 35184372088832) = true := decide_eq_true c5
 clear c5
 generalize hy103 : ((List.replicate (a0 : Int).toNat 0) : List Int) = y103 at H
 have Ny103 := zM hy103.symm
 clear hy103
 obtain rfl := Option.some.inj H
 go_enter Try.func34, Try.ntmps34
 go_wp2_with (first | ((with_reducible refine zG Try.func31 4 #[.int .i64 a0, .int .i64 1, .int .i64 8] ?_); (with_reducible refine (impl_from.calls a0 1 8 true _ A2.1).mono ?_); rintro e w' ⟨rfl, ⟨nd, rfl⟩⟩; refine ⟨_, rfl, ?_⟩) | ((with_reducible refine gate_dst (N := 7) rfl ?_); refine Kd.R_make (Kd.int .i64) _ 3 rfl (N := 7) rfl 29 _ _ rfl a0 rfl rfl Try.underlying29 (.int .i64 0) 8 info3 rfl (by decide) (by omega) 0 (ok := fun _ => True) (okp := fun _ => True) rfl (fun _ hk => hk) trivial zA (Nat.le_trans (Nat.mul_le_mul_right _ (zA : a0.toNat ≤ 35184372088832)) (by omega)) (Below.refl _ _) (Nat.le_refl _) ?_; intro v104 w6 ho7 hb hg_ hnew_; clear hg_ hnew_; (first | rw [← Ny103.1] at ho7 | (simp only [Int.reduceToNat] at ho7; rw [← Ny103.1] at ho7)); have HO105 := zM (Kd.R_lower ho7 (below_size zB1)); replace HB := zM (below_step zB1 hb); clear hb ho7))
 go_ret
 exact ⟨_, zE, zR HO105.1, zB1⟩

/-! ### slices_Clone_int_int: function 35 -/
def slices_Clone_int_int.f (l0 : List Int) : Option (List Int) := if l0.length ≤ 17592186044416 then some l0 else none
theorem slices_Clone_int_int.calls (A0 : Option Addr) (c0 : Nat) (l0 : List Int) (r : List Int) (w : World) (hr0 : Kd.C (Kd.int .i64) w A0 l0.length l0) (hc0 : l0.length ≤ c0) (h : slices_Clone_int_int.f l0 = some r) :
  Calls Try.prog 35 #[.slice A0 l0.length c0] w fun e w' => ∃ v0_ : Value, e = .returned (v0_) ∧ Kd.R (Kd.int .i64) 3 w' w.heap.size (fun _ => True) v0_ r ∧ Below w.heap.size w w' := by
 unfold slices_Clone_int_int.f at h
 by_cases hl : l0.length ≤ 17592186044416
 rotate_left
 ·rw [if_neg hl] at h
  exact absurd h (by simp)
 rw [if_pos hl] at h
 obtain rfl := Option.some.inj h
 have LM := zM hl
 clear h hl
 have HR0 := zM hr0
 have HC0 := zM hc0
 clear hr0 hc0
 have HB := zM (Below.refl w.heap.size w)
 have q22 : ∀ (w : World) (a : Option Addr) (n c n' c' : Nat), (binOp .eql 29 (.slice a n c) (.slice none n' c')).run Try.prog w = .ok (.bool a.isNone) w := fun w a n c n' c' => Lib.run_eql_slice_nil w _ _ a n c n' c' Try.underlying29
 cases A0 with
 | none =>
  have hz : l0 = [] := by
   cases l0 with
   | nil => rfl
   | cons x xs => obtain ⟨ad, e, _⟩ := HR0.1.2.2 (by simp); cases e
  subst hz
  go_enter Try.func35, Try.ntmps35
  go_wp2
  go_ret
  exact ⟨_, rfl, Kd.R_nil _ _ _ _ _, Below.refl _ _⟩
 | some ad =>
  obtain ⟨y1, hy1⟩ : ∃ y_ : List Int, y_ = ([] : List Int) := ⟨_, rfl⟩
  have Ny1 := zM hy1
  clear hy1
  go_enter Try.func35, Try.ntmps35
  go_wp2_with (first | ((with_reducible refine gate_dst (N := 5) rfl ?_); refine Kd.R_lit (Kd.int .i64) _ 3 ?hg (N := 5) ?hd (xs := ([] : List Int)) (inner := []) (ok := fun _ => True) (okp := fun _ => True) ?hr ?hp (fun _ hk => hk) trivial (Below.refl _ _) (Nat.le_refl _) (by simp) ?_; (case hd => rfl); (case hg => rfl); (case hr => exact zHH); (case hp => exact (Reps.none _ _)); intro v461 w5 ho6 hb hg_ hnew_; clear hg_ hnew_; (first | rw [← Ny1.1] at ho6 | (simp only [Int.reduceToNat] at ho6; rw [← Ny1.1] at ho6)); have n0_ := zM (Kd.R_lower ho6 (below_size HB.1)); have n3_ := zM (below_step HB.1 hb); clear HB; have HO462 := n0_; have HB := n3_; clear n0_ n3_; clear hb ho6) | ((with_reducible refine gate_builtin (b := .append) (xs := #[.tmp 5, .tmp 6]) rfl ?_); at_builtin; refine Kd.R_append_rows (Kd.int .i64) (w0 := w) w.heap.size rfl (.tmp 5) (.tmp 6) 29 3 (.int .i64 0) 8 rfl Try.underlying29 info3 rfl (by decide) (by omega) v461 y1 l0 _ _ _ (fun _ => True) (fun _ => False) rfl rfl ?aO ?aR (fun _ _ h => h) (fun _ h => h.elim) ?aF ?aB ?aS ?aL ?_; (case aR => exact zC (Kd.C_below HR0.1 HB.1)); (case aB => exact zB1); (case aF => exact (fun _ _ => trivial)); (case aO => exact (zR HO462.1)); (case aS => exact (below_size zB1)); (case aL => have h1_ := LM.out; have h2_ : y1.length = 0 := (by rw [Ny1.1]; rfl); rw [h2_]; omega); intro v464 w9 ho hb hg hat; rw [Ny1.1, List.nil_append] at ho; have n2_ := zM hb; have n3_ := zM ho; clear HB; clear HO462; have HB := n2_; have HO465 := n3_; clear n2_ n3_; clear ho hb hg hat))
  go_ret
  exact ⟨_, rfl, HO465.1, HB.1⟩

/-! ### impl_isSwap: function 36 -/
def impl_isSwap.f (a0_0 : Int) (a0_1 : Int) (a0_2 : Int) (a0_3 : Int) (a0_4 : Int) : Option (Bool) := if a0_3 ≥ 0 then (some (decide (a0_4 ≥ 0))) else (some false)
theorem impl_isSwap.calls (a0_0 : Int) (a0_1 : Int) (a0_2 : Int) (a0_3 : Int) (a0_4 : Int) (r : Bool) (w : World) (h : impl_isSwap.f a0_0 a0_1 a0_2 a0_3 a0_4 = some r) :
  Calls Try.prog 36 #[.agg #[.int .i64 a0_0, .int .i64 a0_1, .int .i64 a0_2, .int .i64 a0_3, .int .i64 a0_4]] w fun e w' => e = .returned (.bool r) ∧ Below w.heap.size w w' := by
 have hu31 := Try.underlying31
 have HB := zM (Below.refl w.heap.size w)
 unfold impl_isSwap.f at h
 have H := h
 clear h
 by_cases c2 : a0_3 ≥ 0
 ·rw [if_pos c2] at H
  have c2b0 := decide_eq_true c2
  clear c2
  obtain rfl := Option.some.inj H
  go_enter Try.func36, Try.ntmps36
  go_wp2_with (first | ((with_reducible refine zBx 1 31 #[.int .i64 a0_0, .int .i64 a0_1, .int .i64 a0_2, .int .i64 a0_3, .int .i64 a0_4] ?_); intro gb106 hg w3 hbox hb; have BK106 := zM hbox; have GW106 := zM (zW hg (below_size zB1)); have GE106 := zM (zW hg (below_size zB1)); replace HB := zM (below_step zB1 hb); clear hb hbox hg; have hcz4 := zc_5 (w := w3) BK106.1))
  go_ret
  exact ⟨zE, zB1⟩
 rw [if_neg c2] at H
 have c2b0 := decide_eq_false c2
 clear c2
 obtain rfl := Option.some.inj H
 go_enter Try.func36, Try.ntmps36
 go_wp2_with (first | ((with_reducible refine zBx 1 31 #[.int .i64 a0_0, .int .i64 a0_1, .int .i64 a0_2, .int .i64 a0_3, .int .i64 a0_4] ?_); intro gb106 hg w5 hbox hb; have BK106 := zM hbox; have GW106 := zM (zW hg (below_size zB1)); have GE106 := zM (zW hg (below_size zB1)); replace HB := zM (below_step zB1 hb); clear hb hbox hg; have hcz6 := zc_5 (w := w5) BK106.1))
 go_ret
 exact ⟨zE, zB1⟩

/-! ### impl_ClockJoin: function 37 -/
def impl_ClockJoin.l0 : Nat → List Int → List Int → List Int → Int → Int → Option (List Int)
 | 0, _, _, _, _, _ => none
 | k + 1, x0, x1, x5, x16, x17 => if x17 < x16 then (if 0 ≤ x17 then (if x17 < (x0.length : Int) then (if x17 < (x1.length : Int) then (if x17 < (x5.length : Int) then (impl_ClockJoin.l0 k x0 x1 (x5.set (x17 : Int).toNat (mx (rd x0 x17) (rd x1 x17))) x16 (wrap64 (x17 + 1))) else (none)) else (none)) else (none)) else (none)) else (some x5)
def impl_ClockJoin.f (k : Nat) (l0 : List Int) (l1 : List Int) : Option (List Int) := (slices_Clone_int_int.f l0).bind fun t107 => (if (l0.length : Int) = (l1.length : Int) then (impl_ClockJoin.l0 k l0 l1 t107 (t107.length : Int) 0) else (some t107))
theorem impl_ClockJoin.mono_l : ∀ k, (∀ y0 y1 y2 y3 y4, LeO (impl_ClockJoin.l0 k y0 y1 y2 y3 y4) (impl_ClockJoin.l0 (k + 1) y0 y1 y2 y3 y4))
 | 0 => fun _ _ _ _ _ r h => by simp [impl_ClockJoin.l0] at h
 | k + 1 => by
  have ih0 := impl_ClockJoin.mono_l k
  ·intros
   unfold impl_ClockJoin.l0
   exact zL
theorem impl_ClockJoin.mono : ∀ a0 a1 k, LeO (impl_ClockJoin.f k a0 a1) (impl_ClockJoin.f (k + 1) a0 a1) := by
 intro a0 a1 k
 have ih0 := impl_ClockJoin.mono_l k
 unfold impl_ClockJoin.f
 exact zL
def impl_ClockJoin.T7 : Bool × List (List Nat × List Nat) := (true, [([], []), ([], []), ([], []), ([], []), ([2, 3], [2, 3]), ([4], [4]), ([], []), ([], []), ([6, 7], [6, 7]), ([8], [8]), ([5, 9], [5, 9]), ([0, 1, 0, 1, 2, 3, 4, 5, 6, 7, 8, 9, 10], [0, 1]), ([11, 10, 0, 1, 2, 3, 4, 5, 6, 7, 8, 9, 10], [10, 11])])
def impl_ClockJoin.B7 : List Nat := [0, 0, 0, 0, 12, 28, 0, 0, 192, 448, 1020, 2047, 4095]
theorem impl_ClockJoin.tab7 : rtab .any (opsOf Try.f37 7) = impl_ClockJoin.T7 := by kernel_rfl
theorem impl_ClockJoin.bits7 : waitsOk impl_ClockJoin.T7.2 impl_ClockJoin.B7 = true := by kernel_rfl
theorem impl_ClockJoin.calls (k : Nat) (A0 : Option Addr) (c0 : Nat) (l0 : List Int) (A1 : Option Addr) (c1 : Nat) (l1 : List Int) (r : List Int) (w : World) (hr0 : Kd.C (Kd.int .i64) w A0 l0.length l0) (hc0 : l0.length ≤ c0) (hr1 : Kd.C (Kd.int .i64) w A1 l1.length l1) (hc1 : l1.length ≤ c1) (h : impl_ClockJoin.f k l0 l1 = some r) :
  Calls Try.prog 37 #[.slice A0 l0.length c0, .slice A1 l1.length c1] w fun e w' => ∃ v0_ : Value, e = .returned (v0_) ∧ Kd.R (Kd.int .i64) 3 w' w.heap.size (fun _ => True) v0_ r ∧ Below w.heap.size w w' := by
 have HR0 := zM hr0
 have HC0 := zM hc0
 clear hr0 hc0
 have HR1 := zM hr1
 have HC1 := zM hc1
 clear hr1 hc1
 have HB := zM (Below.refl w.heap.size w)
 unfold impl_ClockJoin.f at h
 have H := h
 clear h
 replace H := zO H
 obtain ⟨t107, A3, H⟩ := H
 by_cases c4 : (l0.length : Int) = (l1.length : Int)
 rotate_left
 ·rw [if_neg c4] at H
  have c4b0 : ((l0.length : Int) == (l1.length : Int)) = false := beq_eq_false_iff_ne.mpr c4
  have c4b1 : ((l0.length : Int) != (l1.length : Int)) = true := bne_iff_ne.mpr c4
  have c4b2 : (l0.length == l1.length) = false := by first | simpa using c4 | (simp at c4 ⊢; omega)
  obtain rfl := Option.some.inj H
  go_enter Try.func37, Try.ntmps37
  go_wp2_with (first | ((with_reducible refine zG Try.func35 8 #[.slice A0 l0.length c0] ?_); (with_reducible refine (slices_Clone_int_int.calls _ _ l0 t107 _ ?side1 ?side2 A3.1).mono ?_); (case side1 => exact zC HR0.1); (case side2 => exact HC0.1); rintro e w16 ⟨v108, rfl, ho0, hb⟩; refine ⟨_, rfl, ?_⟩; have HO109 := zM (Kd.R_lower ho0 (below_size zB1)); replace HB := zM (below_step zB1 hb); clear hb ho0))
  go_ret
  exact ⟨_, zE, zR HO109.1, zB1⟩
 rw [if_pos c4] at H
 have c4b0 : ((l0.length : Int) == (l1.length : Int)) = true := beq_iff_eq.mpr c4
 have c4b1 : ((l0.length : Int) != (l1.length : Int)) = false := bne_eq_false_iff_eq.mpr c4
 have c4b2 : (l0.length == l1.length) = true := by first | simpa using c4 | (simp at c4 ⊢; omega)
 clear c4
 have H' := zM H
 clear H
 go_enter Try.func37, Try.ntmps37
 go_wp2_with (first | ((with_reducible refine zG Try.func35 8 #[.slice A0 l0.length c0] ?_); (with_reducible refine (slices_Clone_int_int.calls _ _ l0 t107 _ ?side1 ?side2 A3.1).mono ?_); (case side1 => exact zC HR0.1); (case side2 => exact HC0.1); rintro e w5 ⟨v108, rfl, ho0, hb⟩; refine ⟨_, rfl, ?_⟩; have HO109 := zM (Kd.R_lower ho0 (below_size zB1)); replace HB := zM (below_step zB1 hb); clear hb ho0; obtain ⟨Ao6, co6, eo6⟩ := Kd.R_slice HO109.1; subst eo6))
 go_loopg [17] k (fun kq v17 w' => ∃ (x5_1 : List Int) (x17_1 : Int), v17 = .int .i64 x17_1 ∧ Aside0 (impl_ClockJoin.l0 kq l0 l1 x5_1 (t107.length : Int) x17_1 = some r) ∧ Aside0 (kq ≤ k) ∧ Aside0 (Kd.R (Kd.int .i64) 3 w' w.heap.size (fun _ => True) (.slice Ao6 t107.length co6) x5_1) ∧ Aside0 (Below w.heap.size w w'))
 case atStart => exact ⟨(t107), (0), zJJ, H', ⟨Nat.le_refl _⟩, ⟨zR HO109.1⟩, ⟨zB1⟩⟩
 case round =>
  clear H'
  obtain ⟨x5_1, x17_1, rfl, HA, HK1, HO_5, HB⟩ := hrel
  have hl5_1 := (Kd.R_reads' HO_5.1).1
  rw [hl5_1] at HO_5
  (try simp only [hl5_1])
  cases gk with
  | zero => exact absurd HA.1 (by simp [impl_ClockJoin.l0])
  | succ k1 =>
   have H := HA.1
   clear HA
   simp only [impl_ClockJoin.l0] at H
   by_cases c7 : x17_1 < (t107.length : Int)
   rotate_left
   ·rw [if_neg c7] at H
    have c7b0 := decide_eq_false c7
    (try (have c7b0_ := c7b0; simp only [hl5_1] at c7b0_))
    clear c7
    obtain rfl := Option.some.inj H
    go_wp2
    go_ret
    exact ⟨_, zE, zR HO_5.1, zB1⟩
   rw [if_pos c7] at H
   have c7b0 := decide_eq_true c7
   (try (have c7b0_ := c7b0; simp only [hl5_1] at c7b0_))
   clear c7
   replace H := zIt H
   obtain ⟨c8b0, H⟩ := H
   replace H := zIp H
   obtain ⟨c9, H⟩ := H
   have c9b0 := decide_eq_true c9
   (try (have c9b0_ := c9b0; simp only [hl5_1] at c9b0_))
   clear c9
   replace H := zIp H
   obtain ⟨c10, H⟩ := H
   have c10b0 := decide_eq_true c10
   (try (have c10b0_ := c10b0; simp only [hl5_1] at c10b0_))
   clear c10
   obtain ⟨ji11, hji11⟩ : ∃ j_ : Int, (mx (rd l0 x17_1) (rd l1 x17_1)) = j_ := ⟨_, rfl⟩
   replace H : (if x17_1 < (x5_1.length : Int) then (impl_ClockJoin.l0 k1 l0 l1 (x5_1.set (x17_1 : Int).toNat (ji11)) (t107.length : Int) (wrap64 (x17_1 + 1))) else (none)) = some r := by first | (rw [hji11] at H; exact H) | (simp only [hji11] at H ⊢; exact H)
   have hji11_ : (if (rd l0 x17_1) < (rd l1 x17_1) then (rd l1 x17_1) else (rd l0 x17_1)) = ji11 := hji11
   replace H := zIp H
   obtain ⟨c12, H⟩ := H
   have c12b0 := decide_eq_true c12
   (try (have c12b0_ := c12b0; simp only [hl5_1] at c12b0_))
   clear c12
   generalize hy112 : ((x5_1.set (x17_1 : Int).toNat (ji11)) : List Int) = y112 at H
   have Ny112 := zM hy112.symm
   clear hy112
   have H' := zM H
   clear H
   try go_wp2
   replace HO_5 := zM (Kd.R_drew HO_5.1)
   replace HB := zM (below_drew1 HB.1)
   obtain ⟨p110, q110, ad110, e110, hx110_0⟩ := zRd (Kd.at_int HR0.1 x17_1)
   have hw110_0 := hx110_0
   cases e110
   replace hx110_0 := zHx HB.1 hx110_0
   obtain ⟨p111, q111, ad111, e111, hx111_0⟩ := zRd (Kd.at_int HR1.1 x17_1)
   have hw111_0 := hx111_0
   cases e111
   replace hx111_0 := zHx HB.1 hx111_0
   have p13 : 0 ≤ (x17_1 : Int) := zA
   have q13 : (x17_1 : Int) < ((x5_1.length : Int) : Int) := zA
   obtain ⟨go13, co13, eo13, gb13, gl13, cl13, HG13⟩ := Kd.R_form HO_5.1 (by omega)
   (first | cases eo13 | (injection eo13 with ea_ en_ ec_; (first | subst ea_ | (injection ea_ with ea_; subst ea_)); subst ec_; clear en_))
   have GB13 := zM gb13
   have GG13 := zM HG13
   clear gb13 gl13 HG13
   obtain ⟨hx13_0, hf13_0⟩ := Kd.R_celln 0 HO_5.1 (x17_1 : Int) p13 q13
   replace p13 := eq_true p13
   replace q13 := eq_true q13
   have HP15 := Kd.R_putn HO_5.1 (x17_1 : Int) ji11
   rw [← Ny112.1] at HP15
   have HQ15 := zM HP15
   clear HP15
   refine start_ (n := 13) (S := fun w' => w'.cell? (ad110.add (x17_1).toNat) = some (.int .i64 (rd l0 x17_1)) ∧ w'.cell? (ad111.add (x17_1).toNat) = some (.int .i64 (rd l1 x17_1))) (ds := [12]) #[false, false, false, false, false, false, false, false, false, false, false, false, false] (by kernel_rfl) rfl rfl ⟨((HB.1.cell (World.block_lt_of_cell? w _ hw110_0)).trans hw110_0), ((HB.1.cell (World.block_lt_of_cell? w _ hw111_0)).trans hw111_0)⟩ (fun hHeld => ?_); refine with_tabW impl_ClockJoin.tab7 impl_ClockJoin.bits7 (fun HT_ HW_ => ?_)
   generalize wr.drew = w14 at HO_5 HB GG13 HQ15 hf13_0 hx110_0 hx111_0 hx13_0 hHeld ⊢
   refine zPu 0 ?_
   refine zPu 1 ?_
   refine zPu 2 ?_
   refine zPu 3 ?_
   refine zPu 4 ?_
   refine zPu 6 ?_
   refine zPu 7 ?_
   refine zPu 8 ?_
   refine zTk2 5 hHeld ?_
   refine zTk2 9 hHeld ?_
   refine zPu 10 ?_
   refine zPu 11 ?_
   refine last_ (i := 12) (N := none) #[true, true, true, true, true, true, true, true, true, true, true, true, true] rfl rfl (one_of HT_.1 (by kernel_rfl)) (by decide) (fun K hK => ?_)
   refine skip_ (w1 := ?_) (by rfl) rfl ?_ ?_
   rotate_left
   ·go_simp
    rfl
   refine hK.out _ _ ?_
   clear hK K
   refine done_ (done_of HT_.1 (by kernel_rfl)) ?_
   try go_wp2
   (try simp only [← hl5_1])
   go_roundg k1
   case measure => have := HK1.1; omega
   case rel => exact ⟨(y112), (wrap64 (x17_1 + 1)), zJJ, H', ⟨by have := HK1.1; omega⟩, ⟨by (try simp only [hl5_1]); (with_reducible repeat (first | apply Kd.R_alloc | apply Kd.R_drewN | apply Kd.R_drew)); exact HQ15.out⟩, ⟨zB1⟩⟩

end Go.Proofs.Ytgbjengnkbomoaa.PFnRaces
