-- made by wip/tools/myprint.py out of the seat's translation
import Derived.Test.YtajhfpeijagpnaaPFnResumesx0
import Derived.Test.YtajhfpeijagpnaaPFnResumesx6
import Derived.Test.YtajhfpeijagpnaaPFnResumesx11
namespace Go.Proofs.Ytajhfpeijagpnaa.PFnResumes
open Go.RowKit Go.Proofs.YtajhfpeijagpnaaW.PrintWords Go.Proofs.YtajhfpeijagpnaaW.PrintLast Go.Proofs.YtajhfpeijagpnaaW.PrintMore
attribute [local go_sem] max2_int min2_int max_two min_two max_three min_three max_four min_four   -- for this text's walks alone
set_option linter.unusedVariables false
set_option linter.unusedSimpArgs false
theorem zc12_3 {w : World} {g : Nat} {a0 a1 a2 : Value} {t : TypeId} (h : w.heap[g]? = some (.cells #[a0, a1, a2] t (0, 0))) : w.cell? ⟨g, 0, none⟩ = some a0 ∧ w.cell? ⟨g, 1, none⟩ = some a1 ∧ w.cell? ⟨g, 2, none⟩ = some a2 ∧ w.frozen? ⟨g, 0, none⟩ = false ∧ w.frozen? ⟨g, 1, none⟩ = false ∧ w.frozen? ⟨g, 2, none⟩ = false := ⟨(blk_cell h 0).trans rfl, (blk_cell h 1).trans rfl, (blk_cell h 2).trans rfl, blk_frozen h 0, blk_frozen h 1, blk_frozen h 2⟩
abbrev zq12_0 : Array Bool := #[false, false, false, false, false, false, false, false, false, false, false, false, false, false]
abbrev zq12_1 : Array Bool := #[true, false, false, false, false, false, false, false, false, false, false, false, false, false]
abbrev zq12_2 : Array Bool := #[true, true, false, false, false, false, false, false, false, false, false, false, false, false]
abbrev zq12_3 : Array Bool := #[true, true, false, true, false, false, false, false, false, false, false, false, false, false]
abbrev zq12_4 : Array Bool := #[true, true, false, true, true, false, false, false, false, false, false, false, false, false]
abbrev zq12_5 : Array Bool := #[true, true, false, true, true, false, false, true, false, false, false, false, false, false]
abbrev zq12_6 : Array Bool := #[true, true, false, true, true, false, false, true, true, false, false, false, false, false]
abbrev zq12_7 : Array Bool := #[true, true, false, true, true, true, false, true, true, false, false, false, false, false]
abbrev zq12_8 : Array Bool := #[true, true, false, true, true, true, true, true, true, false, false, false, false, false]
abbrev zq12_9 : Array Bool := #[true, true, false, true, true, true, true, true, true, true, false, false, false, false]
abbrev zq12_10 : Array Bool := #[true, true, false, true, true, true, true, true, true, true, true, false, false, false]
abbrev zq12_11 : Array Bool := #[true, true, true, true, true, true, true, true, true, true, true, true, true, false]
abbrev zq12_12 : Array Bool := #[true, true, true, true, true, true, true, true, true, true, true, false, false, false]
abbrev zq12_13 : Array Bool := #[true, true, false, true, true, true, true, true, true, true, true, false, true, false]
abbrev zq12_14 : Array Bool := #[true, true, true, true, true, true, true, true, true, true, true, true, false, false]
abbrev zq12_15 : Array Bool := #[true, true, true, true, true, true, true, true, true, true, true, false, true, false]
abbrev zq12_16 : Array Bool := #[true, true, true, true, true, true, true, true, true, true, true, true, true, true]
theorem zR12 {p q : Prop} (x : q) (h : q → p := by intro h; (with_reducible repeat (first | apply Kd.R_alloc | apply Kd.R_drewN | apply Kd.R_drew)); exact h) : p := h x
theorem zK12 {p q : Prop} (x : q) (h : q → p := by intro h; (with_reducible repeat (first | refine blk_drewN ?_ _ | refine blk_drew ?_ | refine blk_alloc ?_ _)); exact h) : p := h x
theorem zA12 {p : Prop} [Decidable p] (h : decide p = true := by first | (with_reducible assumption) | assumption) : p := of_decide_eq_true h
theorem zT12 {p : Prop} (h : p := by (try simp only [List.map_toArray, List.map_cons, List.map_nil]); first | done | rfl | (simp only [List.length_drop, List.length_take]; rfl)) : p := h
theorem zC12 {p q : Prop} (x : q) (h : q → p := by intro h; repeat (first | exact h | (with_reducible refine Kd.C_alloc ?_ _) | (with_reducible refine Kd.C_drewN ?_ _) | (with_reducible refine Kd.C_drew ?_))) : p := h x
theorem zb12 {W w w1 : World} {g : Nat} {o : Obj} (x : W.heap[g]? = some o) (hb : Below w.heap.size w w1) (h : W.heap[g]? = some o → w.heap[g]? = some o := by intro h; (with_reducible repeat (first | refine blk_drewN ?_ _ | refine blk_drew ?_ | refine blk_alloc ?_ _)); exact h) : w1.heap[g]? = some o := blk_below (h x) hb
theorem zn12 {W w : World} {g g' : Nat} {o : Obj} (x : W.heap[g]? = some o) (hg : g' = w.heap.size) (h : W.heap[g]? = some o → w.heap[g]? = some o := by intro h; (with_reducible repeat (first | refine blk_drewN ?_ _ | refine blk_drew ?_ | refine blk_alloc ?_ _)); exact h) : g ≠ g' := by rw [hg]; exact Nat.ne_of_lt (blk_lt (h x))
theorem zm12 {W w : World} {g g' : Nat} {o : Obj} (x : W.heap[g]? = some o) (hg : g' = w.heap.size) (h : W.heap[g]? = some o → w.heap[g]? = some o := by intro h; (with_reducible repeat (first | refine blk_drewN ?_ _ | refine blk_drew ?_ | refine blk_alloc ?_ _)); exact h) : g' ≠ g := by rw [hg]; exact Nat.ne_of_gt (blk_lt (h x))
theorem zP12 {p q : Prop} (x : q) (h : q → p := by intro h; (with_reducible repeat (first | refine blk_drewN ?_ _ | refine blk_drew ?_ | refine blk_alloc ?_ _)); exact h) : p := h x
theorem zV12 {a b : Act} (h : a = b := by simp only [Act.put, List.setIfInBounds_toArray, List.set_cons_zero, List.set_cons_succ, i64_w, i32_w]; rfl) : a = b := h
theorem zE12 {p : Prop} (h : p := by first | rfl | (simp [errW_none, errW_some] <;> rfl) | (simp [*, errW_none, errW_some] <;> rfl)) : p := h
theorem zB12_0 {p : Prop} (h : p := by repeat (first | (with_reducible first | exact HB.out | apply below_alloc | apply pw_below_drewN | apply below_drew1) | exact HB.out)) : p := h
theorem zB12_1 {p : Prop} (h : p := by repeat (first | (with_reducible first | exact HB.out | apply below_alloc | apply pw_below_drewN | apply below_drew1 | refine below_set ?_ GE505.out) | exact HB.out)) : p := h
theorem zB12_2 {p : Prop} (h : p := by repeat (first | (with_reducible first | exact HB.out | apply below_alloc | apply pw_below_drewN | apply below_drew1 | refine below_set ?_ GE505.out | refine below_set ?_ GE512.out) | exact HB.out)) : p := h

/-! ### impl_HartOf: function 40 -/
def impl_HartOf.f (k : Nat) (l0 : List Int) : Option (List Int × Int × Int × Bool) := if (l0.length : Int) = 10 then (if 8 ≤ (l0.length : Int) then ((impl_wordsIn.f k (l0.take 8)).bind fun t507 => (if 8 < (l0.length : Int) then (if 9 < (l0.length : Int) then ((impl_HartOk.f k t507 (wrap64 (rd l0 8)) (wrap64 (rd l0 9))).bind fun t513 => (if t513 = true then (some (t507, wrap64 (rd l0 8), wrap64 (rd l0 9), true)) else (some (([] : List Int), 0, 0, false)))) else (none)) else (none))) else (none)) else (some (([] : List Int), 0, 0, false))
theorem impl_HartOf.mono : ∀ a0 k, LeO (impl_HartOf.f k a0) (impl_HartOf.f (k + 1) a0) := by
 intro a0 k
 unfold impl_HartOf.f
 repeat' first
   | (with_reducible exact impl_HartOk.mono _ _ _ _)
   | (with_reducible exact impl_wordsIn.mono _ _)
   | (with_reducible exact LeO.refl _)
   | (with_reducible exact LeO.none _)
   | (with_reducible refine LeO.ite ?_ ?_)
   | (with_reducible refine LeO.bind ?_ (fun _ => ?_))
   | exact impl_HartOk.mono _ _ _ _
   | exact impl_wordsIn.mono _ _
   | exact LeO.none _
   | refine LeO.ite ?_ ?_
   | refine LeO.bind ?_ (fun _ => ?_)
def impl_HartOf.T3 : Bool × List (List Nat × List Nat) := (true, [([], []), ([0], [0]), ([1], [1]), ([], []), ([3], [3]), ([4], [4]), ([5], [5]), ([], []), ([7], [7]), ([8], [8]), ([9], [9]), ([2, 6, 10], [2, 6, 10]), ([], []), ([12, 11, 2, 0, 1, 2, 3, 4, 5, 6, 7, 8, 9, 10, 11, 12], [11, 12])])
def impl_HartOf.B3 : List Nat := [0, 1, 3, 0, 8, 24, 56, 0, 128, 384, 896, 2047, 0, 8191]
theorem impl_HartOf.tab3 : rtab .any (opsOf Try.f40 3) = impl_HartOf.T3 := by kernel_rfl
theorem impl_HartOf.bits3 : waitsOk impl_HartOf.T3.2 impl_HartOf.B3 = true := by kernel_rfl
set_option maxHeartbeats 8000000 in
set_option maxRecDepth 100000 in
theorem impl_HartOf.calls (k : Nat) (A0 : Option Addr) (c0 : Nat) (l0 : List Int) (r1 : List Int) (r2 : Int) (r3 : Int) (r4 : Bool) (w : World) (hr0 : Kd.C (Kd.int .u8) w A0 l0.length l0) (hc0 : l0.length ≤ c0) (h : impl_HartOf.f k l0 = some (r1, r2, r3, r4)) :
  Calls Try.prog 40 #[.slice A0 l0.length c0] w fun e w' => ∃ v0_ : Value, e = .returned (.tuple #[.agg #[v0_, .int .i64 r2, .int .i64 r3], .bool r4]) ∧ Kd.R (Kd.int .i64) 3 w' w.heap.size (fun _ => True) v0_ r1 ∧ Below w.heap.size w w' := by
 have hu47 := Try.underlying47
 have HR0 := Aside0.mk hr0
 have HC0 := Aside0.mk hc0
 clear hr0 hc0
 have HB := Aside0.mk (Below.refl w.heap.size w)
 have H : (if (l0.length : Int) = 10 then (if 8 ≤ (l0.length : Int) then ((impl_wordsIn.f k (l0.take 8)).bind fun t507 => (if 8 < (l0.length : Int) then (if 9 < (l0.length : Int) then ((impl_HartOk.f k t507 (wrap64 (rd l0 8)) (wrap64 (rd l0 9))).bind fun t513 => (if t513 = true then (some (t507, wrap64 (rd l0 8), wrap64 (rd l0 9), true)) else (some (([] : List Int), 0, 0, false)))) else (none)) else (none))) else (none)) else (some (([] : List Int), 0, 0, false))) = some (r1, r2, r3, r4) := h
 clear h
 by_cases c2 : (l0.length : Int) = 10
 rotate_left
 ·rw [if_neg c2] at H
  have c2b0 : ((l0.length : Int) == 10) = false := beq_eq_false_iff_ne.mpr c2
  have c2b1 : ((l0.length : Int) != 10) = true := bne_iff_ne.mpr c2
  simp only [Option.some.injEq, Prod.mk.injEq] at H
  obtain ⟨rfl, rfl, rfl, rfl⟩ := H
  go_enter Try.func40, Try.ntmps40
  go_wp2_with (first | ((with_reducible refine gate_dst (N := 2) rfl ?_); refine box_event ?hg (N := 2) ?hd (cs := #[.slice none 0 0, .int .i64 0, .int .i64 0]) (t := 47) ?hr ?_; (case hd => rfl); (case hg => rfl); (case hr => first | (go_simp; done) | (go_simp; rfl)); intro gb505 hg w40 hbox hb; have n0_ := Aside0.mk (below_step (zB12_0) hb); have n1_ := Aside0.mk (hbox); have n2_ := Aside0.mk ((by rw [hg]; exact (below_size (zB12_0)) : w.heap.size ≤ gb505)); have n3_ := Aside0.mk ((by rw [hg]; exact (below_size (zB12_0)) : w.heap.size ≤ gb505)); clear HB; have HB := n0_; have BK505 := n1_; have GW505 := n2_; have GE505 := n3_; clear n0_ n1_ n2_ n3_; clear hb hbox hg; obtain ⟨hcz41_0, hcz41_1, hcz41_2, hfz41_0, hfz41_1, hfz41_2⟩ := zc12_3 (w := w40) BK505.out))
  refine bodyPost_ret (results_ct rfl _ _ gb505 47 #[.slice none 0 0, .int .i64 0, .int .i64 0] (0, 0) _ rfl (by refine zP12 ?_; refine blk_put (cs := #[.slice none 0 0, .int .i64 0, .int .i64 0]) ?_ 2 _ rfl; refine zP12 ?_; refine blk_put (cs := #[.slice none 0 0, .int .i64 0, .int .i64 0]) ?_ 1 _ rfl; refine zP12 ?_; refine blk_put (cs := #[.slice none 0 0, .int .i64 0, .int .i64 0]) ?_ 0 _ rfl; refine zP12 ?_; exact BK505.out) Try.underlying47 rfl (by kernel_rfl)) rfl ?_
  exact ⟨_, zE12, by first | exact Kd.R_nil _ _ _ _ _ | exact Kd.N_nil _ _ _ _ _ | exact Kd.V_nil _ _ _ _ _ | exact Kd.Q_nil _ _ _ _ _ | exact Kd.S_nil _ _ _ _ _, zB12_1⟩
 rw [if_pos c2] at H
 have c2b0 : ((l0.length : Int) == 10) = true := beq_iff_eq.mpr c2
 have c2b1 : ((l0.length : Int) != 10) = false := bne_eq_false_iff_eq.mpr c2
 clear c2
 by_cases c3 : 8 ≤ (l0.length : Int)
 rotate_left
 ·rw [if_neg c3] at H
  exact absurd H (by simp)
 rw [if_pos c3] at H
 have c3b0 := eq_true c3
 have c3b1 : decide (8 ≤ (l0.length : Int)) = true := decide_eq_true c3
 clear c3
 replace H := Option.bind_eq_some_iff.mp H
 obtain ⟨t507, A40, H⟩ := H
 replace H : (if 8 < (l0.length : Int) then (if 9 < (l0.length : Int) then ((impl_HartOk.f k t507 (wrap64 (rd l0 8)) (wrap64 (rd l0 9))).bind fun t513 => (if t513 = true then (some (t507, wrap64 (rd l0 8), wrap64 (rd l0 9), true)) else (some (([] : List Int), 0, 0, false)))) else (none)) else (none)) = some (r1, r2, r3, r4) := H
 have A4 := Aside0.mk A40
 clear A40
 by_cases c5 : 8 < (l0.length : Int)
 rotate_left
 ·rw [if_neg c5] at H
  exact absurd H (by simp)
 rw [if_pos c5] at H
 have c5b0 : decide (8 < (l0.length : Int)) = true := decide_eq_true c5
 have c5b1 : decide (8 < l0.length) = true := decide_eq_true (by omega)
 clear c5
 by_cases c6 : 9 < (l0.length : Int)
 rotate_left
 ·rw [if_neg c6] at H
  exact absurd H (by simp)
 rw [if_pos c6] at H
 have c6b0 : decide (9 < (l0.length : Int)) = true := decide_eq_true c6
 have c6b1 : decide (9 < l0.length) = true := decide_eq_true (by omega)
 clear c6
 replace H := Option.bind_eq_some_iff.mp H
 obtain ⟨t513, A70, H⟩ := H
 replace H : (if t513 = true then (some (t507, wrap64 (rd l0 8), wrap64 (rd l0 9), true)) else (some (([] : List Int), 0, 0, false))) = some (r1, r2, r3, r4) := H
 have A7 := Aside0.mk A70
 clear A70
 by_cases c8 : t513 = true
 rotate_left
 ·replace c8 := Bool.eq_false_iff.mpr c8
  subst c8
  have H1 : (some (([] : List Int), 0, 0, false)) = some (r1, r2, r3, r4) := by rw [if_neg (show ¬ (false = true) by decide)] at H; exact H
  clear H
  have H := H1
  clear H1
  simp only [Option.some.injEq, Prod.mk.injEq] at H
  obtain ⟨rfl, rfl, rfl, rfl⟩ := H
  go_enter Try.func40, Try.ntmps40
  try go_wp2_with (first | ((with_reducible refine gate_dst (N := 2) rfl ?_); refine box_event ?hg (N := 2) ?hd (cs := #[.slice none 0 0, .int .i64 0, .int .i64 0]) (t := 47) ?hr ?_; (case hd => rfl); (case hg => rfl); (case hr => first | (go_simp; done) | (go_simp; rfl)); intro gb505 hg w25 hbox hb; have n0_ := Aside0.mk (below_step (zB12_0) hb); have n1_ := Aside0.mk (hbox); have n2_ := Aside0.mk ((by rw [hg]; exact (below_size (zB12_0)) : w.heap.size ≤ gb505)); have n3_ := Aside0.mk ((by rw [hg]; exact (below_size (zB12_0)) : w.heap.size ≤ gb505)); clear HB; have HB := n0_; have BK505 := n1_; have GW505 := n2_; have GE505 := n3_; clear n0_ n1_ n2_ n3_; clear hb hbox hg))
  have n0_ := Aside0.mk (blk_drew BK505.out)
  have n1_ := Aside0.mk (below_drew1 HB.out)
  clear BK505 HB
  have BK505 := n0_
  have HB := n1_
  clear n0_ n1_
  obtain ⟨i027, hi027, _, hsz27, _⟩ := info_parts info5
  obtain ⟨hcut27, hA27, hC27⟩ := print_take_of (P := Try.prog) (Value.int .u8) 0 22 5 .i64 Try.underlying22 hi027 hsz27 A0 c0 l0 8 (by omega) (zA12) HC0.out
  have HR506 := Aside0.mk (Kd.C_of_reads (h1 := fun _ => rfl) (hA27 _ (Kd.reads_of_C HR0.out)))
  have HC506 := Aside0.mk hC27
  clear hA27 hC27 hi027 hsz27
  have p510 : 0 ≤ (8 : Int) := (by omega)
  have q510 : 8 < (l0.length : Int) := zA12
  obtain ⟨ad510, e510, hx510_0⟩ := Kd.at_int HR0.out 8 p510 q510
  have hw510_0 := hx510_0
  (try rw [show ((8 : Int)).toNat = 8 from rfl] at hw510_0)
  (try rw [show 8 * 1 = 8 from rfl] at hw510_0)
  (try simp only [Nat.reduceMul, Nat.reduceEqDiff, Go.Addr.add, ↓reduceIte] at hw510_0)
  cases e510
  (try simp only [show (8 : Int).toNat = 8 from rfl, Nat.reduceMul, Nat.reduceEqDiff, Go.Addr.add, ↓reduceIte] at hx510_0)
  have qi510 : (8 < l0.length) = True := eq_true (by omega)
  (try rw [show ((8 : Int)).toNat = 8 from rfl] at hx510_0)
  replace hx510_0 := (HB.out.cell (World.block_lt_of_cell? w _ hx510_0)).trans hx510_0
  replace p510 := eq_true p510
  replace q510 := eq_true q510
  have p511 : 0 ≤ (9 : Int) := (by omega)
  have q511 : 9 < (l0.length : Int) := zA12
  obtain ⟨ad511, e511, hx511_0⟩ := Kd.at_int HR0.out 9 p511 q511
  have hw511_0 := hx511_0
  (try rw [show ((9 : Int)).toNat = 9 from rfl] at hw511_0)
  (try rw [show 9 * 1 = 9 from rfl] at hw511_0)
  (try simp only [Nat.reduceMul, Nat.reduceEqDiff, Go.Addr.add, ↓reduceIte] at hw511_0)
  obtain rfl : ad510 = ad511 := (by injection e511)
  (try simp only [show (9 : Int).toNat = 9 from rfl, Nat.reduceMul, Nat.reduceEqDiff, Go.Addr.add, ↓reduceIte] at hx511_0)
  have qi511 : (9 < l0.length) = True := eq_true (by omega)
  (try rw [show ((9 : Int)).toNat = 9 from rfl] at hx511_0)
  replace hx511_0 := (HB.out.cell (World.block_lt_of_cell? w _ hx511_0)).trans hx511_0
  replace p511 := eq_true p511
  replace q511 := eq_true q511
  refine start_ (n := 14) (S := fun w' => w'.cell? ⟨ad510.block, ad510.off + 8, none⟩ = some (.int .u8 (rd l0 8)) ∧ w'.cell? ⟨ad510.block, ad510.off + 9, none⟩ = some (.int .u8 (rd l0 9))) (ds := []) zq12_0 (by kernel_rfl) rfl rfl ⟨((HB.out.cell (World.block_lt_of_cell? w _ hw510_0)).trans hw510_0), ((HB.out.cell (World.block_lt_of_cell? w _ hw511_0)).trans hw511_0)⟩ (fun hHeld => ?_); refine with_tabW impl_HartOf.tab3 impl_HartOf.bits3 (fun HT_ HW_ => ?_)
  generalize w25.drew = w26 at BK505 HB HR506 hx510_0 hx511_0 hHeld ⊢
  refine pure_ (i := 0) (N := some 9) (v := ?_) (a' := ?_) zq12_1 rfl rfl (any_of HT_.out (by kernel_rfl)) (fun _ _ _ h => h) (Or.inl ⟨by rfl, ?_⟩) ?_ ?_
  rotate_left
  ·intro w'
   go_simp
   with_reducible rfl
  rotate_left
  ·exact zV12
  refine pure_ (i := 1) (N := some 10) (v := ?_) (a' := ?_) zq12_2 rfl rfl (any_of HT_.out (by kernel_rfl)) (fun _ _ _ h => h) (Or.inl ⟨by rfl, ?_⟩) ?_ ?_
  rotate_left
  ·intro w'
   go_simp
   with_reducible rfl
  rotate_left
  ·exact zV12
  refine pure_ (i := 3) (N := some 12) (v := ?_) (a' := ?_) zq12_3 rfl rfl (any_of HT_.out (by kernel_rfl)) (fun _ _ _ h => h) (Or.inl ⟨by rfl, ?_⟩) ?_ ?_
  rotate_left
  ·intro w'
   go_simp
   with_reducible rfl
  rotate_left
  ·exact zV12
  refine pure_ (i := 4) (N := some 13) (v := ?_) (a' := ?_) zq12_4 rfl rfl (any_of HT_.out (by kernel_rfl)) (fun _ _ _ h => h) (Or.inl ⟨by rfl, ?_⟩) ?_ ?_
  rotate_left
  ·intro w'
   go_simp
   with_reducible rfl
  rotate_left
  ·exact zV12
  refine pure_ (i := 7) (N := some 16) (v := ?_) (a' := ?_) zq12_5 rfl rfl (any_of HT_.out (by kernel_rfl)) (fun _ _ _ h => h) (Or.inl ⟨by rfl, ?_⟩) ?_ ?_
  rotate_left
  ·intro w'
   go_simp
   with_reducible rfl
  rotate_left
  ·exact zV12
  refine pure_ (i := 8) (N := some 17) (v := ?_) (a' := ?_) zq12_6 rfl rfl (any_of HT_.out (by kernel_rfl)) (fun _ _ _ h => h) (Or.inl ⟨by rfl, ?_⟩) ?_ ?_
  rotate_left
  ·intro w'
   go_simp
   with_reducible rfl
  rotate_left
  ·exact zV12
  refine take_ (i := 5) (N := some 14) (v := ?_) (a' := ?_) zq12_7 rfl rfl (take_ofW HT_.out HW_.out (by kernel_rfl)) (fun _ _ _ h => h) (Or.inl ⟨by rfl, ?_⟩) hHeld ?_ ?_
  rotate_left
  ·rintro w' ⟨s0, s1⟩
   go_simp
   with_reducible rfl
  rotate_left
  ·exact zV12
  refine pure_ (i := 6) (N := some 15) (v := ?_) (a' := ?_) zq12_8 rfl rfl (any_of HT_.out (by kernel_rfl)) (fun _ _ _ h => h) (Or.inl ⟨by rfl, ?_⟩) ?_ ?_
  rotate_left
  ·intro w'
   go_simp
   with_reducible rfl
  rotate_left
  ·exact zV12
  refine take_ (i := 9) (N := some 18) (v := ?_) (a' := ?_) zq12_9 rfl rfl (take_ofW HT_.out HW_.out (by kernel_rfl)) (fun _ _ _ h => h) (Or.inl ⟨by rfl, ?_⟩) hHeld ?_ ?_
  rotate_left
  ·rintro w' ⟨s0, s1⟩
   go_simp
   with_reducible rfl
  rotate_left
  ·exact zV12
  refine pure_ (i := 10) (N := some 19) (v := ?_) (a' := ?_) zq12_10 rfl rfl (any_of HT_.out (by kernel_rfl)) (fun _ _ _ h => h) (Or.inl ⟨by rfl, ?_⟩) ?_ ?_
  rotate_left
  ·intro w'
   go_simp
   with_reducible rfl
  rotate_left
  ·exact zV12
  refine join_ (σ := Value × Nat) 1 zq12_11 (fun s_ => [(11, s_.1), (4, .pointer (some ⟨s_.2, 0, none⟩)), (20, .agg #[s_.1, .int .i64 (wrap64 (rd l0 8)), .int .i64 (wrap64 (rd l0 9))])]) (fun s_ w' => (w'.cell? ⟨ad510.block, ad510.off + 8, none⟩ = some (.int .u8 (rd l0 8)) ∧ w'.cell? ⟨ad510.block, ad510.off + 9, none⟩ = some (.int .u8 (rd l0 9))) ∧ (Kd.R (Kd.int .i64) 3 w' w.heap.size (fun _ => True) s_.1 t507) ∧ (w'.heap[gb505]? = some (.cells #[.slice none 0 0, .int .i64 0, .int .i64 0] 47 (0, 0))) ∧ (w'.heap[s_.2]? = some (.cells #[.slice none 0 0, .int .i64 0, .int .i64 0] 47 (0, 0))) ∧ (w.heap.size ≤ s_.2) ∧ (w.heap.size ≤ s_.2) ∧ (gb505 ≠ s_.2) ∧ (s_.2 ≠ gb505) ∧ (Below w.heap.size w w')) ?_ ?_
  rotate_left
  ·intro hCont
   refine two_ (i := 2) (j := 12) (Ni := some 11) (Nj := some 4) zq12_12 zq12_13 rfl rfl rfl rfl (two_of HT_.out (by kernel_rfl)) (by decide) (by decide) (fun K hK => ?_) (fun K hK => ?_)
   ·skip
    refine goes_ Try.func83 (by kernel_rfl) rfl #[.slice (some ad510) (l0.take 8).length c0] (by rfl) rfl rfl (by (try simp only [List.map_toArray, List.map_cons, List.map_nil]); first | done | (rw [show (l0.take 8).length = 8 from (by rw [List.length_take]; have h_ : (8 : Int) ≤ (l0.length : Int) := zA12; omega)] <;> rfl) | rfl | (simp only [List.length_drop, List.length_take]; rfl)) ?_
    with_reducible refine (impl_wordsIn.calls k _ _ (l0.take 8) t507 _ ?side1 ?side2 A4.out).mono ?_
    (case side1 => exact zC12 (Kd.C_below HR506.out HB.out))
    (case side2 => exact HC506.out)
    rintro e w28 ⟨v508, rfl, ho0, hb⟩
    refine ⟨_, rfl, ?_⟩
    have n0_ := Aside0.mk (Kd.R_lower ho0 (below_size (zB12_1)))
    have n1_ := Aside0.mk (zb12 BK505.out hb)
    have n2_ := Aside0.mk (below_step (zB12_1) hb)
    clear BK505 HB
    have HO509 := n0_
    have BK505 := n1_
    have HB := n2_
    clear n0_ n1_ n2_
    (try clear hb)
    (try clear hb2)
    (try clear hk)
    (try clear hi)
    (try clear ho0)
    obtain ⟨Ao29, co29, eo29⟩ := Kd.R_slice HO509.out
    (first | subst eo29 | (injection eo29 with f1_ f2_ f3_; have f4_ := f1_.symm; have f5_ := f3_.symm; clear f1_ f2_ f3_; subst f4_; subst f5_))
    refine hK.out _ _ ⟨((HB.out.cell (World.block_lt_of_cell? w _ hw510_0)).trans hw510_0), ((HB.out.cell (World.block_lt_of_cell? w _ hw511_0)).trans hw511_0)⟩ (fun hHeld => ?_)
    clear hK K
    refine norm_ (a' := ?_) ?_ ?_
    rotate_left
    ·show Act.put _ (some 11) _ = _
     simp only [Act.put, List.setIfInBounds_toArray, List.set_cons_zero, List.set_cons_succ, i64_w, i32_w]
     rfl
    refine pure_ (i := 11) (N := some 20) (v := ?_) (a' := ?_) zq12_14 rfl rfl (any_of HT_.out (by kernel_rfl)) (fun _ _ _ h => h) (Or.inl ⟨by rfl, ?_⟩) ?_ ?_
    rotate_left
    ·intro w'
     go_simp
     with_reducible rfl
    rotate_left
    ·exact zV12
    refine one_ (i := 12) (N := some 4) zq12_11 rfl rfl (one_of HT_.out (by kernel_rfl)) (by decide) (fun K hK => ?_)
    refine box_step ?hg (N := 4) ?hd (cs := #[.slice none 0 0, .int .i64 0, .int .i64 0]) (t := 47) ?hr ?_; (case hd => rfl); (case hg => rfl); (case hr => first | (go_simp; done) | (go_simp; rfl))
    intro gb512 hg w30 hbox hb
    have n0_ := Aside0.mk (Kd.R_below (zR12 HO509.out) hb)
    have n1_ := Aside0.mk (zb12 BK505.out hb)
    have n2_ := Aside0.mk (below_step (zB12_1) hb)
    have n3_ := Aside0.mk (hbox)
    have n4_ := Aside0.mk ((by rw [hg]; exact (below_size (zB12_1)) : w.heap.size ≤ gb512))
    have n5_ := Aside0.mk ((by rw [hg]; exact (below_size (zB12_1)) : w.heap.size ≤ gb512))
    have n6_ := Aside0.mk ((zn12 BK505.out hg : gb505 ≠ gb512))
    have n7_ := Aside0.mk ((zm12 BK505.out hg : gb512 ≠ gb505))
    clear HO509 BK505 HB
    have HO509 := n0_
    have BK505 := n1_
    have HB := n2_
    have BK512 := n3_
    have GW512 := n4_
    have GE512 := n5_
    have NB505_512 := n6_
    have NB512_505 := n7_
    clear n0_ n1_ n2_ n3_ n4_ n5_ n6_ n7_ hb hbox hg
    refine hK.out _ _ ⟨((HB.out.cell (World.block_lt_of_cell? w _ hw510_0)).trans hw510_0), ((HB.out.cell (World.block_lt_of_cell? w _ hw511_0)).trans hw511_0)⟩ (fun hHeld => ?_)
    clear hK K
    refine norm_ (a' := ?_) ?_ ?_
    rotate_left
    ·show Act.put _ (some 4) _ = _
     simp only [Act.put, List.setIfInBounds_toArray, List.set_cons_zero, List.set_cons_succ, i64_w, i32_w]
     rfl
    exact norm_ (by simp only [putAll, Act.put, List.setIfInBounds_toArray, List.set_cons_zero, List.set_cons_succ]) (hCont (.slice Ao29 t507.length co29, gb512) _ ⟨hHeld, (zR12 HO509.out), (zK12 BK505.out), (zK12 BK512.out), GW512.out, GE512.out, NB505_512.out, NB512_505.out, (zB12_2)⟩)
   ·skip
    refine box_step ?hg (N := 4) ?hd (cs := #[.slice none 0 0, .int .i64 0, .int .i64 0]) (t := 47) ?hr ?_; (case hd => rfl); (case hg => rfl); (case hr => first | (go_simp; done) | (go_simp; rfl))
    intro gb512 hg w28 hbox hb
    have n0_ := Aside0.mk (zb12 BK505.out hb)
    have n1_ := Aside0.mk (below_step (zB12_1) hb)
    have n2_ := Aside0.mk (hbox)
    have n3_ := Aside0.mk ((by rw [hg]; exact (below_size (zB12_1)) : w.heap.size ≤ gb512))
    have n4_ := Aside0.mk ((by rw [hg]; exact (below_size (zB12_1)) : w.heap.size ≤ gb512))
    have n5_ := Aside0.mk ((zn12 BK505.out hg : gb505 ≠ gb512))
    have n6_ := Aside0.mk ((zm12 BK505.out hg : gb512 ≠ gb505))
    clear BK505 HB
    have BK505 := n0_
    have HB := n1_
    have BK512 := n2_
    have GW512 := n3_
    have GE512 := n4_
    have NB505_512 := n5_
    have NB512_505 := n6_
    clear n0_ n1_ n2_ n3_ n4_ n5_ n6_ hb hbox hg
    refine hK.out _ _ ⟨((HB.out.cell (World.block_lt_of_cell? w _ hw510_0)).trans hw510_0), ((HB.out.cell (World.block_lt_of_cell? w _ hw511_0)).trans hw511_0)⟩ (fun hHeld => ?_)
    clear hK K
    refine norm_ (a' := ?_) ?_ ?_
    rotate_left
    ·show Act.put _ (some 4) _ = _
     simp only [Act.put, List.setIfInBounds_toArray, List.set_cons_zero, List.set_cons_succ, i64_w, i32_w]
     rfl
    refine one_ (i := 2) (N := some 11) zq12_15 rfl rfl (one_of HT_.out (by kernel_rfl)) (by decide) (fun K hK => ?_)
    refine goes_ Try.func83 (by kernel_rfl) rfl #[.slice (some ad510) (l0.take 8).length c0] (by rfl) rfl rfl (by (try simp only [List.map_toArray, List.map_cons, List.map_nil]); first | done | (rw [show (l0.take 8).length = 8 from (by rw [List.length_take]; have h_ : (8 : Int) ≤ (l0.length : Int) := zA12; omega)] <;> rfl) | rfl | (simp only [List.length_drop, List.length_take]; rfl)) ?_
    with_reducible refine (impl_wordsIn.calls k _ _ (l0.take 8) t507 _ ?side1 ?side2 A4.out).mono ?_
    (case side1 => exact zC12 (Kd.C_below HR506.out HB.out))
    (case side2 => exact HC506.out)
    rintro e w29 ⟨v508, rfl, ho0, hb⟩
    refine ⟨_, rfl, ?_⟩
    have n0_ := Aside0.mk (Kd.R_lower ho0 (below_size (zB12_2)))
    have n1_ := Aside0.mk (zb12 BK505.out hb)
    have n2_ := Aside0.mk (zb12 BK512.out hb)
    have n3_ := Aside0.mk (below_step (zB12_2) hb)
    clear BK505 BK512 HB
    have HO509 := n0_
    have BK505 := n1_
    have BK512 := n2_
    have HB := n3_
    clear n0_ n1_ n2_ n3_
    (try clear hb)
    (try clear hb2)
    (try clear hk)
    (try clear hi)
    (try clear ho0)
    obtain ⟨Ao30, co30, eo30⟩ := Kd.R_slice HO509.out
    (first | subst eo30 | (injection eo30 with f1_ f2_ f3_; have f4_ := f1_.symm; have f5_ := f3_.symm; clear f1_ f2_ f3_; subst f4_; subst f5_))
    refine hK.out _ _ ⟨((HB.out.cell (World.block_lt_of_cell? w _ hw510_0)).trans hw510_0), ((HB.out.cell (World.block_lt_of_cell? w _ hw511_0)).trans hw511_0)⟩ (fun hHeld => ?_)
    clear hK K
    refine norm_ (a' := ?_) ?_ ?_
    rotate_left
    ·show Act.put _ (some 11) _ = _
     simp only [Act.put, List.setIfInBounds_toArray, List.set_cons_zero, List.set_cons_succ, i64_w, i32_w]
     rfl
    refine pure_ (i := 11) (N := some 20) (v := ?_) (a' := ?_) zq12_11 rfl rfl (any_of HT_.out (by kernel_rfl)) (fun _ _ _ h => h) (Or.inl ⟨by rfl, ?_⟩) ?_ ?_
    rotate_left
    ·intro w'
     go_simp
     with_reducible rfl
    rotate_left
    ·exact zV12
    exact norm_ (by simp only [putAll, Act.put, List.setIfInBounds_toArray, List.set_cons_zero, List.set_cons_succ]) (hCont (.slice Ao30 t507.length co30, gb512) _ ⟨hHeld, (zR12 HO509.out), (zK12 BK505.out), (zK12 BK512.out), GW512.out, GE512.out, NB505_512.out, NB512_505.out, (zB12_2)⟩)
  rintro ⟨v508, gb512⟩ w31 ⟨hS_, h0_, h1_, h2_, h3_, h4_, h5_, h6_, h7_⟩
  have n0_ : Aside0 (Kd.R (Kd.int .i64) 3 w31 w.heap.size (fun _ => True) v508 t507) := ⟨h0_⟩
  have n1_ : Aside0 (w31.heap[gb505]? = some (.cells #[.slice none 0 0, .int .i64 0, .int .i64 0] 47 (0, 0))) := ⟨h1_⟩
  have n2_ : Aside0 (w31.heap[gb512]? = some (.cells #[.slice none 0 0, .int .i64 0, .int .i64 0] 47 (0, 0))) := ⟨h2_⟩
  have n3_ : Aside0 (w.heap.size ≤ gb512) := ⟨h3_⟩
  have n4_ : Aside0 (w.heap.size ≤ gb512) := ⟨h4_⟩
  have n5_ : Aside0 (gb505 ≠ gb512) := ⟨h5_⟩
  have n6_ : Aside0 (gb512 ≠ gb505) := ⟨h6_⟩
  have n7_ : Aside0 (Below w.heap.size w w31) := ⟨h7_⟩
  clear BK505 HB h0_ h1_ h2_ h3_ h4_ h5_ h6_ h7_
  have HO509 := n0_
  have BK505 := n1_
  have BK512 := n2_
  have GW512 := n3_
  have GE512 := n4_
  have NB505_512 := n5_
  have NB512_505 := n6_
  have HB := n7_
  clear n0_ n1_ n2_ n3_ n4_ n5_ n6_ n7_
  have hHeld : w31.cell? ⟨ad510.block, ad510.off + 8, none⟩ = some (.int .u8 (rd l0 8)) ∧ w31.cell? ⟨ad510.block, ad510.off + 9, none⟩ = some (.int .u8 (rd l0 9)) := hS_
  obtain ⟨Ao32, co32, eo32⟩ := Kd.R_slice HO509.out
  (first | subst eo32 | (injection eo32 with f1_ f2_ f3_; have f4_ := f1_.symm; have f5_ := f3_.symm; clear f1_ f2_ f3_; subst f4_; subst f5_))
  refine norm_ (a' := ?_) ?_ ?_
  rotate_left
  ·simp only [putAll, Act.put, List.setIfInBounds_toArray, List.set_cons_zero, List.set_cons_succ]
   rfl
  refine one_ (i := 13) (N := none) zq12_16 rfl rfl (one_of HT_.out (by kernel_rfl)) (by decide) (fun K hK => ?_)
  have hs33 : w31.cell? ⟨gb512, 0, none⟩ = some (.slice none 0 0) := (blk_cell BK512.out 0).trans rfl
  have hfs33 := blk_frozen BK512.out 0
  have hns33_0 := NB505_512.out
  have hms33_0 := NB512_505.out
  have hs34 : w31.cell? ⟨gb512, 1, none⟩ = some (.int .i64 0) := (blk_cell BK512.out 1).trans rfl
  have hfs34 := blk_frozen BK512.out 1
  have hns34_0 := NB505_512.out
  have hms34_0 := NB512_505.out
  have hs35 : w31.cell? ⟨gb512, 2, none⟩ = some (.int .i64 0) := (blk_cell BK512.out 2).trans rfl
  have hfs35 := blk_frozen BK512.out 2
  have hns35_0 := NB505_512.out
  have hms35_0 := NB512_505.out
  refine skip_ (w1 := ?_) (by rfl) rfl ?_ ?_
  rotate_left
  ·go_simp
   rfl
  refine hK.out _ _ ⟨((cell_far (p := ⟨gb512, _, none⟩) (by first | exact Nat.ne_of_lt (Nat.lt_of_lt_of_le (by have := World.block_lt_of_cell? _ _ hw510_0; first | rwa [add_block] at this | exact this) GW512.out) | (rw [add_block]; exact Nat.ne_of_lt (Nat.lt_of_lt_of_le (by have := World.block_lt_of_cell? _ _ hw510_0; first | rwa [add_block] at this | exact this) GW512.out)) | (show (Addr.add _ _).block ≠ _; rw [add_block]; exact Nat.ne_of_lt (Nat.lt_of_lt_of_le (by have := World.block_lt_of_cell? _ _ hw510_0; first | rwa [add_block] at this | exact this) GW512.out)) | (dsimp only; exact Nat.ne_of_lt (Nat.lt_of_lt_of_le (by have := World.block_lt_of_cell? _ _ hw510_0; first | rwa [add_block] at this | exact this) GW512.out))) _).trans (((cell_far (p := ⟨gb512, _, none⟩) (by first | exact Nat.ne_of_lt (Nat.lt_of_lt_of_le (by have := World.block_lt_of_cell? _ _ hw510_0; first | rwa [add_block] at this | exact this) GW512.out) | (rw [add_block]; exact Nat.ne_of_lt (Nat.lt_of_lt_of_le (by have := World.block_lt_of_cell? _ _ hw510_0; first | rwa [add_block] at this | exact this) GW512.out)) | (show (Addr.add _ _).block ≠ _; rw [add_block]; exact Nat.ne_of_lt (Nat.lt_of_lt_of_le (by have := World.block_lt_of_cell? _ _ hw510_0; first | rwa [add_block] at this | exact this) GW512.out)) | (dsimp only; exact Nat.ne_of_lt (Nat.lt_of_lt_of_le (by have := World.block_lt_of_cell? _ _ hw510_0; first | rwa [add_block] at this | exact this) GW512.out))) _).trans (((cell_far (p := ⟨gb512, _, none⟩) (by first | exact Nat.ne_of_lt (Nat.lt_of_lt_of_le (by have := World.block_lt_of_cell? _ _ hw510_0; first | rwa [add_block] at this | exact this) GW512.out) | (rw [add_block]; exact Nat.ne_of_lt (Nat.lt_of_lt_of_le (by have := World.block_lt_of_cell? _ _ hw510_0; first | rwa [add_block] at this | exact this) GW512.out)) | (show (Addr.add _ _).block ≠ _; rw [add_block]; exact Nat.ne_of_lt (Nat.lt_of_lt_of_le (by have := World.block_lt_of_cell? _ _ hw510_0; first | rwa [add_block] at this | exact this) GW512.out)) | (dsimp only; exact Nat.ne_of_lt (Nat.lt_of_lt_of_le (by have := World.block_lt_of_cell? _ _ hw510_0; first | rwa [add_block] at this | exact this) GW512.out))) _).trans (hHeld.1)))))), ((cell_far (p := ⟨gb512, _, none⟩) (by first | exact Nat.ne_of_lt (Nat.lt_of_lt_of_le (by have := World.block_lt_of_cell? _ _ hw511_0; first | rwa [add_block] at this | exact this) GW512.out) | (rw [add_block]; exact Nat.ne_of_lt (Nat.lt_of_lt_of_le (by have := World.block_lt_of_cell? _ _ hw511_0; first | rwa [add_block] at this | exact this) GW512.out)) | (show (Addr.add _ _).block ≠ _; rw [add_block]; exact Nat.ne_of_lt (Nat.lt_of_lt_of_le (by have := World.block_lt_of_cell? _ _ hw511_0; first | rwa [add_block] at this | exact this) GW512.out)) | (dsimp only; exact Nat.ne_of_lt (Nat.lt_of_lt_of_le (by have := World.block_lt_of_cell? _ _ hw511_0; first | rwa [add_block] at this | exact this) GW512.out))) _).trans (((cell_far (p := ⟨gb512, _, none⟩) (by first | exact Nat.ne_of_lt (Nat.lt_of_lt_of_le (by have := World.block_lt_of_cell? _ _ hw511_0; first | rwa [add_block] at this | exact this) GW512.out) | (rw [add_block]; exact Nat.ne_of_lt (Nat.lt_of_lt_of_le (by have := World.block_lt_of_cell? _ _ hw511_0; first | rwa [add_block] at this | exact this) GW512.out)) | (show (Addr.add _ _).block ≠ _; rw [add_block]; exact Nat.ne_of_lt (Nat.lt_of_lt_of_le (by have := World.block_lt_of_cell? _ _ hw511_0; first | rwa [add_block] at this | exact this) GW512.out)) | (dsimp only; exact Nat.ne_of_lt (Nat.lt_of_lt_of_le (by have := World.block_lt_of_cell? _ _ hw511_0; first | rwa [add_block] at this | exact this) GW512.out))) _).trans (((cell_far (p := ⟨gb512, _, none⟩) (by first | exact Nat.ne_of_lt (Nat.lt_of_lt_of_le (by have := World.block_lt_of_cell? _ _ hw511_0; first | rwa [add_block] at this | exact this) GW512.out) | (rw [add_block]; exact Nat.ne_of_lt (Nat.lt_of_lt_of_le (by have := World.block_lt_of_cell? _ _ hw511_0; first | rwa [add_block] at this | exact this) GW512.out)) | (show (Addr.add _ _).block ≠ _; rw [add_block]; exact Nat.ne_of_lt (Nat.lt_of_lt_of_le (by have := World.block_lt_of_cell? _ _ hw511_0; first | rwa [add_block] at this | exact this) GW512.out)) | (dsimp only; exact Nat.ne_of_lt (Nat.lt_of_lt_of_le (by have := World.block_lt_of_cell? _ _ hw511_0; first | rwa [add_block] at this | exact this) GW512.out))) _).trans (hHeld.2))))))⟩ (fun hHeld => ?_)
  clear hK K
  refine done_ (done_of HT_.out (by kernel_rfl)) ?_
  have hnb36 := NB512_505.out
  have hnc36 := NB505_512.out
  obtain ⟨hcz37_0, hcz37_1, hcz37_2, hfz37_0, hfz37_1, hfz37_2⟩ := zc12_3 (w := w31) BK512.out
  try go_wp2_with (first | ((with_reducible refine gate_callee (f := 74) rfl ?_); refine goesL_ (some 22) rfl rfl Try.func74 (by kernel_rfl) rfl #[.agg #[.slice Ao32 t507.length co32, .int .i64 (wrap64 (rd l0 8)), .int .i64 (wrap64 (rd l0 9))]] rfl zT12 ?_; (with_reducible refine (impl_HartOk.calls k _ _ t507 (wrap64 (rd l0 8)) (wrap64 (rd l0 9)) false _ ?side1 ?side2 A7.out).mono ?_); (case side1 => refine (Kd.R_reads' (e := 3) (base := w.heap.size) (ok := fun k_ => True) (n := t507.length) (c := co32) ?_).2.2; exact (by (with_reducible repeat (first | apply Kd.R_alloc | apply Kd.R_drewN | apply Kd.R_drew)); exact (Kd.R_mono (Kd.R_far (p := ⟨gb512, 2, none⟩) (Kd.R_far (p := ⟨gb512, 1, none⟩) (Kd.R_far (p := ⟨gb512, 0, none⟩) (Kd.R_types HO509.out BK512.out (by decide)) (fun _ hk => hk.2) (.slice Ao32 t507.length co32)) (fun _ hk => hk.2) (.int .i64 (wrap64 (rd l0 8)))) (fun _ hk => hk.2) (.int .i64 (wrap64 (rd l0 9)))) (fun _ h_ => h_.1)))); (case side2 => exact (Kd.R_reads' HO509.out).2.1); rintro e w38 ⟨rfl, hb⟩; refine ⟨_, rfl, ?_⟩; have n0_ := Aside0.mk (Kd.R_below (by (with_reducible repeat (first | apply Kd.R_alloc | apply Kd.R_drewN | apply Kd.R_drew)); exact (Kd.R_mono (Kd.R_far (p := ⟨gb512, 2, none⟩) (Kd.R_far (p := ⟨gb512, 1, none⟩) (Kd.R_far (p := ⟨gb512, 0, none⟩) (Kd.R_types HO509.out BK512.out (by decide)) (fun _ hk => hk.2) (.slice Ao32 t507.length co32)) (fun _ hk => hk.2) (.int .i64 (wrap64 (rd l0 8)))) (fun _ hk => hk.2) (.int .i64 (wrap64 (rd l0 9)))) (fun _ h_ => h_.1))) hb); have n1_ := Aside0.mk (blk_below (g := gb505) (o := .cells #[.slice none 0 0, .int .i64 0, .int .i64 0] 47 (0, 0)) (by refine zP12 ?_; refine blk_far ?_ NB505_512.out _; refine zP12 ?_; refine blk_far ?_ NB505_512.out _; refine zP12 ?_; refine blk_far ?_ NB505_512.out _; refine zP12 ?_; exact BK505.out) hb); have n2_ := Aside0.mk (blk_below (g := gb512) (o := .cells #[.slice Ao32 t507.length co32, .int .i64 (wrap64 (rd l0 8)), .int .i64 (wrap64 (rd l0 9))] 47 (0, 0)) (by refine zP12 ?_; refine blk_put (cs := #[.slice Ao32 t507.length co32, .int .i64 (wrap64 (rd l0 8)), .int .i64 0]) ?_ 2 _ rfl; refine zP12 ?_; refine blk_put (cs := #[.slice Ao32 t507.length co32, .int .i64 0, .int .i64 0]) ?_ 1 _ rfl; refine zP12 ?_; refine blk_put (cs := #[.slice none 0 0, .int .i64 0, .int .i64 0]) ?_ 0 _ rfl; refine zP12 ?_; exact BK512.out) hb); have n3_ := Aside0.mk (below_step (zB12_2) hb); clear HO509; clear BK505; clear BK512; clear HB; have HO509 := n0_; have BK505 := n1_; have BK512 := n2_; have HB := n3_; clear n0_ n1_ n2_ n3_; (try clear hb); (try clear hb2); (try clear hk); (try clear hi); obtain ⟨hcz39_0, hcz39_1, hcz39_2, hfz39_0, hfz39_1, hfz39_2⟩ := zc12_3 (w := w38) BK505.out))
  refine bodyPost_ret (results_ct rfl _ _ gb505 47 #[.slice none 0 0, .int .i64 0, .int .i64 0] (0, 0) _ rfl (by refine zP12 ?_; refine blk_put (cs := #[.slice none 0 0, .int .i64 0, .int .i64 0]) ?_ 2 _ rfl; refine zP12 ?_; refine blk_put (cs := #[.slice none 0 0, .int .i64 0, .int .i64 0]) ?_ 1 _ rfl; refine zP12 ?_; refine blk_put (cs := #[.slice none 0 0, .int .i64 0, .int .i64 0]) ?_ 0 _ rfl; refine zP12 ?_; exact BK505.out) Try.underlying47 rfl (by kernel_rfl)) rfl ?_
  exact ⟨_, zE12, by first | exact Kd.R_nil _ _ _ _ _ | exact Kd.N_nil _ _ _ _ _ | exact Kd.V_nil _ _ _ _ _ | exact Kd.Q_nil _ _ _ _ _ | exact Kd.S_nil _ _ _ _ _, zB12_2⟩
 subst c8
 have H1 : (some (t507, wrap64 (rd l0 8), wrap64 (rd l0 9), true)) = some (r1, r2, r3, r4) := by rw [if_pos rfl] at H; exact H
 clear H
 have H := H1
 clear H1
 simp only [Option.some.injEq, Prod.mk.injEq] at H
 obtain ⟨rfl, rfl, rfl, rfl⟩ := H
 go_enter Try.func40, Try.ntmps40
 try go_wp2_with (first | ((with_reducible refine gate_dst (N := 2) rfl ?_); refine box_event ?hg (N := 2) ?hd (cs := #[.slice none 0 0, .int .i64 0, .int .i64 0]) (t := 47) ?hr ?_; (case hd => rfl); (case hg => rfl); (case hr => first | (go_simp; done) | (go_simp; rfl)); intro gb505 hg w9 hbox hb; have n0_ := Aside0.mk (below_step (zB12_0) hb); have n1_ := Aside0.mk (hbox); have n2_ := Aside0.mk ((by rw [hg]; exact (below_size (zB12_0)) : w.heap.size ≤ gb505)); have n3_ := Aside0.mk ((by rw [hg]; exact (below_size (zB12_0)) : w.heap.size ≤ gb505)); clear HB; have HB := n0_; have BK505 := n1_; have GW505 := n2_; have GE505 := n3_; clear n0_ n1_ n2_ n3_; clear hb hbox hg))
 have n0_ := Aside0.mk (blk_drew BK505.out)
 have n1_ := Aside0.mk (below_drew1 HB.out)
 clear BK505 HB
 have BK505 := n0_
 have HB := n1_
 clear n0_ n1_
 obtain ⟨i011, hi011, _, hsz11, _⟩ := info_parts info5
 obtain ⟨hcut11, hA11, hC11⟩ := print_take_of (P := Try.prog) (Value.int .u8) 0 22 5 .i64 Try.underlying22 hi011 hsz11 A0 c0 l0 8 (by omega) (zA12) HC0.out
 have HR506 := Aside0.mk (Kd.C_of_reads (h1 := fun _ => rfl) (hA11 _ (Kd.reads_of_C HR0.out)))
 have HC506 := Aside0.mk hC11
 clear hA11 hC11 hi011 hsz11
 have p510 : 0 ≤ (8 : Int) := (by omega)
 have q510 : 8 < (l0.length : Int) := zA12
 obtain ⟨ad510, e510, hx510_0⟩ := Kd.at_int HR0.out 8 p510 q510
 have hw510_0 := hx510_0
 (try rw [show ((8 : Int)).toNat = 8 from rfl] at hw510_0)
 (try rw [show 8 * 1 = 8 from rfl] at hw510_0)
 (try simp only [Nat.reduceMul, Nat.reduceEqDiff, Go.Addr.add, ↓reduceIte] at hw510_0)
 cases e510
 (try simp only [show (8 : Int).toNat = 8 from rfl, Nat.reduceMul, Nat.reduceEqDiff, Go.Addr.add, ↓reduceIte] at hx510_0)
 have qi510 : (8 < l0.length) = True := eq_true (by omega)
 (try rw [show ((8 : Int)).toNat = 8 from rfl] at hx510_0)
 replace hx510_0 := (HB.out.cell (World.block_lt_of_cell? w _ hx510_0)).trans hx510_0
 replace p510 := eq_true p510
 replace q510 := eq_true q510
 have p511 : 0 ≤ (9 : Int) := (by omega)
 have q511 : 9 < (l0.length : Int) := zA12
 obtain ⟨ad511, e511, hx511_0⟩ := Kd.at_int HR0.out 9 p511 q511
 have hw511_0 := hx511_0
 (try rw [show ((9 : Int)).toNat = 9 from rfl] at hw511_0)
 (try rw [show 9 * 1 = 9 from rfl] at hw511_0)
 (try simp only [Nat.reduceMul, Nat.reduceEqDiff, Go.Addr.add, ↓reduceIte] at hw511_0)
 obtain rfl : ad510 = ad511 := (by injection e511)
 (try simp only [show (9 : Int).toNat = 9 from rfl, Nat.reduceMul, Nat.reduceEqDiff, Go.Addr.add, ↓reduceIte] at hx511_0)
 have qi511 : (9 < l0.length) = True := eq_true (by omega)
 (try rw [show ((9 : Int)).toNat = 9 from rfl] at hx511_0)
 replace hx511_0 := (HB.out.cell (World.block_lt_of_cell? w _ hx511_0)).trans hx511_0
 replace p511 := eq_true p511
 replace q511 := eq_true q511
 refine start_ (n := 14) (S := fun w' => w'.cell? ⟨ad510.block, ad510.off + 8, none⟩ = some (.int .u8 (rd l0 8)) ∧ w'.cell? ⟨ad510.block, ad510.off + 9, none⟩ = some (.int .u8 (rd l0 9))) (ds := []) zq12_0 (by kernel_rfl) rfl rfl ⟨((HB.out.cell (World.block_lt_of_cell? w _ hw510_0)).trans hw510_0), ((HB.out.cell (World.block_lt_of_cell? w _ hw511_0)).trans hw511_0)⟩ (fun hHeld => ?_); refine with_tabW impl_HartOf.tab3 impl_HartOf.bits3 (fun HT_ HW_ => ?_)
 generalize w9.drew = w10 at BK505 HB HR506 hx510_0 hx511_0 hHeld ⊢
 refine pure_ (i := 0) (N := some 9) (v := ?_) (a' := ?_) zq12_1 rfl rfl (any_of HT_.out (by kernel_rfl)) (fun _ _ _ h => h) (Or.inl ⟨by rfl, ?_⟩) ?_ ?_
 rotate_left
 ·intro w'
  go_simp
  with_reducible rfl
 rotate_left
 ·exact zV12
 refine pure_ (i := 1) (N := some 10) (v := ?_) (a' := ?_) zq12_2 rfl rfl (any_of HT_.out (by kernel_rfl)) (fun _ _ _ h => h) (Or.inl ⟨by rfl, ?_⟩) ?_ ?_
 rotate_left
 ·intro w'
  go_simp
  with_reducible rfl
 rotate_left
 ·exact zV12
 refine pure_ (i := 3) (N := some 12) (v := ?_) (a' := ?_) zq12_3 rfl rfl (any_of HT_.out (by kernel_rfl)) (fun _ _ _ h => h) (Or.inl ⟨by rfl, ?_⟩) ?_ ?_
 rotate_left
 ·intro w'
  go_simp
  with_reducible rfl
 rotate_left
 ·exact zV12
 refine pure_ (i := 4) (N := some 13) (v := ?_) (a' := ?_) zq12_4 rfl rfl (any_of HT_.out (by kernel_rfl)) (fun _ _ _ h => h) (Or.inl ⟨by rfl, ?_⟩) ?_ ?_
 rotate_left
 ·intro w'
  go_simp
  with_reducible rfl
 rotate_left
 ·exact zV12
 refine pure_ (i := 7) (N := some 16) (v := ?_) (a' := ?_) zq12_5 rfl rfl (any_of HT_.out (by kernel_rfl)) (fun _ _ _ h => h) (Or.inl ⟨by rfl, ?_⟩) ?_ ?_
 rotate_left
 ·intro w'
  go_simp
  with_reducible rfl
 rotate_left
 ·exact zV12
 refine pure_ (i := 8) (N := some 17) (v := ?_) (a' := ?_) zq12_6 rfl rfl (any_of HT_.out (by kernel_rfl)) (fun _ _ _ h => h) (Or.inl ⟨by rfl, ?_⟩) ?_ ?_
 rotate_left
 ·intro w'
  go_simp
  with_reducible rfl
 rotate_left
 ·exact zV12
 refine take_ (i := 5) (N := some 14) (v := ?_) (a' := ?_) zq12_7 rfl rfl (take_ofW HT_.out HW_.out (by kernel_rfl)) (fun _ _ _ h => h) (Or.inl ⟨by rfl, ?_⟩) hHeld ?_ ?_
 rotate_left
 ·rintro w' ⟨s0, s1⟩
  go_simp
  with_reducible rfl
 rotate_left
 ·exact zV12
 refine pure_ (i := 6) (N := some 15) (v := ?_) (a' := ?_) zq12_8 rfl rfl (any_of HT_.out (by kernel_rfl)) (fun _ _ _ h => h) (Or.inl ⟨by rfl, ?_⟩) ?_ ?_
 rotate_left
 ·intro w'
  go_simp
  with_reducible rfl
 rotate_left
 ·exact zV12
 refine take_ (i := 9) (N := some 18) (v := ?_) (a' := ?_) zq12_9 rfl rfl (take_ofW HT_.out HW_.out (by kernel_rfl)) (fun _ _ _ h => h) (Or.inl ⟨by rfl, ?_⟩) hHeld ?_ ?_
 rotate_left
 ·rintro w' ⟨s0, s1⟩
  go_simp
  with_reducible rfl
 rotate_left
 ·exact zV12
 refine pure_ (i := 10) (N := some 19) (v := ?_) (a' := ?_) zq12_10 rfl rfl (any_of HT_.out (by kernel_rfl)) (fun _ _ _ h => h) (Or.inl ⟨by rfl, ?_⟩) ?_ ?_
 rotate_left
 ·intro w'
  go_simp
  with_reducible rfl
 rotate_left
 ·exact zV12
 refine join_ (σ := Value × Nat) 1 zq12_11 (fun s_ => [(11, s_.1), (4, .pointer (some ⟨s_.2, 0, none⟩)), (20, .agg #[s_.1, .int .i64 (wrap64 (rd l0 8)), .int .i64 (wrap64 (rd l0 9))])]) (fun s_ w' => (w'.cell? ⟨ad510.block, ad510.off + 8, none⟩ = some (.int .u8 (rd l0 8)) ∧ w'.cell? ⟨ad510.block, ad510.off + 9, none⟩ = some (.int .u8 (rd l0 9))) ∧ (Kd.R (Kd.int .i64) 3 w' w.heap.size (fun _ => True) s_.1 t507) ∧ (w'.heap[gb505]? = some (.cells #[.slice none 0 0, .int .i64 0, .int .i64 0] 47 (0, 0))) ∧ (w'.heap[s_.2]? = some (.cells #[.slice none 0 0, .int .i64 0, .int .i64 0] 47 (0, 0))) ∧ (w.heap.size ≤ s_.2) ∧ (w.heap.size ≤ s_.2) ∧ (gb505 ≠ s_.2) ∧ (s_.2 ≠ gb505) ∧ (Below w.heap.size w w')) ?_ ?_
 rotate_left
 ·intro hCont
  refine two_ (i := 2) (j := 12) (Ni := some 11) (Nj := some 4) zq12_12 zq12_13 rfl rfl rfl rfl (two_of HT_.out (by kernel_rfl)) (by decide) (by decide) (fun K hK => ?_) (fun K hK => ?_)
  ·skip
   refine goes_ Try.func83 (by kernel_rfl) rfl #[.slice (some ad510) (l0.take 8).length c0] (by rfl) rfl rfl (by (try simp only [List.map_toArray, List.map_cons, List.map_nil]); first | done | (rw [show (l0.take 8).length = 8 from (by rw [List.length_take]; have h_ : (8 : Int) ≤ (l0.length : Int) := zA12; omega)] <;> rfl) | rfl | (simp only [List.length_drop, List.length_take]; rfl)) ?_
   with_reducible refine (impl_wordsIn.calls k _ _ (l0.take 8) t507 _ ?side1 ?side2 A4.out).mono ?_
   (case side1 => exact zC12 (Kd.C_below HR506.out HB.out))
   (case side2 => exact HC506.out)
   rintro e w12 ⟨v508, rfl, ho0, hb⟩
   refine ⟨_, rfl, ?_⟩
   have n0_ := Aside0.mk (Kd.R_lower ho0 (below_size (zB12_1)))
   have n1_ := Aside0.mk (zb12 BK505.out hb)
   have n2_ := Aside0.mk (below_step (zB12_1) hb)
   clear BK505 HB
   have HO509 := n0_
   have BK505 := n1_
   have HB := n2_
   clear n0_ n1_ n2_
   (try clear hb)
   (try clear hb2)
   (try clear hk)
   (try clear hi)
   (try clear ho0)
   obtain ⟨Ao13, co13, eo13⟩ := Kd.R_slice HO509.out
   (first | subst eo13 | (injection eo13 with f1_ f2_ f3_; have f4_ := f1_.symm; have f5_ := f3_.symm; clear f1_ f2_ f3_; subst f4_; subst f5_))
   refine hK.out _ _ ⟨((HB.out.cell (World.block_lt_of_cell? w _ hw510_0)).trans hw510_0), ((HB.out.cell (World.block_lt_of_cell? w _ hw511_0)).trans hw511_0)⟩ (fun hHeld => ?_)
   clear hK K
   refine norm_ (a' := ?_) ?_ ?_
   rotate_left
   ·show Act.put _ (some 11) _ = _
    simp only [Act.put, List.setIfInBounds_toArray, List.set_cons_zero, List.set_cons_succ, i64_w, i32_w]
    rfl
   refine pure_ (i := 11) (N := some 20) (v := ?_) (a' := ?_) zq12_14 rfl rfl (any_of HT_.out (by kernel_rfl)) (fun _ _ _ h => h) (Or.inl ⟨by rfl, ?_⟩) ?_ ?_
   rotate_left
   ·intro w'
    go_simp
    with_reducible rfl
   rotate_left
   ·exact zV12
   refine one_ (i := 12) (N := some 4) zq12_11 rfl rfl (one_of HT_.out (by kernel_rfl)) (by decide) (fun K hK => ?_)
   refine box_step ?hg (N := 4) ?hd (cs := #[.slice none 0 0, .int .i64 0, .int .i64 0]) (t := 47) ?hr ?_; (case hd => rfl); (case hg => rfl); (case hr => first | (go_simp; done) | (go_simp; rfl))
   intro gb512 hg w14 hbox hb
   have n0_ := Aside0.mk (Kd.R_below (zR12 HO509.out) hb)
   have n1_ := Aside0.mk (zb12 BK505.out hb)
   have n2_ := Aside0.mk (below_step (zB12_1) hb)
   have n3_ := Aside0.mk (hbox)
   have n4_ := Aside0.mk ((by rw [hg]; exact (below_size (zB12_1)) : w.heap.size ≤ gb512))
   have n5_ := Aside0.mk ((by rw [hg]; exact (below_size (zB12_1)) : w.heap.size ≤ gb512))
   have n6_ := Aside0.mk ((zn12 BK505.out hg : gb505 ≠ gb512))
   have n7_ := Aside0.mk ((zm12 BK505.out hg : gb512 ≠ gb505))
   clear HO509 BK505 HB
   have HO509 := n0_
   have BK505 := n1_
   have HB := n2_
   have BK512 := n3_
   have GW512 := n4_
   have GE512 := n5_
   have NB505_512 := n6_
   have NB512_505 := n7_
   clear n0_ n1_ n2_ n3_ n4_ n5_ n6_ n7_ hb hbox hg
   refine hK.out _ _ ⟨((HB.out.cell (World.block_lt_of_cell? w _ hw510_0)).trans hw510_0), ((HB.out.cell (World.block_lt_of_cell? w _ hw511_0)).trans hw511_0)⟩ (fun hHeld => ?_)
   clear hK K
   refine norm_ (a' := ?_) ?_ ?_
   rotate_left
   ·show Act.put _ (some 4) _ = _
    simp only [Act.put, List.setIfInBounds_toArray, List.set_cons_zero, List.set_cons_succ, i64_w, i32_w]
    rfl
   exact norm_ (by simp only [putAll, Act.put, List.setIfInBounds_toArray, List.set_cons_zero, List.set_cons_succ]) (hCont (.slice Ao13 t507.length co13, gb512) _ ⟨hHeld, (zR12 HO509.out), (zK12 BK505.out), (zK12 BK512.out), GW512.out, GE512.out, NB505_512.out, NB512_505.out, (zB12_2)⟩)
  ·skip
   refine box_step ?hg (N := 4) ?hd (cs := #[.slice none 0 0, .int .i64 0, .int .i64 0]) (t := 47) ?hr ?_; (case hd => rfl); (case hg => rfl); (case hr => first | (go_simp; done) | (go_simp; rfl))
   intro gb512 hg w12 hbox hb
   have n0_ := Aside0.mk (zb12 BK505.out hb)
   have n1_ := Aside0.mk (below_step (zB12_1) hb)
   have n2_ := Aside0.mk (hbox)
   have n3_ := Aside0.mk ((by rw [hg]; exact (below_size (zB12_1)) : w.heap.size ≤ gb512))
   have n4_ := Aside0.mk ((by rw [hg]; exact (below_size (zB12_1)) : w.heap.size ≤ gb512))
   have n5_ := Aside0.mk ((zn12 BK505.out hg : gb505 ≠ gb512))
   have n6_ := Aside0.mk ((zm12 BK505.out hg : gb512 ≠ gb505))
   clear BK505 HB
   have BK505 := n0_
   have HB := n1_
   have BK512 := n2_
   have GW512 := n3_
   have GE512 := n4_
   have NB505_512 := n5_
   have NB512_505 := n6_
   clear n0_ n1_ n2_ n3_ n4_ n5_ n6_ hb hbox hg
   refine hK.out _ _ ⟨((HB.out.cell (World.block_lt_of_cell? w _ hw510_0)).trans hw510_0), ((HB.out.cell (World.block_lt_of_cell? w _ hw511_0)).trans hw511_0)⟩ (fun hHeld => ?_)
   clear hK K
   refine norm_ (a' := ?_) ?_ ?_
   rotate_left
   ·show Act.put _ (some 4) _ = _
    simp only [Act.put, List.setIfInBounds_toArray, List.set_cons_zero, List.set_cons_succ, i64_w, i32_w]
    rfl
   refine one_ (i := 2) (N := some 11) zq12_15 rfl rfl (one_of HT_.out (by kernel_rfl)) (by decide) (fun K hK => ?_)
   refine goes_ Try.func83 (by kernel_rfl) rfl #[.slice (some ad510) (l0.take 8).length c0] (by rfl) rfl rfl (by (try simp only [List.map_toArray, List.map_cons, List.map_nil]); first | done | (rw [show (l0.take 8).length = 8 from (by rw [List.length_take]; have h_ : (8 : Int) ≤ (l0.length : Int) := zA12; omega)] <;> rfl) | rfl | (simp only [List.length_drop, List.length_take]; rfl)) ?_
   with_reducible refine (impl_wordsIn.calls k _ _ (l0.take 8) t507 _ ?side1 ?side2 A4.out).mono ?_
   (case side1 => exact zC12 (Kd.C_below HR506.out HB.out))
   (case side2 => exact HC506.out)
   rintro e w13 ⟨v508, rfl, ho0, hb⟩
   refine ⟨_, rfl, ?_⟩
   have n0_ := Aside0.mk (Kd.R_lower ho0 (below_size (zB12_2)))
   have n1_ := Aside0.mk (zb12 BK505.out hb)
   have n2_ := Aside0.mk (zb12 BK512.out hb)
   have n3_ := Aside0.mk (below_step (zB12_2) hb)
   clear BK505 BK512 HB
   have HO509 := n0_
   have BK505 := n1_
   have BK512 := n2_
   have HB := n3_
   clear n0_ n1_ n2_ n3_
   (try clear hb)
   (try clear hb2)
   (try clear hk)
   (try clear hi)
   (try clear ho0)
   obtain ⟨Ao14, co14, eo14⟩ := Kd.R_slice HO509.out
   (first | subst eo14 | (injection eo14 with f1_ f2_ f3_; have f4_ := f1_.symm; have f5_ := f3_.symm; clear f1_ f2_ f3_; subst f4_; subst f5_))
   refine hK.out _ _ ⟨((HB.out.cell (World.block_lt_of_cell? w _ hw510_0)).trans hw510_0), ((HB.out.cell (World.block_lt_of_cell? w _ hw511_0)).trans hw511_0)⟩ (fun hHeld => ?_)
   clear hK K
   refine norm_ (a' := ?_) ?_ ?_
   rotate_left
   ·show Act.put _ (some 11) _ = _
    simp only [Act.put, List.setIfInBounds_toArray, List.set_cons_zero, List.set_cons_succ, i64_w, i32_w]
    rfl
   refine pure_ (i := 11) (N := some 20) (v := ?_) (a' := ?_) zq12_11 rfl rfl (any_of HT_.out (by kernel_rfl)) (fun _ _ _ h => h) (Or.inl ⟨by rfl, ?_⟩) ?_ ?_
   rotate_left
   ·intro w'
    go_simp
    with_reducible rfl
   rotate_left
   ·exact zV12
   exact norm_ (by simp only [putAll, Act.put, List.setIfInBounds_toArray, List.set_cons_zero, List.set_cons_succ]) (hCont (.slice Ao14 t507.length co14, gb512) _ ⟨hHeld, (zR12 HO509.out), (zK12 BK505.out), (zK12 BK512.out), GW512.out, GE512.out, NB505_512.out, NB512_505.out, (zB12_2)⟩)
 rintro ⟨v508, gb512⟩ w15 ⟨hS_, h0_, h1_, h2_, h3_, h4_, h5_, h6_, h7_⟩
 have n0_ : Aside0 (Kd.R (Kd.int .i64) 3 w15 w.heap.size (fun _ => True) v508 t507) := ⟨h0_⟩
 have n1_ : Aside0 (w15.heap[gb505]? = some (.cells #[.slice none 0 0, .int .i64 0, .int .i64 0] 47 (0, 0))) := ⟨h1_⟩
 have n2_ : Aside0 (w15.heap[gb512]? = some (.cells #[.slice none 0 0, .int .i64 0, .int .i64 0] 47 (0, 0))) := ⟨h2_⟩
 have n3_ : Aside0 (w.heap.size ≤ gb512) := ⟨h3_⟩
 have n4_ : Aside0 (w.heap.size ≤ gb512) := ⟨h4_⟩
 have n5_ : Aside0 (gb505 ≠ gb512) := ⟨h5_⟩
 have n6_ : Aside0 (gb512 ≠ gb505) := ⟨h6_⟩
 have n7_ : Aside0 (Below w.heap.size w w15) := ⟨h7_⟩
 clear BK505 HB h0_ h1_ h2_ h3_ h4_ h5_ h6_ h7_
 have HO509 := n0_
 have BK505 := n1_
 have BK512 := n2_
 have GW512 := n3_
 have GE512 := n4_
 have NB505_512 := n5_
 have NB512_505 := n6_
 have HB := n7_
 clear n0_ n1_ n2_ n3_ n4_ n5_ n6_ n7_
 have hHeld : w15.cell? ⟨ad510.block, ad510.off + 8, none⟩ = some (.int .u8 (rd l0 8)) ∧ w15.cell? ⟨ad510.block, ad510.off + 9, none⟩ = some (.int .u8 (rd l0 9)) := hS_
 obtain ⟨Ao16, co16, eo16⟩ := Kd.R_slice HO509.out
 (first | subst eo16 | (injection eo16 with f1_ f2_ f3_; have f4_ := f1_.symm; have f5_ := f3_.symm; clear f1_ f2_ f3_; subst f4_; subst f5_))
 refine norm_ (a' := ?_) ?_ ?_
 rotate_left
 ·simp only [putAll, Act.put, List.setIfInBounds_toArray, List.set_cons_zero, List.set_cons_succ]
  rfl
 refine one_ (i := 13) (N := none) zq12_16 rfl rfl (one_of HT_.out (by kernel_rfl)) (by decide) (fun K hK => ?_)
 have hs17 : w15.cell? ⟨gb512, 0, none⟩ = some (.slice none 0 0) := (blk_cell BK512.out 0).trans rfl
 have hfs17 := blk_frozen BK512.out 0
 have hns17_0 := NB505_512.out
 have hms17_0 := NB512_505.out
 have hs18 : w15.cell? ⟨gb512, 1, none⟩ = some (.int .i64 0) := (blk_cell BK512.out 1).trans rfl
 have hfs18 := blk_frozen BK512.out 1
 have hns18_0 := NB505_512.out
 have hms18_0 := NB512_505.out
 have hs19 : w15.cell? ⟨gb512, 2, none⟩ = some (.int .i64 0) := (blk_cell BK512.out 2).trans rfl
 have hfs19 := blk_frozen BK512.out 2
 have hns19_0 := NB505_512.out
 have hms19_0 := NB512_505.out
 refine skip_ (w1 := ?_) (by rfl) rfl ?_ ?_
 rotate_left
 ·go_simp
  rfl
 refine hK.out _ _ ⟨((cell_far (p := ⟨gb512, _, none⟩) (by first | exact Nat.ne_of_lt (Nat.lt_of_lt_of_le (by have := World.block_lt_of_cell? _ _ hw510_0; first | rwa [add_block] at this | exact this) GW512.out) | (rw [add_block]; exact Nat.ne_of_lt (Nat.lt_of_lt_of_le (by have := World.block_lt_of_cell? _ _ hw510_0; first | rwa [add_block] at this | exact this) GW512.out)) | (show (Addr.add _ _).block ≠ _; rw [add_block]; exact Nat.ne_of_lt (Nat.lt_of_lt_of_le (by have := World.block_lt_of_cell? _ _ hw510_0; first | rwa [add_block] at this | exact this) GW512.out)) | (dsimp only; exact Nat.ne_of_lt (Nat.lt_of_lt_of_le (by have := World.block_lt_of_cell? _ _ hw510_0; first | rwa [add_block] at this | exact this) GW512.out))) _).trans (((cell_far (p := ⟨gb512, _, none⟩) (by first | exact Nat.ne_of_lt (Nat.lt_of_lt_of_le (by have := World.block_lt_of_cell? _ _ hw510_0; first | rwa [add_block] at this | exact this) GW512.out) | (rw [add_block]; exact Nat.ne_of_lt (Nat.lt_of_lt_of_le (by have := World.block_lt_of_cell? _ _ hw510_0; first | rwa [add_block] at this | exact this) GW512.out)) | (show (Addr.add _ _).block ≠ _; rw [add_block]; exact Nat.ne_of_lt (Nat.lt_of_lt_of_le (by have := World.block_lt_of_cell? _ _ hw510_0; first | rwa [add_block] at this | exact this) GW512.out)) | (dsimp only; exact Nat.ne_of_lt (Nat.lt_of_lt_of_le (by have := World.block_lt_of_cell? _ _ hw510_0; first | rwa [add_block] at this | exact this) GW512.out))) _).trans (((cell_far (p := ⟨gb512, _, none⟩) (by first | exact Nat.ne_of_lt (Nat.lt_of_lt_of_le (by have := World.block_lt_of_cell? _ _ hw510_0; first | rwa [add_block] at this | exact this) GW512.out) | (rw [add_block]; exact Nat.ne_of_lt (Nat.lt_of_lt_of_le (by have := World.block_lt_of_cell? _ _ hw510_0; first | rwa [add_block] at this | exact this) GW512.out)) | (show (Addr.add _ _).block ≠ _; rw [add_block]; exact Nat.ne_of_lt (Nat.lt_of_lt_of_le (by have := World.block_lt_of_cell? _ _ hw510_0; first | rwa [add_block] at this | exact this) GW512.out)) | (dsimp only; exact Nat.ne_of_lt (Nat.lt_of_lt_of_le (by have := World.block_lt_of_cell? _ _ hw510_0; first | rwa [add_block] at this | exact this) GW512.out))) _).trans (hHeld.1)))))), ((cell_far (p := ⟨gb512, _, none⟩) (by first | exact Nat.ne_of_lt (Nat.lt_of_lt_of_le (by have := World.block_lt_of_cell? _ _ hw511_0; first | rwa [add_block] at this | exact this) GW512.out) | (rw [add_block]; exact Nat.ne_of_lt (Nat.lt_of_lt_of_le (by have := World.block_lt_of_cell? _ _ hw511_0; first | rwa [add_block] at this | exact this) GW512.out)) | (show (Addr.add _ _).block ≠ _; rw [add_block]; exact Nat.ne_of_lt (Nat.lt_of_lt_of_le (by have := World.block_lt_of_cell? _ _ hw511_0; first | rwa [add_block] at this | exact this) GW512.out)) | (dsimp only; exact Nat.ne_of_lt (Nat.lt_of_lt_of_le (by have := World.block_lt_of_cell? _ _ hw511_0; first | rwa [add_block] at this | exact this) GW512.out))) _).trans (((cell_far (p := ⟨gb512, _, none⟩) (by first | exact Nat.ne_of_lt (Nat.lt_of_lt_of_le (by have := World.block_lt_of_cell? _ _ hw511_0; first | rwa [add_block] at this | exact this) GW512.out) | (rw [add_block]; exact Nat.ne_of_lt (Nat.lt_of_lt_of_le (by have := World.block_lt_of_cell? _ _ hw511_0; first | rwa [add_block] at this | exact this) GW512.out)) | (show (Addr.add _ _).block ≠ _; rw [add_block]; exact Nat.ne_of_lt (Nat.lt_of_lt_of_le (by have := World.block_lt_of_cell? _ _ hw511_0; first | rwa [add_block] at this | exact this) GW512.out)) | (dsimp only; exact Nat.ne_of_lt (Nat.lt_of_lt_of_le (by have := World.block_lt_of_cell? _ _ hw511_0; first | rwa [add_block] at this | exact this) GW512.out))) _).trans (((cell_far (p := ⟨gb512, _, none⟩) (by first | exact Nat.ne_of_lt (Nat.lt_of_lt_of_le (by have := World.block_lt_of_cell? _ _ hw511_0; first | rwa [add_block] at this | exact this) GW512.out) | (rw [add_block]; exact Nat.ne_of_lt (Nat.lt_of_lt_of_le (by have := World.block_lt_of_cell? _ _ hw511_0; first | rwa [add_block] at this | exact this) GW512.out)) | (show (Addr.add _ _).block ≠ _; rw [add_block]; exact Nat.ne_of_lt (Nat.lt_of_lt_of_le (by have := World.block_lt_of_cell? _ _ hw511_0; first | rwa [add_block] at this | exact this) GW512.out)) | (dsimp only; exact Nat.ne_of_lt (Nat.lt_of_lt_of_le (by have := World.block_lt_of_cell? _ _ hw511_0; first | rwa [add_block] at this | exact this) GW512.out))) _).trans (hHeld.2))))))⟩ (fun hHeld => ?_)
 clear hK K
 refine done_ (done_of HT_.out (by kernel_rfl)) ?_
 have hnb20 := NB512_505.out
 have hnc20 := NB505_512.out
 obtain ⟨hcz21_0, hcz21_1, hcz21_2, hfz21_0, hfz21_1, hfz21_2⟩ := zc12_3 (w := w15) BK512.out
 try go_wp2_with (first | ((with_reducible refine gate_callee (f := 74) rfl ?_); refine goesL_ (some 22) rfl rfl Try.func74 (by kernel_rfl) rfl #[.agg #[.slice Ao16 t507.length co16, .int .i64 (wrap64 (rd l0 8)), .int .i64 (wrap64 (rd l0 9))]] rfl zT12 ?_; (with_reducible refine (impl_HartOk.calls k _ _ t507 (wrap64 (rd l0 8)) (wrap64 (rd l0 9)) true _ ?side1 ?side2 A7.out).mono ?_); (case side1 => refine (Kd.R_reads' (e := 3) (base := w.heap.size) (ok := fun k_ => True) (n := t507.length) (c := co16) ?_).2.2; exact (by (with_reducible repeat (first | apply Kd.R_alloc | apply Kd.R_drewN | apply Kd.R_drew)); exact (Kd.R_mono (Kd.R_far (p := ⟨gb512, 2, none⟩) (Kd.R_far (p := ⟨gb512, 1, none⟩) (Kd.R_far (p := ⟨gb512, 0, none⟩) (Kd.R_types HO509.out BK512.out (by decide)) (fun _ hk => hk.2) (.slice Ao16 t507.length co16)) (fun _ hk => hk.2) (.int .i64 (wrap64 (rd l0 8)))) (fun _ hk => hk.2) (.int .i64 (wrap64 (rd l0 9)))) (fun _ h_ => h_.1)))); (case side2 => exact (Kd.R_reads' HO509.out).2.1); rintro e w22 ⟨rfl, hb⟩; refine ⟨_, rfl, ?_⟩; have n0_ := Aside0.mk (Kd.R_below (by (with_reducible repeat (first | apply Kd.R_alloc | apply Kd.R_drewN | apply Kd.R_drew)); exact (Kd.R_mono (Kd.R_far (p := ⟨gb512, 2, none⟩) (Kd.R_far (p := ⟨gb512, 1, none⟩) (Kd.R_far (p := ⟨gb512, 0, none⟩) (Kd.R_types HO509.out BK512.out (by decide)) (fun _ hk => hk.2) (.slice Ao16 t507.length co16)) (fun _ hk => hk.2) (.int .i64 (wrap64 (rd l0 8)))) (fun _ hk => hk.2) (.int .i64 (wrap64 (rd l0 9)))) (fun _ h_ => h_.1))) hb); have n1_ := Aside0.mk (blk_below (g := gb505) (o := .cells #[.slice none 0 0, .int .i64 0, .int .i64 0] 47 (0, 0)) (by refine zP12 ?_; refine blk_far ?_ NB505_512.out _; refine zP12 ?_; refine blk_far ?_ NB505_512.out _; refine zP12 ?_; refine blk_far ?_ NB505_512.out _; refine zP12 ?_; exact BK505.out) hb); have n2_ := Aside0.mk (blk_below (g := gb512) (o := .cells #[.slice Ao16 t507.length co16, .int .i64 (wrap64 (rd l0 8)), .int .i64 (wrap64 (rd l0 9))] 47 (0, 0)) (by refine zP12 ?_; refine blk_put (cs := #[.slice Ao16 t507.length co16, .int .i64 (wrap64 (rd l0 8)), .int .i64 0]) ?_ 2 _ rfl; refine zP12 ?_; refine blk_put (cs := #[.slice Ao16 t507.length co16, .int .i64 0, .int .i64 0]) ?_ 1 _ rfl; refine zP12 ?_; refine blk_put (cs := #[.slice none 0 0, .int .i64 0, .int .i64 0]) ?_ 0 _ rfl; refine zP12 ?_; exact BK512.out) hb); have n3_ := Aside0.mk (below_step (zB12_2) hb); clear HO509; clear BK505; clear BK512; clear HB; have HO509 := n0_; have BK505 := n1_; have BK512 := n2_; have HB := n3_; clear n0_ n1_ n2_ n3_; (try clear hb); (try clear hb2); (try clear hk); (try clear hi); obtain ⟨hcz23_0, hcz23_1, hcz23_2, hfz23_0, hfz23_1, hfz23_2⟩ := zc12_3 (w := w22) BK512.out; obtain ⟨hcz24_0, hcz24_1, hcz24_2, hfz24_0, hfz24_1, hfz24_2⟩ := zc12_3 (w := w22) BK505.out))
 refine bodyPost_ret (results_ct rfl _ _ gb505 47 #[.slice Ao16 t507.length co16, .int .i64 (wrap64 (rd l0 8)), .int .i64 (wrap64 (rd l0 9))] (0, 0) _ rfl (by refine zP12 ?_; refine blk_put (cs := #[.slice Ao16 t507.length co16, .int .i64 (wrap64 (rd l0 8)), .int .i64 0]) ?_ 2 _ rfl; refine zP12 ?_; refine blk_put (cs := #[.slice Ao16 t507.length co16, .int .i64 0, .int .i64 0]) ?_ 1 _ rfl; refine zP12 ?_; refine blk_put (cs := #[.slice none 0 0, .int .i64 0, .int .i64 0]) ?_ 0 _ rfl; refine zP12 ?_; exact BK505.out) Try.underlying47 rfl (by kernel_rfl)) rfl ?_
 exact ⟨_, zE12, by (with_reducible repeat (first | apply Kd.R_alloc | apply Kd.R_drewN | apply Kd.R_drew)); exact Kd.R_mono (Kd.R_far (p := ⟨gb505, 2, none⟩) (Kd.R_far (p := ⟨gb505, 1, none⟩) (Kd.R_far (p := ⟨gb505, 0, none⟩) (Kd.R_types HO509.out BK505.out (by decide)) (fun _ hk => hk.2) (.slice Ao16 t507.length co16)) (fun _ hk => hk.2) (.int .i64 (wrap64 (rd l0 8)))) (fun _ hk => hk.2) (.int .i64 (wrap64 (rd l0 9)))) (fun _ hk => trivial), zB12_2⟩

/-! ### bytes_Equal: function 73 -/
def bytes_Equal.f (l0 : List Int) (l1 : List Int) : Option (Bool) := some ((strOfNums l0).toList == (strOfNums l1).toList)
set_option maxHeartbeats 8000000 in
set_option maxRecDepth 100000 in
theorem bytes_Equal.calls (A0 : Option Addr) (c0 : Nat) (l0 : List Int) (A1 : Option Addr) (c1 : Nat) (l1 : List Int) (r : Bool) (w : World) (hr0 : Kd.C (Kd.int .u8) w A0 l0.length l0) (hc0 : l0.length ≤ c0) (hr1 : Kd.C (Kd.int .u8) w A1 l1.length l1) (hc1 : l1.length ≤ c1) (h : bytes_Equal.f l0 l1 = some r) :
  Calls Try.prog 73 #[.slice A0 l0.length c0, .slice A1 l1.length c1] w fun e w' => e = .returned (.bool r) ∧ Drawn0 w w' := by
 have HR0 := Aside0.mk hr0
 have HC0 := Aside0.mk hc0
 clear hr0 hc0
 have HR1 := Aside0.mk hr1
 have HC1 := Aside0.mk hc1
 clear hr1 hc1
 have H : (some ((strOfNums l0).toList == (strOfNums l1).toList)) = some r := h
 clear h
 obtain rfl := Option.some.inj H
 have hcv3 := Kd.C_string (P := Try.prog) (A := A0) (c := c0) Try.underlying22 Try.underlying5 Try.underlying9 HR0.out
 have hcv4 := Kd.C_string (P := Try.prog) (A := A1) (c := c1) Try.underlying22 Try.underlying5 Try.underlying9 HR1.out
 go_enter Try.func73, Try.ntmps73
 go_wp2
 go_ret
 exact ⟨by first | rfl | (simp; done) | (simp [*]; done), by repeat (first | exact Drawn0.refl _ | apply Drawn0.step)⟩

end Go.Proofs.Ytajhfpeijagpnaa.PFnResumes
