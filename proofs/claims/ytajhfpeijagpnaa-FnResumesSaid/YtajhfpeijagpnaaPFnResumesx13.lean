-- made by wip/tools/myprint.py out of the seat's translation
import Derived.Test.YtajhfpeijagpnaaPFnResumesx0
import Derived.Test.YtajhfpeijagpnaaPFnResumesx5
import Derived.Test.YtajhfpeijagpnaaPFnResumesx10
import Derived.Test.YtajhfpeijagpnaaPFnResumesx11
import Derived.Test.YtajhfpeijagpnaaPFnResumesx12
namespace Go.Proofs.Ytajhfpeijagpnaa.PFnResumes
open Go.RowKit Go.Proofs.YtajhfpeijagpnaaW.PrintWords Go.Proofs.YtajhfpeijagpnaaW.PrintLast Go.Proofs.YtajhfpeijagpnaaW.PrintMore
attribute [local go_sem] max2_int min2_int max_two min_two max_three min_three max_four min_four   -- for this text's walks alone
set_option linter.unusedVariables false
set_option linter.unusedSimpArgs false
theorem zc13_3 {w : World} {g : Nat} {a0 a1 a2 : Value} {t : TypeId} (h : w.heap[g]? = some (.cells #[a0, a1, a2] t (0, 0))) : w.cell? ⟨g, 0, none⟩ = some a0 ∧ w.cell? ⟨g, 1, none⟩ = some a1 ∧ w.cell? ⟨g, 2, none⟩ = some a2 ∧ w.frozen? ⟨g, 0, none⟩ = false ∧ w.frozen? ⟨g, 1, none⟩ = false ∧ w.frozen? ⟨g, 2, none⟩ = false := ⟨(blk_cell h 0).trans rfl, (blk_cell h 1).trans rfl, (blk_cell h 2).trans rfl, blk_frozen h 0, blk_frozen h 1, blk_frozen h 2⟩
theorem zR13 {p q : Prop} (x : q) (h : q → p := by intro h; (with_reducible repeat (first | apply Kd.R_alloc | apply Kd.R_drewN | apply Kd.R_drew)); exact h) : p := h x
theorem zS13 {p q : Prop} (x : q) (h : q → p := by intro h; (with_reducible repeat (first | apply Kd.S_alloc | apply Kd.S_drewN | apply Kd.S_drew)); exact h) : p := h x
theorem zK13 {p q : Prop} (x : q) (h : q → p := by intro h; (with_reducible repeat (first | refine blk_drewN ?_ _ | refine blk_drew ?_ | refine blk_alloc ?_ _)); exact h) : p := h x
theorem zA13 {p : Prop} [Decidable p] (h : decide p = true := by first | (with_reducible assumption) | assumption) : p := of_decide_eq_true h
theorem zT13 {p : Prop} (h : p := by (try simp only [List.map_toArray, List.map_cons, List.map_nil]); first | done | rfl | (simp only [List.length_drop, List.length_take]; rfl)) : p := h
theorem zC13 {p q : Prop} (x : q) (h : q → p := by intro h; repeat (first | exact h | (with_reducible refine Kd.C_alloc ?_ _) | (with_reducible refine Kd.C_drewN ?_ _) | (with_reducible refine Kd.C_drew ?_))) : p := h x
theorem zg13 {W w w1 : World} {g : Nat} {o : Obj} {row : Option Nat} (x : W.heap[g]? = some o) (hg : w.grownBy w1 row) (hne : some g ≠ row) (h : W.heap[g]? = some o → w.heap[g]? = some o := by intro h; (with_reducible repeat (first | refine blk_drewN ?_ _ | refine blk_drew ?_ | refine blk_alloc ?_ _)); exact h) : w1.heap[g]? = some o := blk_grown (h x) hg hne
theorem zP13 {p q : Prop} (x : q) (h : q → p := by intro h; (with_reducible repeat (first | refine blk_drewN ?_ _ | refine blk_drew ?_ | refine blk_alloc ?_ _)); exact h) : p := h x
theorem zV13 {a b : Act} (h : a = b := by simp only [Act.put, List.setIfInBounds_toArray, List.set_cons_zero, List.set_cons_succ, i64_w, i32_w]; rfl) : a = b := h
theorem zE13 {p : Prop} (h : p := by first | rfl | (simp [errW_none, errW_some] <;> rfl) | (simp [*, errW_none, errW_some] <;> rfl)) : p := h
theorem zB13_0 {p : Prop} (h : p := by repeat (first | (with_reducible first | exact HB.out | apply below_alloc | apply pw_below_drewN | apply below_drew1) | exact HB.out)) : p := h
theorem zB13_1 {p : Prop} (h : p := by repeat (first | (with_reducible first | exact HB.out | apply below_alloc | apply pw_below_drewN | apply below_drew1 | refine below_set ?_ GE529.out) | exact HB.out)) : p := h

/-! ### impl_SaveOf: function 27 -/
def impl_SaveOf.l0 : Nat → List Int → List Int → List (S47) → Int → Option (List Int × (List (S47)) × Bool)
 | 0, _, _, _, _ => none
 | k + 1, x0, x5, x7, x8 => if (wrap64 (x8 + 10)) ≤ (x0.length : Int) then (if 0 ≤ x8 then (if x8 ≤ (wrap64 (x8 + 10)) then ((impl_HartOf.f k ((x0.take ((wrap64 (x8 + 10)) : Int).toNat).drop (x8 : Int).toNat)).bind fun bt523 => (if x7.length < 3518437208883 then (impl_SaveOf.l0 k x0 x5 (x7 ++ [(⟨bt523.1, bt523.2.1, bt523.2.2.1⟩ : S47)]) (wrap64 (x8 + 10))) else (none))) else (none)) else (none)) else ((impl_SaveBytes.f k x5 x7).bind fun t533 => ((bytes_Equal.f t533 x0).bind fun t536 => (if t536 = true then (some (x5, x7, true)) else (some (([] : List Int), ([] : List (S47)), false)))))
def impl_SaveOf.f (k : Nat) (l0 : List Int) : Option (List Int × (List (S47)) × Bool) := if (l0.length : Int) < 49 then (some (([] : List Int), ([] : List (S47)), false)) else (if 49 ≤ (l0.length : Int) then ((impl_MemOf.f k ((l0.take 49).drop 1)).bind fun bt515 => (impl_SaveOf.l0 k l0 bt515.1 (([] : List (S47))) 49)) else (none))
theorem impl_SaveOf.mono_l : ∀ k, (∀ y0 y1 y2 y3, LeO (impl_SaveOf.l0 k y0 y1 y2 y3) (impl_SaveOf.l0 (k + 1) y0 y1 y2 y3))
 | 0 => fun _ _ _ _ r h => by simp [impl_SaveOf.l0] at h
 | k + 1 => by
  have ih0 := impl_SaveOf.mono_l k
  ·intro y0 y1 y2 y3
   unfold impl_SaveOf.l0
   repeat' first
   | (with_reducible exact ih0 _ _ _ _)
   | (with_reducible exact impl_HartOf.mono _ _)
   | (with_reducible exact impl_MemOf.mono _ _)
   | (with_reducible exact impl_SaveBytes.mono _ _ _)
   | (with_reducible exact LeO.refl _)
   | (with_reducible exact LeO.none _)
   | (with_reducible refine LeO.ite ?_ ?_)
   | (with_reducible refine LeO.bind ?_ (fun _ => ?_))
   | exact ih0 _ _ _ _
   | exact impl_HartOf.mono _ _
   | exact impl_MemOf.mono _ _
   | exact impl_SaveBytes.mono _ _ _
   | exact LeO.none _
   | refine LeO.ite ?_ ?_
   | refine LeO.bind ?_ (fun _ => ?_)
theorem impl_SaveOf.mono : ∀ a0 k, LeO (impl_SaveOf.f k a0) (impl_SaveOf.f (k + 1) a0) := by
 intro a0 k
 have ih0 := impl_SaveOf.mono_l k
 unfold impl_SaveOf.f
 repeat' first
   | (with_reducible exact ih0 _ _ _ _)
   | (with_reducible exact impl_HartOf.mono _ _)
   | (with_reducible exact impl_MemOf.mono _ _)
   | (with_reducible exact impl_SaveBytes.mono _ _ _)
   | (with_reducible exact LeO.refl _)
   | (with_reducible exact LeO.none _)
   | (with_reducible refine LeO.ite ?_ ?_)
   | (with_reducible refine LeO.bind ?_ (fun _ => ?_))
   | exact ih0 _ _ _ _
   | exact impl_HartOf.mono _ _
   | exact impl_MemOf.mono _ _
   | exact impl_SaveBytes.mono _ _ _
   | exact LeO.none _
   | refine LeO.ite ?_ ?_
   | refine LeO.bind ?_ (fun _ => ?_)
set_option maxHeartbeats 8000000 in
set_option maxRecDepth 100000 in
theorem impl_SaveOf.calls (k : Nat) (A0 : Option Addr) (c0 : Nat) (l0 : List Int) (r1 : List Int) (r2 : List (S47)) (r3 : Bool) (w : World) (hr0 : Kd.C (Kd.int .u8) w A0 l0.length l0) (hc0 : l0.length ≤ c0) (h : impl_SaveOf.f k l0 = some (r1, r2, r3)) :
  Calls Try.prog 27 #[.slice A0 l0.length c0] w fun e w' => ∃ v0_ v1_ : Value, e = .returned (.tuple #[v0_, v1_, .bool r3]) ∧ Kd.R (Kd.int .i64) 3 w' w.heap.size (fun _ => True) v0_ r1 ∧ Kd.S k47 47 w' w.heap.size (fun k_ => some k_ ≠ (v0_ : Value).ownBlock) v1_ r2 ∧ Below w.heap.size w w' := by
 have hu47 := Try.underlying47
 have HR0 := Aside0.mk hr0
 have HC0 := Aside0.mk hc0
 clear hr0 hc0
 have HB := Aside0.mk (Below.refl w.heap.size w)
 have H : (if (l0.length : Int) < 49 then (some (([] : List Int), ([] : List (S47)), false)) else (if 49 ≤ (l0.length : Int) then ((impl_MemOf.f k ((l0.take 49).drop 1)).bind fun bt515 => (impl_SaveOf.l0 k l0 bt515.1 (([] : List (S47))) 49)) else (none))) = some (r1, r2, r3) := h
 clear h
 by_cases c2 : (l0.length : Int) < 49
 ·rw [if_pos c2] at H
  have c2b0 : decide ((l0.length : Int) < 49) = true := decide_eq_true c2
  have c2b1 : decide (l0.length < 49) = true := decide_eq_true (by omega)
  clear c2
  simp only [Option.some.injEq, Prod.mk.injEq] at H
  obtain ⟨rfl, rfl, rfl⟩ := H
  go_enter Try.func27, Try.ntmps27
  go_wp2
  go_ret3
  exact ⟨_, _, zE13, by first | exact Kd.R_nil _ _ _ _ _ | exact Kd.N_nil _ _ _ _ _ | exact Kd.V_nil _ _ _ _ _ | exact Kd.Q_nil _ _ _ _ _ | exact Kd.S_nil _ _ _ _ _, by first | exact Kd.S_nil _ _ _ _ _ | exact Kd.N_nil _ _ _ _ _ | exact Kd.V_nil _ _ _ _ _ | exact Kd.Q_nil _ _ _ _ _ | exact Kd.R_nil _ _ _ _ _, zB13_0⟩
 rw [if_neg c2] at H
 have c2b0 : decide ((l0.length : Int) < 49) = false := decide_eq_false c2
 have c2b1 : decide (l0.length < 49) = false := decide_eq_false (by omega)
 clear c2
 by_cases c3 : 49 ≤ (l0.length : Int)
 rotate_left
 ·rw [if_neg c3] at H
  exact absurd H (by simp)
 rw [if_pos c3] at H
 have c3b0 := eq_true c3
 have c3b1 : decide (49 ≤ (l0.length : Int)) = true := decide_eq_true c3
 clear c3
 replace H := Option.bind_eq_some_iff.mp H
 obtain ⟨⟨t515, t516⟩, A40, H⟩ := H
 replace H : (impl_SaveOf.l0 k l0 t515 (([] : List (S47))) 49) = some (r1, r2, r3) := H
 have A4 := Aside0.mk A40
 clear A40
 obtain ⟨y519, hy519⟩ : ∃ y_ : List (S47), y_ = (([] : List (S47))) := ⟨_, rfl⟩
 replace H : (impl_SaveOf.l0 k l0 t515 y519 49) = some (r1, r2, r3) := by first | (rw [hy519]; with_reducible exact H) | (have H2_ := (Option.bind_some _ _).symm.trans H; rw [hy519]; with_reducible exact H2_) | (have H2_ := (Option.bind_some _ _).symm.trans H; with_reducible exact H2_) | with_reducible exact H | (rw [hy519]; exact H) | exact H
 have Ny519 := Aside0.mk hy519
 clear hy519
 have H' := Aside0.mk H
 clear H
 obtain ⟨i05, hi05, _, hsz5, _⟩ := info_parts info5
 obtain ⟨A5, hcut5, hA5, hC5⟩ := print_mid_of (P := Try.prog) (Value.int .u8) 0 22 5 .i64 .i64 Try.underlying22 hi05 hsz5 A0 c0 l0 1 49 (by omega) (by first | omega | exact zA13) (zA13) HC0.out
 have HR514 := Aside0.mk (Kd.C_of_reads (h1 := fun _ => rfl) (hA5 _ (Kd.reads_of_C HR0.out)))
 have HC514 := Aside0.mk hC5
 clear hA5 hC5 hi05 hsz5
 go_enter Try.func27, Try.ntmps27
 go_wp2_with (first | ((with_reducible refine gate_callee (f := 38) rfl ?_); refine goesL_ (some 17) rfl rfl Try.func38 (by kernel_rfl) rfl #[.slice A5 ((l0.take 49).drop 1).length (c0 - 1)] rfl (by (try simp only [List.map_toArray, List.map_cons, List.map_nil]); first | done | (rw [show ((l0.take 49).drop 1).length = (49 - 1) from (by rw [List.length_drop, List.length_take]; have h_ : (49 : Int) ≤ (l0.length : Int) := zA13; omega)] <;> rfl) | rfl | (simp only [List.length_drop, List.length_take]; rfl)) ?_; (with_reducible refine (impl_MemOf.calls k _ _ ((l0.take 49).drop 1) t515 t516 _ ?side1 ?side2 A4.out).mono ?_); (case side1 => exact zC13 HR514.out); (case side2 => exact HC514.out); rintro e w6 ⟨v517, rfl, ho0, hb⟩; refine ⟨_, rfl, ?_⟩; have n0_ := Aside0.mk (Kd.R_lower ho0 (below_size (zB13_0))); have n1_ := Aside0.mk (below_step (zB13_0) hb); clear HB; have HO518 := n0_; have HB := n1_; clear n0_ n1_; (try clear hb); (try clear hb2); (try clear hk); (try clear hi); (try clear ho0)) | ((with_reducible refine gate_dst (N := 20) rfl ?_); refine Kd.S_lit k47 _ 47 ?hg (N := 20) ?hd (xs := ([] : List (S47))) (inner := []) (ok := fun _ => True) (okp := fun _ => True) ?hr ?hp (fun _ hk => hk) trivial (Below.refl _ _) (Nat.le_refl _) (by simp) ?_; (case hd => rfl); (case hg => rfl); (case hr => first | (go_simp; done) | (go_simp; rfl)); (case hp => exact (Reps.none _ _)); intro v520 w7 ho8 hb hg_ hnew_; clear hg_ hnew_; (first | rw [← Ny519.out] at ho8 | (simp only [Int.reduceToNat] at ho8; rw [← Ny519.out] at ho8)); have n0_ := Aside0.mk (Kd.R_below (zR13 HO518.out) hb); have n1_ := Aside0.mk (Kd.S_lower (Kd.S_new' ho8 (Kd.R_lt (zR13 HO518.out))) (below_size (zB13_0))); have n2_ := Aside0.mk (below_step (zB13_0) hb); clear HO518; clear HB; have HO518 := n0_; have HO521 := n1_; have HB := n2_; clear n0_ n1_ n2_; clear hb ho8))
 go_loopg [7, 8] k (fun kq v7 v8 w' => ∃ (x7_1 : List (S47)) (x8_1 : Int), v8 = .int .i64 x8_1 ∧ Aside0 (impl_SaveOf.l0 kq l0 t515 x7_1 x8_1 = some (r1, r2, r3)) ∧ Aside0 (kq ≤ k) ∧ Aside0 (Kd.R (Kd.int .i64) 3 w' w.heap.size (fun _ => True) v517 t515) ∧ Aside0 (Kd.S k47 47 w' w.heap.size (fun k_ => some k_ ≠ (v517 : Value).ownBlock) v7 x7_1) ∧ Aside0 (Below w.heap.size w w'))
 case atStart => exact ⟨(y519), (49), (by first | rfl | (simp; done) | (simp [*]; done)), H', ⟨Nat.le_refl _⟩, ⟨zR13 HO518.out⟩, ⟨by (with_reducible repeat (first | apply Kd.S_alloc | apply Kd.S_drewN | apply Kd.S_drew)); exact Kd.S_mono HO521.out (fun _ hk => hk.2)⟩, ⟨zB13_0⟩⟩
 case round =>
  clear H'
  try clear c2
  try clear c2b0
  try clear c2b1
  try clear p2
  try clear c3
  try clear c3b0
  try clear c3b1
  obtain ⟨x7_1, x8_1, rfl, HA, HK1, HO_5, HO_7, HB⟩ := hrel
  cases gk with
  | zero => exact absurd HA.out (by simp [impl_SaveOf.l0])
  | succ k1 =>
   have H := HA.out
   clear HA
   simp only [impl_SaveOf.l0] at H
   by_cases c9 : (wrap64 (x8_1 + 10)) ≤ (l0.length : Int)
   rotate_left
   ·rw [if_neg c9] at H
    have c9b0 : decide ((wrap64 (x8_1 + 10)) ≤ (l0.length : Int)) = false := decide_eq_false c9
    clear c9
    replace H := Option.bind_eq_some_iff.mp H
    obtain ⟨t533, A230, H⟩ := H
    replace H : ((bytes_Equal.f t533 l0).bind fun t536 => (if t536 = true then (some (t515, x7_1, true)) else (some (([] : List Int), ([] : List (S47)), false)))) = some (r1, r2, r3) := H
    have A23 := Aside0.mk A230
    clear A230
    replace H := Option.bind_eq_some_iff.mp H
    obtain ⟨t536, A240, H⟩ := H
    replace H : (if t536 = true then (some (t515, x7_1, true)) else (some (([] : List Int), ([] : List (S47)), false))) = some (r1, r2, r3) := H
    have A24 := Aside0.mk A240
    clear A240
    by_cases c25 : t536 = true
    ·subst c25
     have H1 : (some (t515, x7_1, true)) = some (r1, r2, r3) := by rw [if_pos rfl] at H; exact H
     clear H
     have H := H1
     clear H1
     simp only [Option.some.injEq, Prod.mk.injEq] at H
     obtain ⟨rfl, rfl, rfl⟩ := H
     obtain ⟨Ao26, co26, eo26⟩ := Kd.R_slice HO_5.out
     subst eo26
     obtain ⟨Ao27, co27, eo27⟩ := Kd.S_slice HO_7.out
     subst eo27
     go_wp2_with (first | ((with_reducible refine gate_callee (f := 28) rfl ?_); refine goesL_ (some 43) rfl rfl Try.func28 (by kernel_rfl) rfl #[.slice Ao26 t515.length co26, .slice Ao27 x7_1.length co27] rfl zT13 ?_; (with_reducible refine (impl_SaveBytes.calls k1 _ _ t515 _ _ x7_1 t533 _ ?side1 ?side2 ?side3 ?side4 A23.out).mono ?_); (case side1 => exact zC13 (Kd.R_reads' HO_5.out).2.2); (case side2 => exact (Kd.R_reads' HO_5.out).2.1); (case side3 => exact zC13 (Kd.S_reads' HO_7.out).2.2); (case side4 => exact (Kd.S_reads' HO_7.out).2.1); rintro e w28 ⟨v534, rfl, ho0, hb⟩; refine ⟨_, rfl, ?_⟩; have n0_ := Aside0.mk (Kd.R_below (zR13 HO_5.out) hb); have n1_ := Aside0.mk (Kd.S_below (zS13 HO_7.out) hb); have n2_ := Aside0.mk (Kd.R_lower ho0 (below_size (zB13_0))); have n3_ := Aside0.mk (below_step (zB13_0) hb); clear HO_5; clear HO_7; clear HB; have HO_5 := n0_; have HO_7 := n1_; have HO535 := n2_; have HB := n3_; clear n0_ n1_ n2_ n3_; (try clear hb); (try clear hb2); (try clear hk); (try clear hi); (try clear ho0); obtain ⟨Ao29, co29, eo29⟩ := Kd.R_slice HO535.out; subst eo29) | ((with_reducible refine gate_callee (f := 73) rfl ?_); refine goesL_ (some 45) rfl rfl Try.func73 (by kernel_rfl) rfl #[.slice Ao29 t533.length co29, .slice A0 l0.length c0] rfl zT13 ?_; (with_reducible refine (bytes_Equal.calls _ _ t533 _ _ l0 true _ ?side1 ?side2 ?side3 ?side4 A24.out).mono ?_); (case side1 => exact zC13 (Kd.R_reads' HO535.out).2.2); (case side2 => exact (Kd.R_reads' HO535.out).2.1); (case side3 => exact zC13 (Kd.C_below HR0.out HB.out)); (case side4 => exact HC0.out); rintro e w' ⟨rfl, ⟨nd, rfl⟩⟩; refine ⟨_, rfl, ?_⟩))
     go_ret3
     exact ⟨_, _, zE13, zR13 HO_5.out, zS13 HO_7.out, zB13_0⟩
    replace c25 := Bool.eq_false_iff.mpr c25
    subst c25
    have H1 : (some (([] : List Int), ([] : List (S47)), false)) = some (r1, r2, r3) := by rw [if_neg (show ¬ (false = true) by decide)] at H; exact H
    clear H
    have H := H1
    clear H1
    simp only [Option.some.injEq, Prod.mk.injEq] at H
    obtain ⟨rfl, rfl, rfl⟩ := H
    obtain ⟨Ao30, co30, eo30⟩ := Kd.R_slice HO_5.out
    subst eo30
    obtain ⟨Ao31, co31, eo31⟩ := Kd.S_slice HO_7.out
    subst eo31
    go_wp2_with (first | ((with_reducible refine gate_callee (f := 28) rfl ?_); refine goesL_ (some 43) rfl rfl Try.func28 (by kernel_rfl) rfl #[.slice Ao30 t515.length co30, .slice Ao31 x7_1.length co31] rfl zT13 ?_; (with_reducible refine (impl_SaveBytes.calls k1 _ _ t515 _ _ x7_1 t533 _ ?side1 ?side2 ?side3 ?side4 A23.out).mono ?_); (case side1 => exact zC13 (Kd.R_reads' HO_5.out).2.2); (case side2 => exact (Kd.R_reads' HO_5.out).2.1); (case side3 => exact zC13 (Kd.S_reads' HO_7.out).2.2); (case side4 => exact (Kd.S_reads' HO_7.out).2.1); rintro e w32 ⟨v534, rfl, ho0, hb⟩; refine ⟨_, rfl, ?_⟩; have n0_ := Aside0.mk (Kd.R_below (zR13 HO_5.out) hb); have n1_ := Aside0.mk (Kd.S_below (zS13 HO_7.out) hb); have n2_ := Aside0.mk (Kd.R_lower ho0 (below_size (zB13_0))); have n3_ := Aside0.mk (below_step (zB13_0) hb); clear HO_5; clear HO_7; clear HB; have HO_5 := n0_; have HO_7 := n1_; have HO535 := n2_; have HB := n3_; clear n0_ n1_ n2_ n3_; (try clear hb); (try clear hb2); (try clear hk); (try clear hi); (try clear ho0); obtain ⟨Ao33, co33, eo33⟩ := Kd.R_slice HO535.out; subst eo33) | ((with_reducible refine gate_callee (f := 73) rfl ?_); refine goesL_ (some 45) rfl rfl Try.func73 (by kernel_rfl) rfl #[.slice Ao33 t533.length co33, .slice A0 l0.length c0] rfl zT13 ?_; (with_reducible refine (bytes_Equal.calls _ _ t533 _ _ l0 false _ ?side1 ?side2 ?side3 ?side4 A24.out).mono ?_); (case side1 => exact zC13 (Kd.R_reads' HO535.out).2.2); (case side2 => exact (Kd.R_reads' HO535.out).2.1); (case side3 => exact zC13 (Kd.C_below HR0.out HB.out)); (case side4 => exact HC0.out); rintro e w' ⟨rfl, ⟨nd, rfl⟩⟩; refine ⟨_, rfl, ?_⟩))
    go_ret3
    exact ⟨_, _, zE13, by first | exact Kd.R_nil _ _ _ _ _ | exact Kd.N_nil _ _ _ _ _ | exact Kd.V_nil _ _ _ _ _ | exact Kd.Q_nil _ _ _ _ _ | exact Kd.S_nil _ _ _ _ _, by first | exact Kd.S_nil _ _ _ _ _ | exact Kd.N_nil _ _ _ _ _ | exact Kd.V_nil _ _ _ _ _ | exact Kd.Q_nil _ _ _ _ _ | exact Kd.R_nil _ _ _ _ _, zB13_0⟩
   rw [if_pos c9] at H
   have c9b0 : decide ((wrap64 (x8_1 + 10)) ≤ (l0.length : Int)) = true := decide_eq_true c9
   clear c9
   by_cases c10 : 0 ≤ x8_1
   rotate_left
   ·rw [if_neg c10] at H
    exact absurd H (by simp)
   rw [if_pos c10] at H
   have c10b0 := eq_true c10
   have c10b1 : decide (0 ≤ x8_1) = true := decide_eq_true c10
   clear c10
   by_cases c11 : x8_1 ≤ (wrap64 (x8_1 + 10))
   rotate_left
   ·rw [if_neg c11] at H
    exact absurd H (by simp)
   rw [if_pos c11] at H
   have c11b0 := eq_true c11
   have c11b1 : decide (x8_1 ≤ (wrap64 (x8_1 + 10))) = true := decide_eq_true c11
   have c12b0 := eq_true (zA13 : (wrap64 (x8_1 + 10)) ≤ (l0.length : Int))
   replace H := Option.bind_eq_some_iff.mp H
   obtain ⟨⟨t523, t526, t527, t528⟩, A130, H⟩ := H
   replace H : (if x7_1.length < 3518437208883 then (impl_SaveOf.l0 k1 l0 t515 (x7_1 ++ [(⟨t523, t526, t527⟩ : S47)]) (wrap64 (x8_1 + 10))) else (none)) = some (r1, r2, r3) := H
   have A13 := Aside0.mk A130
   clear A130
   by_cases c14 : x7_1.length < 3518437208883
   rotate_left
   ·rw [if_neg c14] at H
    exact absurd H (by simp)
   rw [if_pos c14] at H
   have LMc14 := Aside0.mk c14
   clear c14
   obtain ⟨y530, hy530⟩ : ∃ y_ : List (S47), y_ = (x7_1 ++ [(⟨t523, t526, t527⟩ : S47)]) := ⟨_, rfl⟩
   replace H : (impl_SaveOf.l0 k1 l0 t515 y530 (wrap64 (x8_1 + 10))) = some (r1, r2, r3) := by first | (rw [hy530]; with_reducible exact H) | (have H2_ := (Option.bind_some _ _).symm.trans H; rw [hy530]; with_reducible exact H2_) | (have H2_ := (Option.bind_some _ _).symm.trans H; with_reducible exact H2_) | with_reducible exact H | (rw [hy530]; exact H) | exact H
   have Ny530 := Aside0.mk hy530
   clear hy530
   have H' := Aside0.mk H
   clear H
   obtain ⟨i015, hi015, _, hsz15, _⟩ := info_parts info5
   obtain ⟨A15, hcut15, hA15, hC15⟩ := print_mid_of (P := Try.prog) (Value.int .u8) 0 22 5 .i64 .i64 Try.underlying22 hi015 hsz15 A0 c0 l0 x8_1 (wrap64 (x8_1 + 10)) (zA13) (by first | omega | exact zA13) (zA13) HC0.out
   have HR522 := Aside0.mk (Kd.C_of_reads (h1 := fun _ => rfl) (hA15 _ (Kd.reads_of_C HR0.out)))
   have HC522 := Aside0.mk hC15
   clear hA15 hC15 hi015 hsz15
   go_wp2_with (first | ((with_reducible refine gate_callee (f := 40) rfl ?_); refine goesL_ (some 34) rfl rfl Try.func40 (by kernel_rfl) rfl #[.slice A15 ((l0.take ((wrap64 (x8_1 + 10)) : Int).toNat).drop (x8_1 : Int).toNat).length (c0 - x8_1.toNat)] rfl (by (try simp only [List.map_toArray, List.map_cons, List.map_nil]); first | done | (rw [show ((l0.take ((wrap64 (x8_1 + 10)) : Int).toNat).drop (x8_1 : Int).toNat).length = ((wrap64 (x8_1 + 10)).toNat - x8_1.toNat) from (by rw [List.length_drop, List.length_take]; have h_ : ((wrap64 (x8_1 + 10)) : Int) ≤ (l0.length : Int) := zA13; omega)] <;> rfl) | rfl | (simp only [List.length_drop, List.length_take]; rfl)) ?_; (with_reducible refine (impl_HartOf.calls k1 _ _ ((l0.take ((wrap64 (x8_1 + 10)) : Int).toNat).drop (x8_1 : Int).toNat) t523 t526 t527 t528 _ ?side1 ?side2 A13.out).mono ?_); (case side1 => exact zC13 (Kd.C_below HR522.out HB.out)); (case side2 => exact HC522.out); rintro e w16 ⟨v524, rfl, ho0, hb⟩; refine ⟨_, rfl, ?_⟩; have n0_ := Aside0.mk (Kd.R_elder' (zR13 HO_5.out) (Kd.R_base ho0) hb); have n1_ := Aside0.mk (Kd.S_elder' (zS13 HO_7.out) (Kd.R_base ho0) hb); have n2_ := Aside0.mk (Kd.R_lower (Kd.R_new' ho0 (Kd.R_lt (zR13 HO_5.out))) (below_size (zB13_0))); have n3_ := Aside0.mk (below_step (zB13_0) hb); clear HO_5; clear HO_7; clear HB; have HO_5 := n0_; have HO_7 := n1_; have HO525 := n2_; have HB := n3_; clear n0_ n1_ n2_ n3_; (try clear hb); (try clear hb2); (try clear hk); (try clear hi); (try clear ho0)) | ((with_reducible refine gate_dst (N := 9) rfl ?_); refine box_event ?hg (N := 9) ?hd (cs := #[.slice none 0 0, .int .i64 0, .int .i64 0]) (t := 47) ?hr ?_; (case hd => rfl); (case hg => rfl); (case hr => first | (go_simp; done) | (go_simp; rfl)); intro gb529 hg w17 hbox hb; have n0_ := Aside0.mk (Kd.R_below (zR13 HO_5.out) hb); have n1_ := Aside0.mk (Kd.S_below (Kd.S_elderB (zS13 HO_7.out) gb529 (Nat.le_of_eq hg.symm)) hb); have n2_ := Aside0.mk (Kd.R_below (zR13 HO525.out) hb); have n3_ := Aside0.mk (below_step (zB13_0) hb); have n4_ := Aside0.mk (hbox); have n5_ := Aside0.mk ((by rw [hg]; exact (below_size (zB13_0)) : w.heap.size ≤ gb529)); have n6_ := Aside0.mk ((by rw [hg]; exact (below_size (zB13_0)) : w.heap.size ≤ gb529)); clear HO_5; clear HO_7; clear HO525; clear HB; have HO_5 := n0_; have HO_7 := n1_; have HO525 := n2_; have HB := n3_; have BK529 := n4_; have GW529 := n5_; have GE529 := n6_; clear n0_ n1_ n2_ n3_ n4_ n5_ n6_; clear hb hbox hg; obtain ⟨Ao18, co18, eo18⟩ := Kd.R_slice HO525.out; subst eo18; obtain ⟨hcz19_0, hcz19_1, hcz19_2, hfz19_0, hfz19_1, hfz19_2⟩ := zc13_3 (w := w17) BK529.out) | ((with_reducible refine gate_store (t := 47) (p := 9) rfl ?_); refine store_event (t := 47) (p := 9) (v := ?vo_w20) (w1 := (((w17.setCell ⟨gb529, 0, none⟩ (.slice Ao18 t523.length co18)).setCell ⟨gb529, 1, none⟩ (.int .i64 t526)).setCell ⟨gb529, 2, none⟩ (.int .i64 t527))) ?hg ?ho ?hn ?hr ?_; (case ho => rfl); (case hg => rfl); (case hn => rfl); (case hr => first | (go_simp; done) | (go_simp; rfl)); intro w20 hw; have n0_ : Aside0 (Kd.R (Kd.int .i64) 3 w20 w.heap.size (fun k_ => some k_ ≠ (.slice Ao18 t523.length co18 : Value).ownBlock) v517 t515) := ⟨(by rw [hw]; exact (by (with_reducible repeat (first | apply Kd.R_alloc | apply Kd.R_drewN | apply Kd.R_drew)); exact Kd.R_mono (Kd.R_far (p := ⟨gb529, 2, none⟩) (Kd.R_far (p := ⟨gb529, 1, none⟩) (Kd.R_far (p := ⟨gb529, 0, none⟩) (Kd.R_types HO_5.out BK529.out (by decide)) (fun _ hk => hk.2) (.slice Ao18 t523.length co18)) (fun _ hk => hk.2) (.int .i64 t526)) (fun _ hk => hk.2) (.int .i64 t527)) (fun _ hk => hk.1.2)))⟩; have n1_ : Aside0 (Kd.S k47 47 w20 w.heap.size (fun k_ => some k_ ≠ (v517 : Value).ownBlock ∧ some k_ ≠ (.slice Ao18 t523.length co18 : Value).ownBlock ∧ k_ ≠ gb529) u7 x7_1) := ⟨(by rw [hw]; exact (by (with_reducible repeat (first | apply Kd.S_alloc | apply Kd.S_drewN | apply Kd.S_drew)); exact Kd.S_mono (Kd.S_far (p := ⟨gb529, 2, none⟩) (Kd.S_far (p := ⟨gb529, 1, none⟩) (Kd.S_far (p := ⟨gb529, 0, none⟩) (Kd.S_mono HO_7.out (fun k_ hk => (⟨hk, hk.2⟩ : _ ∧ k_ ≠ gb529))) (fun _ hk => hk.2) (.slice Ao18 t523.length co18)) (fun _ hk => hk.2) (.int .i64 t526)) (fun _ hk => hk.2) (.int .i64 t527)) (fun _ hk => ⟨hk.1.1.1, ⟨hk.1.1.2, hk.1.2⟩⟩)))⟩; have n2_ : Aside0 (Kd.R (Kd.int .i64) 3 w20 w.heap.size (fun k_ => some k_ ≠ (v517 : Value).ownBlock) (.slice Ao18 t523.length co18) t523) := ⟨(by rw [hw]; exact (by (with_reducible repeat (first | apply Kd.R_alloc | apply Kd.R_drewN | apply Kd.R_drew)); exact Kd.R_mono (Kd.R_far (p := ⟨gb529, 2, none⟩) (Kd.R_far (p := ⟨gb529, 1, none⟩) (Kd.R_far (p := ⟨gb529, 0, none⟩) (Kd.R_types HO525.out BK529.out (by decide)) (fun _ hk => hk.2) (.slice Ao18 t523.length co18)) (fun _ hk => hk.2) (.int .i64 t526)) (fun _ hk => hk.2) (.int .i64 t527)) (fun _ hk => hk.1.2)))⟩; have n3_ : Aside0 (w20.heap[gb529]? = some (.cells #[.slice Ao18 t523.length co18, .int .i64 t526, .int .i64 t527] 47 (0, 0))) := ⟨(by rw [hw]; exact (by refine zP13 ?_; refine blk_put (cs := #[.slice Ao18 t523.length co18, .int .i64 t526, .int .i64 0]) ?_ 2 _ rfl; refine zP13 ?_; refine blk_put (cs := #[.slice Ao18 t523.length co18, .int .i64 0, .int .i64 0]) ?_ 1 _ rfl; refine zP13 ?_; refine blk_put (cs := #[.slice none 0 0, .int .i64 0, .int .i64 0]) ?_ 0 _ rfl; refine zP13 ?_; exact BK529.out))⟩; have n4_ : Aside0 (Below w.heap.size w w20) := ⟨(by rw [hw]; exact (zB13_1))⟩; clear hw; clear HO_5; clear HO_7; clear HO525; clear BK529; clear HB; have HO_5 := n0_; have HO_7 := n1_; have HO525 := n2_; have BK529 := n3_; have HB := n4_; clear n0_ n1_ n2_ n3_ n4_; obtain ⟨hcz21_0, hcz21_1, hcz21_2, hfz21_0, hfz21_1, hfz21_2⟩ := zc13_3 (w := w20) BK529.out) | ((with_reducible refine gate_builtin (b := .append) (xs := #[.tmp 37, .tmp 39]) rfl ?_); at_builtin; refine Kd.S_append k47 (w0 := w) w.heap.size rfl (.tmp 37) (.tmp 39) 33 47 (.agg #[(.slice none 0 0), (.int .i64 0), (.int .i64 0)]) 40 rfl Try.underlying33 info47 rfl (by decide) (by omega) u7 x7_1 (⟨t523, t526, t527⟩ : S47) [.slice Ao18 t523.length co18, .int .i64 t526, .int .i64 t527] (fun k_ => some k_ ≠ (v517 : Value).ownBlock ∧ k_ ≠ gb529) (fun k_ => some k_ = (.slice Ao18 t523.length co18 : Value).ownBlock) rfl rfl ?aP (fun k_ hk_ => ((Kd.R_mono (ok' := fun k_ => ((fun k_ => some k_ ≠ (v517 : Value).ownBlock ∧ k_ ≠ gb529)) k_ ∧ some k_ ≠ (u7 : Value).ownBlock) (Kd.R_types (Kd.R_apart' (HO525.out) (Kd.S_typed HO_7.out) (by decide)) BK529.out (by decide)) (fun k_ hk => ⟨⟨hk.1.1, hk.2⟩, hk.1.2⟩))).1 k_ hk_.symm) ?aF ?aO ?aB ?aS ?aL ?_; (case aP => exact k47_mkM _ _ _ (⟨t523, t526, t527⟩ : S47) (Kd.R_mono (Kd.R_tight rfl (Kd.R_mono (ok' := fun k_ => ((fun k_ => some k_ ≠ (v517 : Value).ownBlock ∧ k_ ≠ gb529)) k_ ∧ some k_ ≠ (u7 : Value).ownBlock) (Kd.R_types (Kd.R_apart' (HO525.out) (Kd.S_typed HO_7.out) (by decide)) BK529.out (by decide)) (fun k_ hk => ⟨⟨hk.1.1, hk.2⟩, hk.1.2⟩))) (fun _ h_ => h_))); (case aB => exact (zB13_1)); (case aF => exact (fun k_ hk => ⟨Kd.fresh' (Kd.R_lt (zR13 HO_5.out)) k_ hk, Kd.freshB (g := gb529) (o := .cells #[.slice Ao18 t523.length co18, .int .i64 t526, .int .i64 t527] 47 (0, 0)) (zK13 BK529.out) k_ hk⟩)); (case aO => exact (by (with_reducible repeat (first | apply Kd.S_alloc | apply Kd.S_drewN | apply Kd.S_drew)); exact Kd.S_mono HO_7.out (fun k_ hk => ⟨⟨hk.1, hk.2.2⟩, fun e_ => hk.2.1 e_⟩))); (case aS => exact (below_size (zB13_1))); (case aL => have := LMc14.out; omega); intro v531 w22 ho hb hg hat; rw [← Ny530.out] at ho; have n0_ := Aside0.mk (Kd.R_over' (zR13 HO_5.out) (Kd.S_typed (zS13 HO_7.out)) (by decide) hg); have n1_ := Aside0.mk (zg13 BK529.out hg (Kd.S_away HO_7.out (fun _ hk => hk.2.2))); have n2_ := Aside0.mk (hb); have n3_ := Aside0.mk (ho); clear HO_5; clear BK529; clear HB; clear HO_7; clear HO525; have HO_5 := n0_; have BK529 := n1_; have HB := n2_; have HO532 := n3_; clear n0_ n1_ n2_ n3_; clear ho hb hg hat))
   go_roundg k1
   case measure => have := HK1.out; omega
   case rel => exact ⟨(y530), (wrap64 (x8_1 + 10)), (by first | rfl | (simp; done) | (simp [*]; done)), H', ⟨by have := HK1.out; omega⟩, ⟨by (with_reducible repeat (first | apply Kd.R_alloc | apply Kd.R_drewN | apply Kd.R_drew)); exact Kd.R_mono HO_5.out (fun _ hk => trivial)⟩, ⟨by (with_reducible repeat (first | apply Kd.S_alloc | apply Kd.S_drewN | apply Kd.S_drew)); exact Kd.S_mono HO532.out (fun _ hk => hk.1)⟩, ⟨zB13_1⟩⟩

/-! ### spec_MemBytes: function 43 -/
def spec_MemBytes.l0 : Nat → List Int → List Int → Int → Option (List Int)
 | 0, _, _, _ => none
 | k + 1, x0, x3, x4 => if x4 < (x0.length : Int) then ((spec_l1Words.f k x0 24).bind fun t540 => (if t540 = true then (if 0 ≤ x4 then ((some (([((rd x0 x4) / 256) % 256, (Go.bits .and .i64 (rd x0 x4) 255) % 256] : List Int) : List Int)).bind fun y543 => (if x3.length + y543.length < 140737488355328 then (spec_MemBytes.l0 k x0 (x3 ++ y543) (wrap64 (x4 + 1))) else (none))) else (none)) else (some x3))) else (some x3)
def spec_MemBytes.f (k : Nat) (l0 : List Int) : Option (List Int) := spec_MemBytes.l0 k l0 (([] : List Int)) 0
theorem spec_MemBytes.mono_l : ∀ k, (∀ y0 y1 y2, LeO (spec_MemBytes.l0 k y0 y1 y2) (spec_MemBytes.l0 (k + 1) y0 y1 y2))
 | 0 => fun _ _ _ r h => by simp [spec_MemBytes.l0] at h
 | k + 1 => by
  have ih0 := spec_MemBytes.mono_l k
  ·intro y0 y1 y2
   unfold spec_MemBytes.l0
   repeat' first
   | (with_reducible exact ih0 _ _ _)
   | (with_reducible exact spec_l1Words.mono _ _ _)
   | (with_reducible exact LeO.refl _)
   | (with_reducible exact LeO.none _)
   | (with_reducible refine LeO.ite ?_ ?_)
   | (with_reducible refine LeO.bind ?_ (fun _ => ?_))
   | exact ih0 _ _ _
   | exact spec_l1Words.mono _ _ _
   | exact LeO.none _
   | refine LeO.ite ?_ ?_
   | refine LeO.bind ?_ (fun _ => ?_)
theorem spec_MemBytes.mono : ∀ a0 k, LeO (spec_MemBytes.f k a0) (spec_MemBytes.f (k + 1) a0) := by
 intro a0 k
 have ih0 := spec_MemBytes.mono_l k
 unfold spec_MemBytes.f
 repeat' first
   | (with_reducible exact ih0 _ _ _)
   | (with_reducible exact spec_l1Words.mono _ _ _)
   | (with_reducible exact LeO.refl _)
   | (with_reducible exact LeO.none _)
   | (with_reducible refine LeO.ite ?_ ?_)
   | (with_reducible refine LeO.bind ?_ (fun _ => ?_))
   | exact ih0 _ _ _
   | exact spec_l1Words.mono _ _ _
   | exact LeO.none _
   | refine LeO.ite ?_ ?_
   | refine LeO.bind ?_ (fun _ => ?_)
def spec_MemBytes.T5 : Bool × List (List Nat × List Nat) := (true, [([], []), ([], []), ([], []), ([1, 2], [1, 2]), ([3], [3]), ([4], [4]), ([5], [5]), ([], []), ([], []), ([7, 8], [7, 8]), ([9], [9]), ([10], [10]), ([11], [11]), ([6, 12], [6, 12]), ([0, 13], [0, 13]), ([14, 14, 0, 1, 2, 3, 4, 5, 6, 7, 8, 9, 10, 11, 12, 13, 14], [0, 14])])
def spec_MemBytes.B5 : List Nat := [0, 0, 0, 6, 14, 30, 62, 0, 0, 384, 896, 1920, 3968, 8190, 16383, 32767]
theorem spec_MemBytes.tab5 : rtab .any (opsOf Try.f43 5) = spec_MemBytes.T5 := by kernel_rfl
theorem spec_MemBytes.bits5 : waitsOk spec_MemBytes.T5.2 spec_MemBytes.B5 = true := by kernel_rfl
set_option maxHeartbeats 8000000 in
set_option maxRecDepth 100000 in
theorem spec_MemBytes.calls (k : Nat) (A0 : Option Addr) (c0 : Nat) (l0 : List Int) (r : List Int) (w : World) (hr0 : Kd.C (Kd.int .i64) w A0 l0.length l0) (hc0 : l0.length ≤ c0) (h : spec_MemBytes.f k l0 = some r) :
  Calls Try.prog 43 #[.slice A0 l0.length c0] w fun e w' => ∃ v0_ : Value, e = .returned (v0_) ∧ Kd.R (Kd.int .u8) 5 w' w.heap.size (fun _ => True) v0_ r ∧ Below w.heap.size w w' := by
 have HR0 := Aside0.mk hr0
 have HC0 := Aside0.mk hc0
 clear hr0 hc0
 have HB := Aside0.mk (Below.refl w.heap.size w)
 have H : (spec_MemBytes.l0 k l0 (([] : List Int)) 0) = some r := h
 clear h
 obtain ⟨y537, hy537⟩ : ∃ y_ : List Int, y_ = (([] : List Int)) := ⟨_, rfl⟩
 replace H : (spec_MemBytes.l0 k l0 y537 0) = some r := by first | (rw [hy537]; with_reducible exact H) | (have H2_ := (Option.bind_some _ _).symm.trans H; rw [hy537]; with_reducible exact H2_) | (have H2_ := (Option.bind_some _ _).symm.trans H; with_reducible exact H2_) | with_reducible exact H | (rw [hy537]; exact H) | exact H
 have Ny537 := Aside0.mk hy537
 clear hy537
 have H' := Aside0.mk H
 clear H
 go_enter Try.func43, Try.ntmps43
 go_wp2_with (first | ((with_reducible refine gate_dst (N := 5) rfl ?_); refine Kd.R_lit (Kd.int .u8) _ 5 ?hg (N := 5) ?hd (xs := ([] : List Int)) (inner := []) (ok := fun _ => True) (okp := fun _ => True) ?hr ?hp (fun _ hk => hk) trivial (Below.refl _ _) (Nat.le_refl _) (by simp) ?_; (case hd => rfl); (case hg => rfl); (case hr => first | (go_simp; done) | (go_simp; rfl)); (case hp => exact (Reps.none _ _)); intro v538 w2 ho3 hb hg_ hnew_; clear hg_ hnew_; (first | rw [← Ny537.out] at ho3 | (simp only [Int.reduceToNat] at ho3; rw [← Ny537.out] at ho3)); have n0_ := Aside0.mk (Kd.R_lower ho3 (below_size (zB13_0))); have n1_ := Aside0.mk (below_step (zB13_0) hb); clear HB; have HO539 := n0_; have HB := n1_; clear n0_ n1_; clear hb ho3))
 go_loopg [3, 4] k (fun kq v3 v4 w' => ∃ (x3_1 : List Int) (x4_1 : Int), v4 = .int .i64 x4_1 ∧ Aside0 (spec_MemBytes.l0 kq l0 x3_1 x4_1 = some r) ∧ Aside0 (kq ≤ k) ∧ Aside0 (Kd.R (Kd.int .u8) 5 w' w.heap.size (fun _ => True) v3 x3_1) ∧ Aside0 (Below w.heap.size w w'))
 case atStart => exact ⟨(y537), (0), (by first | rfl | (simp; done) | (simp [*]; done)), H', ⟨Nat.le_refl _⟩, ⟨zR13 HO539.out⟩, ⟨zB13_0⟩⟩
 case round =>
  clear H'
  try clear p2
  obtain ⟨x3_1, x4_1, rfl, HA, HK1, HO_3, HB⟩ := hrel
  cases gk with
  | zero => exact absurd HA.out (by simp [spec_MemBytes.l0])
  | succ k1 =>
   have H := HA.out
   clear HA
   simp only [spec_MemBytes.l0] at H
   by_cases c4 : x4_1 < (l0.length : Int)
   rotate_left
   ·rw [if_neg c4] at H
    have c4b0 : decide (x4_1 < (l0.length : Int)) = false := decide_eq_false c4
    clear c4
    obtain rfl := Option.some.inj H
    go_wp2
    go_ret
    exact ⟨_, zE13, zR13 HO_3.out, zB13_0⟩
   rw [if_pos c4] at H
   have c4b0 : decide (x4_1 < (l0.length : Int)) = true := decide_eq_true c4
   clear c4
   replace H := Option.bind_eq_some_iff.mp H
   obtain ⟨t540, A50, H⟩ := H
   replace H : (if t540 = true then (if 0 ≤ x4_1 then ((some (([((rd l0 x4_1) / 256) % 256, (Go.bits .and .i64 (rd l0 x4_1) 255) % 256] : List Int) : List Int)).bind fun y543 => (if x3_1.length + y543.length < 140737488355328 then (spec_MemBytes.l0 k1 l0 (x3_1 ++ y543) (wrap64 (x4_1 + 1))) else (none))) else (none)) else (some x3_1)) = some r := H
   have A5 := Aside0.mk A50
   clear A50
   by_cases c6 : t540 = true
   rotate_left
   ·replace c6 := Bool.eq_false_iff.mpr c6
    subst c6
    have H1 : (some x3_1) = some r := by rw [if_neg (show ¬ (false = true) by decide)] at H; exact H
    clear H
    have H := H1
    clear H1
    obtain rfl := Option.some.inj H
    go_wp2_with (first | (go_at_call 54; (with_reducible refine (spec_l1Words.calls k1 _ _ l0 24 false _ ?side1 ?side2 A5.out).mono ?_); (case side1 => exact zC13 (Kd.C_below HR0.out HB.out)); (case side2 => exact HC0.out); rintro e w' ⟨rfl, ⟨nd, rfl⟩⟩))
    go_ret
    exact ⟨_, zE13, zR13 HO_3.out, zB13_0⟩
   subst c6
   have H1 : (if 0 ≤ x4_1 then ((some (([((rd l0 x4_1) / 256) % 256, (Go.bits .and .i64 (rd l0 x4_1) 255) % 256] : List Int) : List Int)).bind fun y543 => (if x3_1.length + y543.length < 140737488355328 then (spec_MemBytes.l0 k1 l0 (x3_1 ++ y543) (wrap64 (x4_1 + 1))) else (none))) else (none)) = some r := by rw [if_pos rfl] at H; exact H
   clear H
   have H := H1
   clear H1
   by_cases c7 : 0 ≤ x4_1
   rotate_left
   ·rw [if_neg c7] at H
    exact absurd H (by simp)
   rw [if_pos c7] at H
   have c7b0 : decide (0 ≤ x4_1) = true := decide_eq_true c7
   clear c7
   obtain ⟨y543, hy543⟩ : ∃ y_ : List Int, y_ = (([((rd l0 x4_1) / 256) % 256, (Go.bits .and .i64 (rd l0 x4_1) 255) % 256] : List Int)) := ⟨_, rfl⟩
   replace H : (if x3_1.length + y543.length < 140737488355328 then (spec_MemBytes.l0 k1 l0 (x3_1 ++ y543) (wrap64 (x4_1 + 1))) else (none)) = some r := by first | (rw [hy543]; with_reducible exact H) | (have H2_ := (Option.bind_some _ _).symm.trans H; rw [hy543]; with_reducible exact H2_) | (have H2_ := (Option.bind_some _ _).symm.trans H; with_reducible exact H2_) | with_reducible exact H | (rw [hy543]; exact H) | exact H
   have Ny543 := Aside0.mk hy543
   clear hy543
   by_cases c8 : x3_1.length + y543.length < 140737488355328
   rotate_left
   ·rw [if_neg c8] at H
    exact absurd H (by simp)
   rw [if_pos c8] at H
   have LMc8 := Aside0.mk c8
   clear c8
   obtain ⟨y546, hy546⟩ : ∃ y_ : List Int, y_ = (x3_1 ++ y543) := ⟨_, rfl⟩
   replace H : (spec_MemBytes.l0 k1 l0 y546 (wrap64 (x4_1 + 1))) = some r := by first | (rw [hy546]; with_reducible exact H) | (have H2_ := (Option.bind_some _ _).symm.trans H; rw [hy546]; with_reducible exact H2_) | (have H2_ := (Option.bind_some _ _).symm.trans H; with_reducible exact H2_) | with_reducible exact H | (rw [hy546]; exact H) | exact H
   have Ny546 := Aside0.mk hy546
   clear hy546
   have H' := Aside0.mk H
   clear H
   try go_wp2_with (first | (go_at_call 54; (with_reducible refine (spec_l1Words.calls k1 _ _ l0 24 true _ ?side1 ?side2 A5.out).mono ?_); (case side1 => exact zC13 (Kd.C_below HR0.out HB.out)); (case side2 => exact HC0.out); rintro e w' ⟨rfl, ⟨nd, rfl⟩⟩))
   (try (rw [drewN_self wr]; generalize hq_ : World.drewN wr _ = wr; have n0_ : Aside0 (Kd.R (Kd.int .u8) 5 wr w.heap.size (fun _ => True) u3 x3_1) := ⟨by rw [← hq_]; exact (zR13 HO_3.out)⟩; have n1_ : Aside0 (Below w.heap.size w wr) := ⟨by rw [← hq_]; exact (zB13_0)⟩; clear HO_3 HB hq_; have HO_3 := n0_; have HB := n1_; clear n0_ n1_))
   have n0_ := Aside0.mk (Kd.R_drew HO_3.out)
   have n1_ := Aside0.mk (below_drew1 HB.out)
   clear HO_3 HB
   have HO_3 := n0_
   have HB := n1_
   clear n0_ n1_
   have p541 : 0 ≤ (x4_1 : Int) := zA13
   have q541 : x4_1 < (l0.length : Int) := zA13
   obtain ⟨ad541, e541, hx541_0⟩ := Kd.at_int HR0.out x4_1 p541 q541
   have hw541_0 := hx541_0
   cases e541
   replace hx541_0 := (HB.out.cell (World.block_lt_of_cell? w _ hx541_0)).trans hx541_0
   replace p541 := eq_true p541
   replace q541 := eq_true q541
   have p542 : 0 ≤ (x4_1 : Int) := zA13
   have q542 : x4_1 < (l0.length : Int) := zA13
   obtain ⟨ad542, e542, hx542_0⟩ := Kd.at_int HR0.out x4_1 p542 q542
   have hw542_0 := hx542_0
   obtain rfl : ad541 = ad542 := (by injection e542)
   replace hx542_0 := (HB.out.cell (World.block_lt_of_cell? w _ hx542_0)).trans hx542_0
   replace p542 := eq_true p542
   replace q542 := eq_true q542
   refine start_ (n := 16) (S := fun w' => w'.cell? (ad541.add (x4_1).toNat) = some (.int .i64 (rd l0 x4_1)) ∧ w'.cell? (ad541.add (x4_1).toNat) = some (.int .i64 (rd l0 x4_1))) (ds := []) #[false, false, false, false, false, false, false, false, false, false, false, false, false, false, false, false] (by kernel_rfl) rfl rfl ⟨((HB.out.cell (World.block_lt_of_cell? w _ hw541_0)).trans hw541_0), ((HB.out.cell (World.block_lt_of_cell? w _ hw542_0)).trans hw542_0)⟩ (fun hHeld => ?_); refine with_tabW spec_MemBytes.tab5 spec_MemBytes.bits5 (fun HT_ HW_ => ?_)
   generalize wr.drew = w9 at HO_3 HB hx541_0 hx542_0 hHeld ⊢
   refine pure_ (i := 0) (N := some 16) (v := ?_) (a' := ?_) #[true, false, false, false, false, false, false, false, false, false, false, false, false, false, false, false] rfl rfl (any_of HT_.out (by kernel_rfl)) (fun _ _ _ h => h) (Or.inl ⟨by rfl, ?_⟩) ?_ ?_
   rotate_left
   ·intro w'
    go_simp
    with_reducible rfl
   rotate_left
   ·exact zV13
   refine pure_ (i := 1) (N := some 17) (v := ?_) (a' := ?_) #[true, true, false, false, false, false, false, false, false, false, false, false, false, false, false, false] rfl rfl (any_of HT_.out (by kernel_rfl)) (fun _ _ _ h => h) (Or.inl ⟨by rfl, ?_⟩) ?_ ?_
   rotate_left
   ·intro w'
    go_simp
    with_reducible rfl
   rotate_left
   ·exact zV13
   refine pure_ (i := 2) (N := some 18) (v := ?_) (a' := ?_) #[true, true, true, false, false, false, false, false, false, false, false, false, false, false, false, false] rfl rfl (any_of HT_.out (by kernel_rfl)) (fun _ _ _ h => h) (Or.inl ⟨by rfl, ?_⟩) ?_ ?_
   rotate_left
   ·intro w'
    go_simp
    with_reducible rfl
   rotate_left
   ·exact zV13
   refine pure_ (i := 3) (N := some 19) (v := ?_) (a' := ?_) #[true, true, true, true, false, false, false, false, false, false, false, false, false, false, false, false] rfl rfl (any_of HT_.out (by kernel_rfl)) (fun _ _ _ h => h) (Or.inl ⟨by rfl, ?_⟩) ?_ ?_
   rotate_left
   ·intro w'
    go_simp
    with_reducible rfl
   rotate_left
   ·exact zV13
   refine pure_ (i := 7) (N := some 23) (v := ?_) (a' := ?_) #[true, true, true, true, false, false, false, true, false, false, false, false, false, false, false, false] rfl rfl (any_of HT_.out (by kernel_rfl)) (fun _ _ _ h => h) (Or.inl ⟨by rfl, ?_⟩) ?_ ?_
   rotate_left
   ·intro w'
    go_simp
    with_reducible rfl
   rotate_left
   ·exact zV13
   refine pure_ (i := 8) (N := some 24) (v := ?_) (a' := ?_) #[true, true, true, true, false, false, false, true, true, false, false, false, false, false, false, false] rfl rfl (any_of HT_.out (by kernel_rfl)) (fun _ _ _ h => h) (Or.inl ⟨by rfl, ?_⟩) ?_ ?_
   rotate_left
   ·intro w'
    go_simp
    with_reducible rfl
   rotate_left
   ·exact zV13
   refine pure_ (i := 9) (N := some 25) (v := ?_) (a' := ?_) #[true, true, true, true, false, false, false, true, true, true, false, false, false, false, false, false] rfl rfl (any_of HT_.out (by kernel_rfl)) (fun _ _ _ h => h) (Or.inl ⟨by rfl, ?_⟩) ?_ ?_
   rotate_left
   ·intro w'
    go_simp
    with_reducible rfl
   rotate_left
   ·exact zV13
   refine take_ (i := 4) (N := some 20) (v := ?_) (a' := ?_) #[true, true, true, true, true, false, false, true, true, true, false, false, false, false, false, false] rfl rfl (take_ofW HT_.out HW_.out (by kernel_rfl)) (fun _ _ _ h => h) (Or.inl ⟨by rfl, ?_⟩) hHeld ?_ ?_
   rotate_left
   ·rintro w' ⟨s0, s1⟩
    go_simp
    with_reducible rfl
   rotate_left
   ·exact zV13
   refine pure_ (i := 5) (N := some 21) (v := ?_) (a' := ?_) #[true, true, true, true, true, true, false, true, true, true, false, false, false, false, false, false] rfl rfl (any_of HT_.out (by kernel_rfl)) (fun _ _ _ h => h) (Or.inl ⟨by rfl, ?_⟩) ?_ ?_
   rotate_left
   ·intro w'
    go_simp
    with_reducible rfl
   rotate_left
   ·exact zV13
   refine pure_ (i := 6) (N := some 22) (v := ?_) (a' := ?_) #[true, true, true, true, true, true, true, true, true, true, false, false, false, false, false, false] rfl rfl (any_of HT_.out (by kernel_rfl)) (fun _ _ _ h => h) (Or.inl ⟨by rfl, ?_⟩) ?_ ?_
   rotate_left
   ·intro w'
    go_simp
    with_reducible rfl
   rotate_left
   ·exact zV13
   refine take_ (i := 10) (N := some 26) (v := ?_) (a' := ?_) #[true, true, true, true, true, true, true, true, true, true, true, false, false, false, false, false] rfl rfl (take_ofW HT_.out HW_.out (by kernel_rfl)) (fun _ _ _ h => h) (Or.inl ⟨by rfl, ?_⟩) hHeld ?_ ?_
   rotate_left
   ·rintro w' ⟨s0, s1⟩
    go_simp
    with_reducible rfl
   rotate_left
   ·exact zV13
   refine pure_ (i := 11) (N := some 27) (v := ?_) (a' := ?_) #[true, true, true, true, true, true, true, true, true, true, true, true, false, false, false, false] rfl rfl (any_of HT_.out (by kernel_rfl)) (fun _ _ _ h => h) (Or.inl ⟨by rfl, ?_⟩) ?_ ?_
   rotate_left
   ·intro w'
    go_simp
    with_reducible rfl
   rotate_left
   ·exact zV13
   refine pure_ (i := 12) (N := some 28) (v := ?_) (a' := ?_) #[true, true, true, true, true, true, true, true, true, true, true, true, true, false, false, false] rfl rfl (any_of HT_.out (by kernel_rfl)) (fun _ _ _ h => h) (Or.inl ⟨by rfl, ?_⟩) ?_ ?_
   rotate_left
   ·intro w'
    go_simp
    with_reducible rfl
   rotate_left
   ·exact zV13
   refine one_ (i := 13) (N := some 29) #[true, true, true, true, true, true, true, true, true, true, true, true, true, true, false, false] rfl rfl (one_of HT_.out (by kernel_rfl)) (by decide) (fun K hK => ?_)
   refine Kd.R_lit_step (Kd.int .u8) _ 5 ?hg (N := 29) ?hd (xs := ([((rd l0 x4_1) / 256) % 256, (Go.bits .and .i64 (rd l0 x4_1) 255) % 256] : List Int)) (inner := [.int .u8 (((rd l0 x4_1) / 256) % 256), .int .u8 ((Go.bits .and .i64 (rd l0 x4_1) 255) % 256)]) (ok := fun _ => True) (okp := fun _ => True) ?hr ?hp (fun _ hk => hk) trivial (Below.refl _ _) (Nat.le_refl _) (by simp) ?_; (case hd => rfl); (case hg => rfl); (case hr => first | (go_simp; done) | (go_simp; rfl)); (case hp => exact (Reps.one (show Kd.M (Kd.int .u8) _ _ _ (((rd l0 x4_1) / 256) % 256) [.int .u8 (((rd l0 x4_1) / 256) % 256)] from rfl) (Reps.one (show Kd.M (Kd.int .u8) _ _ _ ((Go.bits .and .i64 (rd l0 x4_1) 255) % 256) [.int .u8 ((Go.bits .and .i64 (rd l0 x4_1) 255) % 256)] from rfl) (Reps.none _ _))))
   intro v544 w10 ho11 hb hg_ hnew_
   clear hg_ hnew_
   (first | rw [← Ny543.out] at ho11 | (simp only [Int.reduceToNat] at ho11; rw [← Ny543.out] at ho11))
   have n0_ := Aside0.mk (Kd.R_elder' (zR13 HO_3.out) (Kd.R_base ho11) hb)
   have n1_ := Aside0.mk (Kd.R_lower (Kd.R_new' ho11 (Kd.R_lt (zR13 HO_3.out))) (below_size (zB13_0)))
   have n2_ := Aside0.mk (below_step (zB13_0) hb)
   clear HO_3 HB
   have HO_3 := n0_
   have HO545 := n1_
   have HB := n2_
   clear n0_ n1_ n2_ hb ho11
   obtain ⟨Ao13, co13, eo13⟩ := Kd.R_slice HO545.out
   (first | subst eo13 | (injection eo13 with f1_ f2_ f3_; have f4_ := f1_.symm; have f5_ := f3_.symm; clear f1_ f2_ f3_; subst f4_; subst f5_))
   refine hK.out _ _ ⟨((HB.out.cell (World.block_lt_of_cell? w _ hw541_0)).trans hw541_0), ((HB.out.cell (World.block_lt_of_cell? w _ hw542_0)).trans hw542_0)⟩ (fun hHeld => ?_)
   clear hK K
   refine norm_ (a' := ?_) ?_ ?_
   rotate_left
   ·show Act.put _ (some 29) _ = _
    simp only [Act.put, List.setIfInBounds_toArray, List.set_cons_zero, List.set_cons_succ, i64_w, i32_w]
    rfl
   refine one_ (i := 14) (N := some 30) #[true, true, true, true, true, true, true, true, true, true, true, true, true, true, true, false] rfl rfl (one_of HT_.out (by kernel_rfl)) (by decide) (fun K hK => ?_)
   refine Kd.R_append_rows_step (Kd.int .u8) (w0 := w) w.heap.size (by rfl) (.tmp 16) (.tmp 29) 22 5 (.int .u8 0) 1 rfl Try.underlying22 info5 rfl (by decide) (by omega) u3 x3_1 y543 _ _ _ (fun k_ => some k_ ≠ (.slice Ao13 y543.length co13 : Value).ownBlock) (fun _ => False) rfl rfl ?aO ?aR (fun _ _ h => h) (fun _ h => h.elim) ?aF ?aB ?aS ?aL ?_
   (case aR => exact zC13 (Kd.R_reads' HO545.out).2.2)
   (case aB => exact (zB13_0))
   (case aF => exact (fun k_ hk => Kd.fresh' (Kd.R_lt (zR13 HO545.out)) k_ hk))
   (case aO => exact (by (with_reducible repeat (first | apply Kd.R_alloc | apply Kd.R_drewN | apply Kd.R_drew)); exact Kd.R_mono HO_3.out (fun _ hk => hk.2)))
   (case aS => exact (below_size (zB13_0)))
   (case aL => have := LMc8.out; omega)
   intro v547 w12 ho hb hg hat
   rw [← Ny546.out] at ho
   have n0_ := Aside0.mk (Kd.R_after (ok := (fun _ => True)) (zR13 HO545.out) hg hat)
   have n1_ := Aside0.mk (hb)
   have n2_ := Aside0.mk (ho)
   clear HO545 HB HO_3
   have HO545 := n0_
   have HB := n1_
   have HO548 := n2_
   clear n0_ n1_ n2_ ho hb hg hat
   refine hK.out _ _ ⟨((HB.out.cell (World.block_lt_of_cell? w _ hw541_0)).trans hw541_0), ((HB.out.cell (World.block_lt_of_cell? w _ hw542_0)).trans hw542_0)⟩ (fun hHeld => ?_)
   clear hK K
   refine norm_ (a' := ?_) ?_ ?_
   rotate_left
   ·show Act.put _ (some 30) _ = _
    simp only [Act.put, List.setIfInBounds_toArray, List.set_cons_zero, List.set_cons_succ, i64_w, i32_w]
    rfl
   refine pure_ (i := 15) (N := some 3) (v := ?_) (a' := ?_) #[true, true, true, true, true, true, true, true, true, true, true, true, true, true, true, true] rfl rfl (any_of HT_.out (by kernel_rfl)) (fun _ _ _ h => h) (Or.inl ⟨by rfl, ?_⟩) ?_ ?_
   rotate_left
   ·intro w'
    go_simp
    with_reducible rfl
   rotate_left
   ·exact zV13
   refine done_ (done_of HT_.out (by kernel_rfl)) ?_
   try go_wp2
   go_roundg k1
   case measure => have := HK1.out; omega
   case rel => exact ⟨(y546), (wrap64 (x4_1 + 1)), (by first | rfl | (simp; done) | (simp [*]; done)), H', ⟨by have := HK1.out; omega⟩, ⟨by (with_reducible repeat (first | apply Kd.R_alloc | apply Kd.R_drewN | apply Kd.R_drew)); exact Kd.R_mono HO548.out (fun _ hk => trivial)⟩, ⟨zB13_0⟩⟩

end Go.Proofs.Ytajhfpeijagpnaa.PFnResumes
