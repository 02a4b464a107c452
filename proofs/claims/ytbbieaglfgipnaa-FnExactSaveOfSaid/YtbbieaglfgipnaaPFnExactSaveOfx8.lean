-- made by wip/tools/myprint.py out of the seat's translation
import Derived.Test.YtbbieaglfgipnaaPFnExactSaveOfx0
import Derived.Test.YtbbieaglfgipnaaPFnExactSaveOfx1
import Derived.Test.YtbbieaglfgipnaaPFnExactSaveOfx2
import Derived.Test.YtbbieaglfgipnaaPFnExactSaveOfx4
import Derived.Test.YtbbieaglfgipnaaPFnExactSaveOfx5
import Derived.Test.YtbbieaglfgipnaaPFnExactSaveOfx6
import Derived.Test.YtbbieaglfgipnaaPFnExactSaveOfx7
namespace Go.Proofs.Ytbbieaglfgipnaa.PFnExactSaveOf
open Go.RowKit Go.Proofs.YtbbieaglfgipnaaW.PrintWords Go.Proofs.YtbbieaglfgipnaaW.PrintLast Go.Proofs.YtbbieaglfgipnaaW.PrintMore
attribute [local go_sem] max2_int min2_int max_two min_two max_three min_three max_four min_four   -- for this text's walks alone
set_option linter.unusedVariables false
set_option linter.unusedSimpArgs false
theorem zc8_3 {w : World} {g : Nat} {a0 a1 a2 : Value} {t : TypeId} (h : w.heap[g]? = some (.cells #[a0, a1, a2] t (0, 0))) : w.cell? ⟨g, 0, none⟩ = some a0 ∧ w.cell? ⟨g, 1, none⟩ = some a1 ∧ w.cell? ⟨g, 2, none⟩ = some a2 ∧ w.frozen? ⟨g, 0, none⟩ = false ∧ w.frozen? ⟨g, 1, none⟩ = false ∧ w.frozen? ⟨g, 2, none⟩ = false := ⟨(blk_cell h 0).trans rfl, (blk_cell h 1).trans rfl, (blk_cell h 2).trans rfl, blk_frozen h 0, blk_frozen h 1, blk_frozen h 2⟩
theorem zR8 {p q : Prop} (x : q) (h : q → p := by intro h; (with_reducible repeat (first | apply Kd.R_alloc | apply Kd.R_drewN | apply Kd.R_drew)); exact h) : p := h x
theorem zK8 {p q : Prop} (x : q) (h : q → p := by intro h; (with_reducible repeat (first | refine blk_drewN ?_ _ | refine blk_drew ?_ | refine blk_alloc ?_ _)); exact h) : p := h x
theorem zA8 {p : Prop} [Decidable p] (h : decide p = true := by first | (with_reducible assumption) | assumption) : p := of_decide_eq_true h
theorem zT8 {p : Prop} (h : p := by (try simp only [List.map_toArray, List.map_cons, List.map_nil]); first | done | rfl | (simp only [List.length_drop, List.length_take]; rfl)) : p := h
theorem zC8 {p q : Prop} (x : q) (h : q → p := by intro h; repeat (first | exact h | (with_reducible refine Kd.C_alloc ?_ _) | (with_reducible refine Kd.C_drewN ?_ _) | (with_reducible refine Kd.C_drew ?_))) : p := h x
theorem zg8 {W w w1 : World} {g : Nat} {o : Obj} {row : Option Nat} (x : W.heap[g]? = some o) (hg : w.grownBy w1 row) (hne : some g ≠ row) (h : W.heap[g]? = some o → w.heap[g]? = some o := by intro h; (with_reducible repeat (first | refine blk_drewN ?_ _ | refine blk_drew ?_ | refine blk_alloc ?_ _)); exact h) : w1.heap[g]? = some o := blk_grown (h x) hg hne
theorem zP8 {p q : Prop} (x : q) (h : q → p := by intro h; (with_reducible repeat (first | refine blk_drewN ?_ _ | refine blk_drew ?_ | refine blk_alloc ?_ _)); exact h) : p := h x
theorem zE8 {p : Prop} (h : p := by first | rfl | (simp [errW_none, errW_some] <;> rfl) | (simp [*, errW_none, errW_some] <;> rfl)) : p := h
theorem zB8_0 {p : Prop} (h : p := by repeat (first | (with_reducible first | exact HB.out | apply below_alloc | apply pw_below_drewN | apply below_drew1) | exact HB.out)) : p := h
theorem zB8_1 {p : Prop} (h : p := by repeat (first | (with_reducible first | exact HB.out | apply below_alloc | apply pw_below_drewN | apply below_drew1 | refine below_set ?_ GE261.out) | exact HB.out)) : p := h

/-! ### impl_SaveOf: function 41 -/
def impl_SaveOf.l0 : Nat → List Int → List Int → List (S90) → Int → Option (List Int × (List (S90)) × Bool)
 | 0, _, _, _, _ => none
 | k + 1, x0, x5, x7, x8 => if (wrap64 (x8 + 10)) ≤ (x0.length : Int) then (if 0 ≤ x8 then (if x8 ≤ (wrap64 (x8 + 10)) then ((impl_HartOf.f k ((x0.take ((wrap64 (x8 + 10)) : Int).toNat).drop (x8 : Int).toNat)).bind fun bt255 => (if x7.length < 3518437208883 then (impl_SaveOf.l0 k x0 x5 (x7 ++ [(⟨bt255.1, bt255.2.1, bt255.2.2.1⟩ : S90)]) (wrap64 (x8 + 10))) else (none))) else (none)) else (none)) else ((impl_SaveBytes.f k x5 x7).bind fun t265 => ((bytes_Equal.f t265 x0).bind fun t268 => (if t268 = true then (some (x5, x7, true)) else (some (([] : List Int), ([] : List (S90)), false)))))
def impl_SaveOf.f (k : Nat) (l0 : List Int) : Option (List Int × (List (S90)) × Bool) := if (l0.length : Int) < 49 then (some (([] : List Int), ([] : List (S90)), false)) else (if 49 ≤ (l0.length : Int) then ((impl_MemOf.f k ((l0.take 49).drop 1)).bind fun bt247 => (impl_SaveOf.l0 k l0 bt247.1 (([] : List (S90))) 49)) else (none))
theorem impl_SaveOf.mono_l : ∀ k, (∀ y0 y1 y2 y3, LeO (impl_SaveOf.l0 k y0 y1 y2 y3) (impl_SaveOf.l0 (k + 1) y0 y1 y2 y3))
 | 0 => fun _ _ _ _ r h => by simp [impl_SaveOf.l0] at h
 | k + 1 => by
  have ih0 := impl_SaveOf.mono_l k
  ·intro y0 y1 y2 y3
   unfold impl_SaveOf.l0
   repeat' first
   | (with_reducible exact ih0 _ _ _ _)
   | (with_reducible exact impl_HartOf.mono _ _)
   | (with_reducible exact impl_MemOf.mono _ _)
   | (with_reducible exact impl_SaveBytes.mono _ _ _)
   | (with_reducible exact LeO.refl _)
   | (with_reducible exact LeO.none _)
   | (with_reducible refine LeO.ite ?_ ?_)
   | (with_reducible refine LeO.bind ?_ (fun _ => ?_))
   | exact ih0 _ _ _ _
   | exact impl_HartOf.mono _ _
   | exact impl_MemOf.mono _ _
   | exact impl_SaveBytes.mono _ _ _
   | exact LeO.none _
   | refine LeO.ite ?_ ?_
   | refine LeO.bind ?_ (fun _ => ?_)
theorem impl_SaveOf.mono : ∀ a0 k, LeO (impl_SaveOf.f k a0) (impl_SaveOf.f (k + 1) a0) := by
 intro a0 k
 have ih0 := impl_SaveOf.mono_l k
 unfold impl_SaveOf.f
 repeat' first
   | (with_reducible exact ih0 _ _ _ _)
   | (with_reducible exact impl_HartOf.mono _ _)
   | (with_reducible exact impl_MemOf.mono _ _)
   | (with_reducible exact impl_SaveBytes.mono _ _ _)
   | (with_reducible exact LeO.refl _)
   | (with_reducible exact LeO.none _)
   | (with_reducible refine LeO.ite ?_ ?_)
   | (with_reducible refine LeO.bind ?_ (fun _ => ?_))
   | exact ih0 _ _ _ _
   | exact impl_HartOf.mono _ _
   | exact impl_MemOf.mono _ _
   | exact impl_SaveBytes.mono _ _ _
   | exact LeO.none _
   | refine LeO.ite ?_ ?_
   | refine LeO.bind ?_ (fun _ => ?_)
set_option maxHeartbeats 8000000 in
set_option maxRecDepth 100000 in
theorem impl_SaveOf.calls (k : Nat) (A0 : Option Addr) (c0 : Nat) (l0 : List Int) (r1 : List Int) (r2 : List (S90)) (r3 : Bool) (w : World) (hr0 : Kd.C (Kd.int .u8) w A0 l0.length l0) (hc0 : l0.length ≤ c0) (h : impl_SaveOf.f k l0 = some (r1, r2, r3)) :
  Calls Try.prog 41 #[.slice A0 l0.length c0] w fun e w' => ∃ v0_ v1_ : Value, e = .returned (.tuple #[v0_, v1_, .bool r3]) ∧ Kd.R (Kd.int .i64) 3 w' w.heap.size (fun _ => True) v0_ r1 ∧ Kd.S k90 90 w' w.heap.size (fun k_ => some k_ ≠ (v0_ : Value).ownBlock) v1_ r2 ∧ Below w.heap.size w w' := by
 have hu90 := Try.underlying90
 have HR0 := Aside0.mk hr0
 have HC0 := Aside0.mk hc0
 clear hr0 hc0
 have HB := Aside0.mk (Below.refl w.heap.size w)
 have H : (if (l0.length : Int) < 49 then (some (([] : List Int), ([] : List (S90)), false)) else (if 49 ≤ (l0.length : Int) then ((impl_MemOf.f k ((l0.take 49).drop 1)).bind fun bt247 => (impl_SaveOf.l0 k l0 bt247.1 (([] : List (S90))) 49)) else (none))) = some (r1, r2, r3) := h
 clear h
 by_cases c2 : (l0.length : Int) < 49
 ·rw [if_pos c2] at H
  have c2b0 : decide ((l0.length : Int) < 49) = true := decide_eq_true c2
  have c2b1 : decide (l0.length < 49) = true := decide_eq_true (by omega)
  clear c2
  simp only [Option.some.injEq, Prod.mk.injEq] at H
  obtain ⟨rfl, rfl, rfl⟩ := H
  go_enter Try.func41, Try.ntmps41
  go_wp2
  go_ret3
  exact ⟨_, _, zE8, by first | exact Kd.R_nil _ _ _ _ _ | exact Kd.N_nil _ _ _ _ _ | exact Kd.V_nil _ _ _ _ _ | exact Kd.Q_nil _ _ _ _ _ | exact Kd.S_nil _ _ _ _ _, by first | exact Kd.S_nil _ _ _ _ _ | exact Kd.N_nil _ _ _ _ _ | exact Kd.V_nil _ _ _ _ _ | exact Kd.Q_nil _ _ _ _ _ | exact Kd.R_nil _ _ _ _ _, zB8_0⟩
 rw [if_neg c2] at H
 have c2b0 : decide ((l0.length : Int) < 49) = false := decide_eq_false c2
 have c2b1 : decide (l0.length < 49) = false := decide_eq_false (by omega)
 clear c2
 by_cases c3 : 49 ≤ (l0.length : Int)
 rotate_left
 ·rw [if_neg c3] at H
  exact absurd H (by simp)
 rw [if_pos c3] at H
 have c3b0 := eq_true c3
 have c3b1 : decide (49 ≤ (l0.length : Int)) = true := decide_eq_true c3
 clear c3
 replace H := Option.bind_eq_some_iff.mp H
 obtain ⟨⟨t247, t248⟩, A40, H⟩ := H
 replace H : (impl_SaveOf.l0 k l0 t247 (([] : List (S90))) 49) = some (r1, r2, r3) := H
 have A4 := Aside0.mk A40
 clear A40
 obtain ⟨y251, hy251⟩ : ∃ y_ : List (S90), y_ = (([] : List (S90))) := ⟨_, rfl⟩
 replace H : (impl_SaveOf.l0 k l0 t247 y251 49) = some (r1, r2, r3) := by first | (rw [hy251]; with_reducible exact H) | (have H2_ := (Option.bind_some _ _).symm.trans H; rw [hy251]; with_reducible exact H2_) | (have H2_ := (Option.bind_some _ _).symm.trans H; with_reducible exact H2_) | with_reducible exact H | (rw [hy251]; exact H) | exact H
 have Ny251 := Aside0.mk hy251
 clear hy251
 have H' := Aside0.mk H
 clear H
 obtain ⟨i05, hi05, _, hsz5, _⟩ := info_parts info5
 obtain ⟨A5, hcut5, hA5, hC5⟩ := print_mid_of (P := Try.prog) (Value.int .u8) 0 43 5 .i64 .i64 Try.underlying43 hi05 hsz5 A0 c0 l0 1 49 (by omega) (by first | omega | exact zA8) (zA8) HC0.out
 have HR246 := Aside0.mk (Kd.C_of_reads (h1 := fun _ => rfl) (hA5 _ (Kd.reads_of_C HR0.out)))
 have HC246 := Aside0.mk hC5
 clear hA5 hC5 hi05 hsz5
 go_enter Try.func41, Try.ntmps41
 go_wp2_with (first | ((with_reducible refine gate_callee (f := 85) rfl ?_); refine goesL_ (some 17) rfl rfl Try.func85 (by kernel_rfl) rfl #[.slice A5 ((l0.take 49).drop 1).length (c0 - 1)] rfl (by (try simp only [List.map_toArray, List.map_cons, List.map_nil]); first | done | (rw [show ((l0.take 49).drop 1).length = (49 - 1) from (by rw [List.length_drop, List.length_take]; have h_ : (49 : Int) ≤ (l0.length : Int) := zA8; omega)] <;> rfl) | rfl | (simp only [List.length_drop, List.length_take]; rfl)) ?_; (with_reducible refine (impl_MemOf.calls k _ _ ((l0.take 49).drop 1) t247 t248 _ ?side1 ?side2 A4.out).mono ?_); (case side1 => exact zC8 HR246.out); (case side2 => exact HC246.out); rintro e w6 ⟨v249, rfl, ho0, hb⟩; refine ⟨_, rfl, ?_⟩; have n0_ := Aside0.mk (Kd.R_lower ho0 (below_size (zB8_0))); have n1_ := Aside0.mk (below_step (zB8_0) hb); clear HB; have HO250 := n0_; have HB := n1_; clear n0_ n1_; (try clear hb); (try clear hb2); (try clear hk); (try clear hi); (try clear ho0)) | ((with_reducible refine gate_dst (N := 20) rfl ?_); refine Kd.S_lit k90 _ 90 ?hg (N := 20) ?hd (xs := ([] : List (S90))) (inner := []) (ok := fun _ => True) (okp := fun _ => True) ?hr ?hp (fun _ hk => hk) trivial (Below.refl _ _) (Nat.le_refl _) (by simp) ?_; (case hd => rfl); (case hg => rfl); (case hr => first | (go_simp; done) | (go_simp; rfl)); (case hp => exact (Reps.none _ _)); intro v252 w7 ho8 hb hg_ hnew_; clear hg_ hnew_; (first | rw [← Ny251.out] at ho8 | (simp only [Int.reduceToNat] at ho8; rw [← Ny251.out] at ho8)); have n0_ := Aside0.mk (Kd.R_below (zR8 HO250.out) hb); have n1_ := Aside0.mk (Kd.S_lower (Kd.S_new' ho8 (Kd.R_lt (zR8 HO250.out))) (below_size (zB8_0))); have n2_ := Aside0.mk (below_step (zB8_0) hb); clear HO250; clear HB; have HO250 := n0_; have HO253 := n1_; have HB := n2_; clear n0_ n1_ n2_; clear hb ho8))
 go_loopg [7, 8] k (fun kq v7 v8 w' => ∃ (x7_1 : List (S90)) (x8_1 : Int), v8 = .int .i64 x8_1 ∧ Aside0 (impl_SaveOf.l0 kq l0 t247 x7_1 x8_1 = some (r1, r2, r3)) ∧ Aside0 (kq ≤ k) ∧ Aside0 (Kd.R (Kd.int .i64) 3 w' w.heap.size (fun _ => True) v249 t247) ∧ Aside0 (Kd.S k90 90 w' w.heap.size (fun k_ => some k_ ≠ (v249 : Value).ownBlock) v7 x7_1) ∧ Aside0 (Below w.heap.size w w'))
 case atStart => exact ⟨(y251), (49), (by first | rfl | (simp; done) | (simp [*]; done)), H', ⟨Nat.le_refl _⟩, ⟨zR8 HO250.out⟩, ⟨by (with_reducible repeat (first | apply Kd.S_alloc | apply Kd.S_drewN | apply Kd.S_drew)); exact Kd.S_mono HO253.out (fun _ hk => hk.2)⟩, ⟨zB8_0⟩⟩
 case round =>
  clear H'
  try clear c2
  try clear c2b0
  try clear c2b1
  try clear p2
  try clear c3
  try clear c3b0
  try clear c3b1
  try clear c4
  try clear c8
  obtain ⟨x7_1, x8_1, rfl, HA, HK1, HO_5, HO_7, HB⟩ := hrel
  cases gk with
  | zero => exact absurd HA.out (by simp [impl_SaveOf.l0])
  | succ k1 =>
   have H := HA.out
   clear HA
   simp only [impl_SaveOf.l0] at H
   by_cases c9 : (wrap64 (x8_1 + 10)) ≤ (l0.length : Int)
   rotate_left
   ·rw [if_neg c9] at H
    have c9b0 : decide ((wrap64 (x8_1 + 10)) ≤ (l0.length : Int)) = false := decide_eq_false c9
    clear c9
    replace H := Option.bind_eq_some_iff.mp H
    obtain ⟨t265, A230, H⟩ := H
    replace H : ((bytes_Equal.f t265 l0).bind fun t268 => (if t268 = true then (some (t247, x7_1, true)) else (some (([] : List Int), ([] : List (S90)), false)))) = some (r1, r2, r3) := H
    have A23 := Aside0.mk A230
    clear A230
    replace H := Option.bind_eq_some_iff.mp H
    obtain ⟨t268, A240, H⟩ := H
    replace H : (if t268 = true then (some (t247, x7_1, true)) else (some (([] : List Int), ([] : List (S90)), false))) = some (r1, r2, r3) := H
    have A24 := Aside0.mk A240
    clear A240
    by_cases c25 : t268 = true
    ·subst c25
     have H1 : (some (t247, x7_1, true)) = some (r1, r2, r3) := by rw [if_pos rfl] at H; exact H
     clear H
     have H := H1
     clear H1
     simp only [Option.some.injEq, Prod.mk.injEq] at H
     obtain ⟨rfl, rfl, rfl⟩ := H
     obtain ⟨Ao26, co26, eo26⟩ := Kd.R_slice HO_5.out
     subst eo26
     obtain ⟨Ao27, co27, eo27⟩ := Kd.S_slice HO_7.out
     subst eo27
     go_wp2_with (first | ((with_reducible refine gate_callee (f := 32) rfl ?_); refine goesL_ (some 43) rfl rfl Try.func32 (by kernel_rfl) rfl #[.slice Ao26 t247.length co26, .slice Ao27 x7_1.length co27] rfl zT8 ?_; (with_reducible refine (impl_SaveBytes.calls k1 _ _ t247 _ _ x7_1 t265 _ ?side1 ?side2 ?side3 ?side4 A23.out).mono ?_); (case side1 => exact zC8 (Kd.R_reads' HO_5.out).2.2); (case side2 => exact (Kd.R_reads' HO_5.out).2.1); (case side3 => exact zC8 (Kd.S_reads' HO_7.out).2.2); (case side4 => exact (Kd.S_reads' HO_7.out).2.1); rintro e w28 ⟨v266, rfl, ho0, hb⟩; refine ⟨_, rfl, ?_⟩; have n0_ := Aside0.mk (Kd.R_below (zR8 HO_5.out) hb); have n1_ := Aside0.mk (Kd.S_below (by (with_reducible repeat (first | apply Kd.S_alloc | apply Kd.S_drewN | apply Kd.S_drew)); exact HO_7.out) hb); have n2_ := Aside0.mk (Kd.R_lower ho0 (below_size (zB8_0))); have n3_ := Aside0.mk (below_step (zB8_0) hb); clear HO_5; clear HO_7; clear HB; have HO_5 := n0_; have HO_7 := n1_; have HO267 := n2_; have HB := n3_; clear n0_ n1_ n2_ n3_; (try clear hb); (try clear hb2); (try clear hk); (try clear hi); (try clear ho0); obtain ⟨Ao29, co29, eo29⟩ := Kd.R_slice HO267.out; subst eo29) | ((with_reducible refine gate_callee (f := 87) rfl ?_); refine goesL_ (some 45) rfl rfl Try.func87 (by kernel_rfl) rfl #[.slice Ao29 t265.length co29, .slice A0 l0.length c0] rfl zT8 ?_; (with_reducible refine (bytes_Equal.calls _ _ t265 _ _ l0 true _ ?side1 ?side2 ?side3 ?side4 A24.out).mono ?_); (case side1 => exact zC8 (Kd.R_reads' HO267.out).2.2); (case side2 => exact (Kd.R_reads' HO267.out).2.1); (case side3 => exact zC8 (Kd.C_below HR0.out HB.out)); (case side4 => exact HC0.out); rintro e w' ⟨rfl, ⟨nd, rfl⟩⟩; refine ⟨_, rfl, ?_⟩))
     go_ret3
     exact ⟨_, _, zE8, zR8 HO_5.out, by (with_reducible repeat (first | apply Kd.S_alloc | apply Kd.S_drewN | apply Kd.S_drew)); exact HO_7.out, zB8_0⟩
    replace c25 := Bool.eq_false_iff.mpr c25
    subst c25
    have H1 : (some (([] : List Int), ([] : List (S90)), false)) = some (r1, r2, r3) := by rw [if_neg (show ¬ (false = true) by decide)] at H; exact H
    clear H
    have H := H1
    clear H1
    simp only [Option.some.injEq, Prod.mk.injEq] at H
    obtain ⟨rfl, rfl, rfl⟩ := H
    obtain ⟨Ao30, co30, eo30⟩ := Kd.R_slice HO_5.out
    subst eo30
    obtain ⟨Ao31, co31, eo31⟩ := Kd.S_slice HO_7.out
    subst eo31
    go_wp2_with (first | ((with_reducible refine gate_callee (f := 32) rfl ?_); refine goesL_ (some 43) rfl rfl Try.func32 (by kernel_rfl) rfl #[.slice Ao30 t247.length co30, .slice Ao31 x7_1.length co31] rfl zT8 ?_; (with_reducible refine (impl_SaveBytes.calls k1 _ _ t247 _ _ x7_1 t265 _ ?side1 ?side2 ?side3 ?side4 A23.out).mono ?_); (case side1 => exact zC8 (Kd.R_reads' HO_5.out).2.2); (case side2 => exact (Kd.R_reads' HO_5.out).2.1); (case side3 => exact zC8 (Kd.S_reads' HO_7.out).2.2); (case side4 => exact (Kd.S_reads' HO_7.out).2.1); rintro e w32 ⟨v266, rfl, ho0, hb⟩; refine ⟨_, rfl, ?_⟩; have n0_ := Aside0.mk (Kd.R_below (zR8 HO_5.out) hb); have n1_ := Aside0.mk (Kd.S_below (by (with_reducible repeat (first | apply Kd.S_alloc | apply Kd.S_drewN | apply Kd.S_drew)); exact HO_7.out) hb); have n2_ := Aside0.mk (Kd.R_lower ho0 (below_size (zB8_0))); have n3_ := Aside0.mk (below_step (zB8_0) hb); clear HO_5; clear HO_7; clear HB; have HO_5 := n0_; have HO_7 := n1_; have HO267 := n2_; have HB := n3_; clear n0_ n1_ n2_ n3_; (try clear hb); (try clear hb2); (try clear hk); (try clear hi); (try clear ho0); obtain ⟨Ao33, co33, eo33⟩ := Kd.R_slice HO267.out; subst eo33) | ((with_reducible refine gate_callee (f := 87) rfl ?_); refine goesL_ (some 45) rfl rfl Try.func87 (by kernel_rfl) rfl #[.slice Ao33 t265.length co33, .slice A0 l0.length c0] rfl zT8 ?_; (with_reducible refine (bytes_Equal.calls _ _ t265 _ _ l0 false _ ?side1 ?side2 ?side3 ?side4 A24.out).mono ?_); (case side1 => exact zC8 (Kd.R_reads' HO267.out).2.2); (case side2 => exact (Kd.R_reads' HO267.out).2.1); (case side3 => exact zC8 (Kd.C_below HR0.out HB.out)); (case side4 => exact HC0.out); rintro e w' ⟨rfl, ⟨nd, rfl⟩⟩; refine ⟨_, rfl, ?_⟩))
    go_ret3
    exact ⟨_, _, zE8, by first | exact Kd.R_nil _ _ _ _ _ | exact Kd.N_nil _ _ _ _ _ | exact Kd.V_nil _ _ _ _ _ | exact Kd.Q_nil _ _ _ _ _ | exact Kd.S_nil _ _ _ _ _, by first | exact Kd.S_nil _ _ _ _ _ | exact Kd.N_nil _ _ _ _ _ | exact Kd.V_nil _ _ _ _ _ | exact Kd.Q_nil _ _ _ _ _ | exact Kd.R_nil _ _ _ _ _, zB8_0⟩
   rw [if_pos c9] at H
   have c9b0 : decide ((wrap64 (x8_1 + 10)) ≤ (l0.length : Int)) = true := decide_eq_true c9
   clear c9
   by_cases c10 : 0 ≤ x8_1
   rotate_left
   ·rw [if_neg c10] at H
    exact absurd H (by simp)
   rw [if_pos c10] at H
   have c10b0 := eq_true c10
   have c10b1 : decide (0 ≤ x8_1) = true := decide_eq_true c10
   clear c10
   by_cases c11 : x8_1 ≤ (wrap64 (x8_1 + 10))
   rotate_left
   ·rw [if_neg c11] at H
    exact absurd H (by simp)
   rw [if_pos c11] at H
   have c11b0 := eq_true c11
   have c11b1 : decide (x8_1 ≤ (wrap64 (x8_1 + 10))) = true := decide_eq_true c11
   have c12b0 := eq_true (zA8 : (wrap64 (x8_1 + 10)) ≤ (l0.length : Int))
   replace H := Option.bind_eq_some_iff.mp H
   obtain ⟨⟨t255, t258, t259, t260⟩, A130, H⟩ := H
   replace H : (if x7_1.length < 3518437208883 then (impl_SaveOf.l0 k1 l0 t247 (x7_1 ++ [(⟨t255, t258, t259⟩ : S90)]) (wrap64 (x8_1 + 10))) else (none)) = some (r1, r2, r3) := H
   have A13 := Aside0.mk A130
   clear A130
   by_cases c14 : x7_1.length < 3518437208883
   rotate_left
   ·rw [if_neg c14] at H
    exact absurd H (by simp)
   rw [if_pos c14] at H
   have LMc14 := Aside0.mk c14
   clear c14
   obtain ⟨y262, hy262⟩ : ∃ y_ : List (S90), y_ = (x7_1 ++ [(⟨t255, t258, t259⟩ : S90)]) := ⟨_, rfl⟩
   replace H : (impl_SaveOf.l0 k1 l0 t247 y262 (wrap64 (x8_1 + 10))) = some (r1, r2, r3) := by first | (rw [hy262]; with_reducible exact H) | (have H2_ := (Option.bind_some _ _).symm.trans H; rw [hy262]; with_reducible exact H2_) | (have H2_ := (Option.bind_some _ _).symm.trans H; with_reducible exact H2_) | with_reducible exact H | (rw [hy262]; exact H) | exact H
   have Ny262 := Aside0.mk hy262
   clear hy262
   have H' := Aside0.mk H
   clear H
   obtain ⟨i015, hi015, _, hsz15, _⟩ := info_parts info5
   obtain ⟨A15, hcut15, hA15, hC15⟩ := print_mid_of (P := Try.prog) (Value.int .u8) 0 43 5 .i64 .i64 Try.underlying43 hi015 hsz15 A0 c0 l0 x8_1 (wrap64 (x8_1 + 10)) (zA8) (by first | omega | exact zA8) (zA8) HC0.out
   have HR254 := Aside0.mk (Kd.C_of_reads (h1 := fun _ => rfl) (hA15 _ (Kd.reads_of_C HR0.out)))
   have HC254 := Aside0.mk hC15
   clear hA15 hC15 hi015 hsz15
   go_wp2_with (first | ((with_reducible refine gate_callee (f := 86) rfl ?_); refine goesL_ (some 34) rfl rfl Try.func86 (by kernel_rfl) rfl #[.slice A15 ((l0.take ((wrap64 (x8_1 + 10)) : Int).toNat).drop (x8_1 : Int).toNat).length (c0 - x8_1.toNat)] rfl (by (try simp only [List.map_toArray, List.map_cons, List.map_nil]); first | done | (rw [show ((l0.take ((wrap64 (x8_1 + 10)) : Int).toNat).drop (x8_1 : Int).toNat).length = ((wrap64 (x8_1 + 10)).toNat - x8_1.toNat) from (by rw [List.length_drop, List.length_take]; have h_ : ((wrap64 (x8_1 + 10)) : Int) ≤ (l0.length : Int) := zA8; omega)] <;> rfl) | rfl | (simp only [List.length_drop, List.length_take]; rfl)) ?_; (with_reducible refine (impl_HartOf.calls k1 _ _ ((l0.take ((wrap64 (x8_1 + 10)) : Int).toNat).drop (x8_1 : Int).toNat) t255 t258 t259 t260 _ ?side1 ?side2 A13.out).mono ?_); (case side1 => exact zC8 (Kd.C_below HR254.out HB.out)); (case side2 => exact HC254.out); rintro e w16 ⟨v256, rfl, ho0, hb⟩; refine ⟨_, rfl, ?_⟩; have n0_ := Aside0.mk (Kd.R_elder' (zR8 HO_5.out) (Kd.R_base ho0) hb); have n1_ := Aside0.mk (Kd.S_elder' (by (with_reducible repeat (first | apply Kd.S_alloc | apply Kd.S_drewN | apply Kd.S_drew)); exact HO_7.out) (Kd.R_base ho0) hb); have n2_ := Aside0.mk (Kd.R_lower (Kd.R_new' ho0 (Kd.R_lt (zR8 HO_5.out))) (below_size (zB8_0))); have n3_ := Aside0.mk (below_step (zB8_0) hb); clear HO_5; clear HO_7; clear HB; have HO_5 := n0_; have HO_7 := n1_; have HO257 := n2_; have HB := n3_; clear n0_ n1_ n2_ n3_; (try clear hb); (try clear hb2); (try clear hk); (try clear hi); (try clear ho0)) | ((with_reducible refine gate_dst (N := 9) rfl ?_); refine box_event ?hg (N := 9) ?hd (cs := #[.slice none 0 0, .int .i64 0, .int .i64 0]) (t := 90) ?hr ?_; (case hd => rfl); (case hg => rfl); (case hr => first | (go_simp; done) | (go_simp; rfl)); intro gb261 hg w17 hbox hb; have n0_ := Aside0.mk (Kd.R_below (zR8 HO_5.out) hb); have n1_ := Aside0.mk (Kd.S_below (Kd.S_elderB (by (with_reducible repeat (first | apply Kd.S_alloc | apply Kd.S_drewN | apply Kd.S_drew)); exact HO_7.out) gb261 (Nat.le_of_eq hg.symm)) hb); have n2_ := Aside0.mk (Kd.R_below (zR8 HO257.out) hb); have n3_ := Aside0.mk (below_step (zB8_0) hb); have n4_ := Aside0.mk (hbox); have n5_ := Aside0.mk ((by rw [hg]; exact (below_size (zB8_0)) : w.heap.size ≤ gb261)); have n6_ := Aside0.mk ((by rw [hg]; exact (below_size (zB8_0)) : w.heap.size ≤ gb261)); clear HO_5; clear HO_7; clear HO257; clear HB; have HO_5 := n0_; have HO_7 := n1_; have HO257 := n2_; have HB := n3_; have BK261 := n4_; have GW261 := n5_; have GE261 := n6_; clear n0_ n1_ n2_ n3_ n4_ n5_ n6_; clear hb hbox hg; obtain ⟨Ao18, co18, eo18⟩ := Kd.R_slice HO257.out; subst eo18; obtain ⟨hcz19_0, hcz19_1, hcz19_2, hfz19_0, hfz19_1, hfz19_2⟩ := zc8_3 (w := w17) BK261.out) | ((with_reducible refine gate_store (t := 90) (p := 9) rfl ?_); refine store_event (t := 90) (p := 9) (v := ?vo_w20) (w1 := (((w17.setCell ⟨gb261, 0, none⟩ (.slice Ao18 t255.length co18)).setCell ⟨gb261, 1, none⟩ (.int .i64 t258)).setCell ⟨gb261, 2, none⟩ (.int .i64 t259))) ?hg ?ho ?hn ?hr ?_; (case ho => rfl); (case hg => rfl); (case hn => rfl); (case hr => first | (go_simp; done) | (go_simp; rfl)); intro w20 hw; have n0_ : Aside0 (Kd.R (Kd.int .i64) 3 w20 w.heap.size (fun k_ => some k_ ≠ (.slice Ao18 t255.length co18 : Value).ownBlock) v249 t247) := ⟨(by rw [hw]; exact (by (with_reducible repeat (first | apply Kd.R_alloc | apply Kd.R_drewN | apply Kd.R_drew)); exact Kd.R_mono (Kd.R_far (p := ⟨gb261, 2, none⟩) (Kd.R_far (p := ⟨gb261, 1, none⟩) (Kd.R_far (p := ⟨gb261, 0, none⟩) (Kd.R_types HO_5.out BK261.out (by decide)) (fun _ hk => hk.2) (.slice Ao18 t255.length co18)) (fun _ hk => hk.2) (.int .i64 t258)) (fun _ hk => hk.2) (.int .i64 t259)) (fun _ hk => hk.1.2)))⟩; have n1_ : Aside0 (Kd.S k90 90 w20 w.heap.size (fun k_ => some k_ ≠ (v249 : Value).ownBlock ∧ some k_ ≠ (.slice Ao18 t255.length co18 : Value).ownBlock ∧ k_ ≠ gb261) u7 x7_1) := ⟨(by rw [hw]; exact (by (with_reducible repeat (first | apply Kd.S_alloc | apply Kd.S_drewN | apply Kd.S_drew)); exact Kd.S_mono (Kd.S_far (p := ⟨gb261, 2, none⟩) (Kd.S_far (p := ⟨gb261, 1, none⟩) (Kd.S_far (p := ⟨gb261, 0, none⟩) (Kd.S_mono HO_7.out (fun k_ hk => (⟨hk, hk.2⟩ : _ ∧ k_ ≠ gb261))) (fun _ hk => hk.2) (.slice Ao18 t255.length co18)) (fun _ hk => hk.2) (.int .i64 t258)) (fun _ hk => hk.2) (.int .i64 t259)) (fun _ hk => ⟨hk.1.1.1, ⟨hk.1.1.2, hk.1.2⟩⟩)))⟩; have n2_ : Aside0 (Kd.R (Kd.int .i64) 3 w20 w.heap.size (fun k_ => some k_ ≠ (v249 : Value).ownBlock) (.slice Ao18 t255.length co18) t255) := ⟨(by rw [hw]; exact (by (with_reducible repeat (first | apply Kd.R_alloc | apply Kd.R_drewN | apply Kd.R_drew)); exact Kd.R_mono (Kd.R_far (p := ⟨gb261, 2, none⟩) (Kd.R_far (p := ⟨gb261, 1, none⟩) (Kd.R_far (p := ⟨gb261, 0, none⟩) (Kd.R_types HO257.out BK261.out (by decide)) (fun _ hk => hk.2) (.slice Ao18 t255.length co18)) (fun _ hk => hk.2) (.int .i64 t258)) (fun _ hk => hk.2) (.int .i64 t259)) (fun _ hk => hk.1.2)))⟩; have n3_ : Aside0 (w20.heap[gb261]? = some (.cells #[.slice Ao18 t255.length co18, .int .i64 t258, .int .i64 t259] 90 (0, 0))) := ⟨(by rw [hw]; exact (by refine zP8 ?_; refine blk_put (cs := #[.slice Ao18 t255.length co18, .int .i64 t258, .int .i64 0]) ?_ 2 _ rfl; refine zP8 ?_; refine blk_put (cs := #[.slice Ao18 t255.length co18, .int .i64 0, .int .i64 0]) ?_ 1 _ rfl; refine zP8 ?_; refine blk_put (cs := #[.slice none 0 0, .int .i64 0, .int .i64 0]) ?_ 0 _ rfl; refine zP8 ?_; exact BK261.out))⟩; have n4_ : Aside0 (Below w.heap.size w w20) := ⟨(by rw [hw]; exact (zB8_1))⟩; clear hw; clear HO_5; clear HO_7; clear HO257; clear BK261; clear HB; have HO_5 := n0_; have HO_7 := n1_; have HO257 := n2_; have BK261 := n3_; have HB := n4_; clear n0_ n1_ n2_ n3_ n4_; obtain ⟨hcz21_0, hcz21_1, hcz21_2, hfz21_0, hfz21_1, hfz21_2⟩ := zc8_3 (w := w20) BK261.out) | ((with_reducible refine gate_builtin (b := .append) (xs := #[.tmp 37, .tmp 39]) rfl ?_); at_builtin; refine Kd.S_append k90 (w0 := w) w.heap.size rfl (.tmp 37) (.tmp 39) 45 90 (.agg #[(.slice none 0 0), (.int .i64 0), (.int .i64 0)]) 40 rfl Try.underlying45 info90 rfl (by decide) (by omega) u7 x7_1 (⟨t255, t258, t259⟩ : S90) [.slice Ao18 t255.length co18, .int .i64 t258, .int .i64 t259] (fun k_ => some k_ ≠ (v249 : Value).ownBlock ∧ k_ ≠ gb261) (fun k_ => some k_ = (.slice Ao18 t255.length co18 : Value).ownBlock) rfl rfl ?aP (fun k_ hk_ => ((Kd.R_mono (ok' := fun k_ => ((fun k_ => some k_ ≠ (v249 : Value).ownBlock ∧ k_ ≠ gb261)) k_ ∧ some k_ ≠ (u7 : Value).ownBlock) (Kd.R_types (Kd.R_apart' (HO257.out) (Kd.S_typed HO_7.out) (by decide)) BK261.out (by decide)) (fun k_ hk => ⟨⟨hk.1.1, hk.2⟩, hk.1.2⟩))).1 k_ hk_.symm) ?aF ?aO ?aB ?aS ?aL ?_; (case aP => exact k90_mkM _ _ _ (⟨t255, t258, t259⟩ : S90) (Kd.R_mono (Kd.R_tight rfl (Kd.R_mono (ok' := fun k_ => ((fun k_ => some k_ ≠ (v249 : Value).ownBlock ∧ k_ ≠ gb261)) k_ ∧ some k_ ≠ (u7 : Value).ownBlock) (Kd.R_types (Kd.R_apart' (HO257.out) (Kd.S_typed HO_7.out) (by decide)) BK261.out (by decide)) (fun k_ hk => ⟨⟨hk.1.1, hk.2⟩, hk.1.2⟩))) (fun _ h_ => h_))); (case aB => exact (zB8_1)); (case aF => exact (fun k_ hk => ⟨Kd.fresh' (Kd.R_lt (zR8 HO_5.out)) k_ hk, Kd.freshB (g := gb261) (o := .cells #[.slice Ao18 t255.length co18, .int .i64 t258, .int .i64 t259] 90 (0, 0)) (zK8 BK261.out) k_ hk⟩)); (case aO => exact (by (with_reducible repeat (first | apply Kd.S_alloc | apply Kd.S_drewN | apply Kd.S_drew)); exact Kd.S_mono HO_7.out (fun k_ hk => ⟨⟨hk.1, hk.2.2⟩, fun e_ => hk.2.1 e_⟩))); (case aS => exact (below_size (zB8_1))); (case aL => have := LMc14.out; omega); intro v263 w22 ho hb hg hat; rw [← Ny262.out] at ho; have n0_ := Aside0.mk (Kd.R_over' (zR8 HO_5.out) (Kd.S_typed (by (with_reducible repeat (first | apply Kd.S_alloc | apply Kd.S_drewN | apply Kd.S_drew)); exact HO_7.out)) (by decide) hg); have n1_ := Aside0.mk (zg8 BK261.out hg (Kd.S_away HO_7.out (fun _ hk => hk.2.2))); have n2_ := Aside0.mk (hb); have n3_ := Aside0.mk (ho); clear HO_5; clear BK261; clear HB; clear HO_7; clear HO257; have HO_5 := n0_; have BK261 := n1_; have HB := n2_; have HO264 := n3_; clear n0_ n1_ n2_ n3_; clear ho hb hg hat))
   go_roundg k1
   case measure => have := HK1.out; omega
   case rel => exact ⟨(y262), (wrap64 (x8_1 + 10)), (by first | rfl | (simp; done) | (simp [*]; done)), H', ⟨by have := HK1.out; omega⟩, ⟨by (with_reducible repeat (first | apply Kd.R_alloc | apply Kd.R_drewN | apply Kd.R_drew)); exact Kd.R_mono HO_5.out (fun _ hk => trivial)⟩, ⟨by (with_reducible repeat (first | apply Kd.S_alloc | apply Kd.S_drewN | apply Kd.S_drew)); exact Kd.S_mono HO264.out (fun _ hk => hk.1)⟩, ⟨zB8_1⟩⟩

/-! ### laws_heldIntS: function 42 -/
def laws_heldIntS.l0 : Nat → List Int → Int → Int → Option (Int)
 | 0, _, _, _ => none
 | k + 1, x0, x1, x5 => if x5 < (x0.length : Int) then (if 0 ≤ x5 then (if (rd x0 x5) = x1 then (laws_heldIntS.l0 k x0 (wrap64 (x1 + 1)) (wrap64 (x5 + 1))) else (some (-1))) else (none)) else (some x1)
def laws_heldIntS.f (k : Nat) (l0 : List Int) (a1 : Int) : Option (Int) := laws_heldIntS.l0 k l0 a1 0
theorem laws_heldIntS.mono_l : ∀ k, (∀ y0 y1 y2, LeO (laws_heldIntS.l0 k y0 y1 y2) (laws_heldIntS.l0 (k + 1) y0 y1 y2))
 | 0 => fun _ _ _ r h => by simp [laws_heldIntS.l0] at h
 | k + 1 => by
  have ih0 := laws_heldIntS.mono_l k
  ·intro y0 y1 y2
   unfold laws_heldIntS.l0
   repeat' first
   | (with_reducible exact ih0 _ _ _)
   | (with_reducible exact LeO.refl _)
   | (with_reducible exact LeO.none _)
   | (with_reducible refine LeO.ite ?_ ?_)
   | (with_reducible refine LeO.bind ?_ (fun _ => ?_))
   | exact ih0 _ _ _
   | exact LeO.none _
   | refine LeO.ite ?_ ?_
   | refine LeO.bind ?_ (fun _ => ?_)
theorem laws_heldIntS.mono : ∀ a0 a1 k, LeO (laws_heldIntS.f k a0 a1) (laws_heldIntS.f (k + 1) a0 a1) := by
 intro a0 a1 k
 have ih0 := laws_heldIntS.mono_l k
 unfold laws_heldIntS.f
 repeat' first
   | (with_reducible exact ih0 _ _ _)
   | (with_reducible exact LeO.refl _)
   | (with_reducible exact LeO.none _)
   | (with_reducible refine LeO.ite ?_ ?_)
   | (with_reducible refine LeO.bind ?_ (fun _ => ?_))
   | exact ih0 _ _ _
   | exact LeO.none _
   | refine LeO.ite ?_ ?_
   | refine LeO.bind ?_ (fun _ => ?_)
set_option maxHeartbeats 8000000 in
set_option maxRecDepth 100000 in
theorem laws_heldIntS.calls (k : Nat) (A0 : Option Addr) (c0 : Nat) (l0 : List Int) (a1 : Int) (r : Int) (w : World) (hr0 : Kd.C (Kd.int .i64) w A0 l0.length l0) (hc0 : l0.length ≤ c0) (h : laws_heldIntS.f k l0 a1 = some r) :
  Calls Try.prog 42 #[.slice A0 l0.length c0, .int .i64 a1] w fun e w' => e = .returned (.int .i64 r) ∧ Drawn0 w w' := by
 have HR0 := Aside0.mk hr0
 have HC0 := Aside0.mk hc0
 clear hr0 hc0
 have H : (laws_heldIntS.l0 k l0 a1 0) = some r := h
 clear h
 have H' := Aside0.mk H
 clear H
 go_enter Try.func42, Try.ntmps42
 go_wp2
 go_loopg [1, 5] k (fun kq v1 v5 w' => ∃ (x1_1 : Int) (x5_1 : Int), v1 = .int .i64 x1_1 ∧ v5 = .int .i64 x5_1 ∧ Aside0 (laws_heldIntS.l0 kq l0 x1_1 x5_1 = some r) ∧ Aside0 (kq ≤ k) ∧ Drawn0 w w')
 case atStart => exact ⟨(a1), (0), (by first | rfl | (simp; done) | (simp [*]; done)), (by first | rfl | (simp; done) | (simp [*]; done)), H', ⟨Nat.le_refl _⟩, by repeat (first | exact Drawn0.refl _ | apply Drawn0.step)⟩
 case round =>
  clear H'
  try clear p2
  obtain ⟨x1_1, x5_1, rfl, rfl, HA, HK1, ⟨m1, rfl⟩⟩ := hrel
  cases gk with
  | zero => exact absurd HA.out (by simp [laws_heldIntS.l0])
  | succ k1 =>
   have H := HA.out
   clear HA
   simp only [laws_heldIntS.l0] at H
   by_cases c3 : x5_1 < (l0.length : Int)
   rotate_left
   ·rw [if_neg c3] at H
    have c3b0 : decide (x5_1 < (l0.length : Int)) = false := decide_eq_false c3
    clear c3
    obtain rfl := Option.some.inj H
    go_wp2
    go_ret
    exact ⟨by first | rfl | (simp; done) | (simp [*]; done), by repeat (first | exact Drawn0.refl _ | apply Drawn0.step)⟩
   rw [if_pos c3] at H
   have c3b0 : decide (x5_1 < (l0.length : Int)) = true := decide_eq_true c3
   clear c3
   by_cases c4 : 0 ≤ x5_1
   rotate_left
   ·rw [if_neg c4] at H
    exact absurd H (by simp)
   rw [if_pos c4] at H
   have c4b0 : decide (0 ≤ x5_1) = true := decide_eq_true c4
   clear c4
   by_cases c5 : (rd l0 x5_1) = x1_1
   rotate_left
   ·rw [if_neg c5] at H
    have c5b0 : ((rd l0 x5_1) == x1_1) = false := beq_eq_false_iff_ne.mpr c5
    have c5b1 : ((rd l0 x5_1) != x1_1) = true := bne_iff_ne.mpr c5
    obtain rfl := Option.some.inj H
    have p269 : 0 ≤ (x5_1 : Int) := zA8
    have q269 : x5_1 < (l0.length : Int) := zA8
    obtain ⟨ad269, e269, hx269_0⟩ := Kd.at_int HR0.out x5_1 p269 q269
    cases e269
    replace p269 := eq_true p269
    replace q269 := eq_true q269
    go_wp2
    go_ret
    exact ⟨by first | rfl | (simp; done) | (simp [*]; done), by repeat (first | exact Drawn0.refl _ | apply Drawn0.step)⟩
   rw [if_pos c5] at H
   have c5b0 : ((rd l0 x5_1) == x1_1) = true := beq_iff_eq.mpr c5
   have c5b1 : ((rd l0 x5_1) != x1_1) = false := bne_eq_false_iff_eq.mpr c5
   clear c5
   have H' := Aside0.mk H
   clear H
   have p269 : 0 ≤ (x5_1 : Int) := zA8
   have q269 : x5_1 < (l0.length : Int) := zA8
   obtain ⟨ad269, e269, hx269_0⟩ := Kd.at_int HR0.out x5_1 p269 q269
   cases e269
   replace p269 := eq_true p269
   replace q269 := eq_true q269
   go_wp2
   go_roundg k1
   case measure => have := HK1.out; omega
   case rel => exact ⟨(wrap64 (x1_1 + 1)), (wrap64 (x5_1 + 1)), (by first | rfl | (simp; done) | (simp [*]; done)), (by first | rfl | (simp; done) | (simp [*]; done)), H', ⟨by have := HK1.out; omega⟩, by repeat (first | exact Drawn0.refl _ | apply Drawn0.step)⟩

/-! ### laws_heldHartS: function 43 -/
def laws_heldHartS.l0 : Nat → List (S90) → Int → Int → Option (Int)
 | 0, _, _, _ => none
 | k + 1, x0, x1, x5 => if x5 < (x0.length : Int) then (if 0 ≤ x5 then ((laws_heldIntS.f k ((rd_T90 x0 x5).f0) x1).bind fun t271 => (if t271 < 0 then (some (-1)) else (if ((rd_T90 x0 x5).f1) = t271 then (if ((rd_T90 x0 x5).f2) = (wrap64 (t271 + 1)) then (laws_heldHartS.l0 k x0 (wrap64 ((wrap64 (t271 + 1)) + 1)) (wrap64 (x5 + 1))) else (some (-1))) else (some (-1))))) else (none)) else (some x1)
def laws_heldHartS.f (k : Nat) (l0 : List (S90)) (a1 : Int) : Option (Int) := laws_heldHartS.l0 k l0 a1 0
theorem laws_heldHartS.mono_l : ∀ k, (∀ y0 y1 y2, LeO (laws_heldHartS.l0 k y0 y1 y2) (laws_heldHartS.l0 (k + 1) y0 y1 y2))
 | 0 => fun _ _ _ r h => by simp [laws_heldHartS.l0] at h
 | k + 1 => by
  have ih0 := laws_heldHartS.mono_l k
  ·intro y0 y1 y2
   unfold laws_heldHartS.l0
   repeat' first
   | (with_reducible exact ih0 _ _ _)
   | (with_reducible exact laws_heldIntS.mono _ _ _)
   | (with_reducible exact LeO.refl _)
   | (with_reducible exact LeO.none _)
   | (with_reducible refine LeO.ite ?_ ?_)
   | (with_reducible refine LeO.bind ?_ (fun _ => ?_))
   | exact ih0 _ _ _
   | exact laws_heldIntS.mono _ _ _
   | exact LeO.none _
   | refine LeO.ite ?_ ?_
   | refine LeO.bind ?_ (fun _ => ?_)
theorem laws_heldHartS.mono : ∀ a0 a1 k, LeO (laws_heldHartS.f k a0 a1) (laws_heldHartS.f (k + 1) a0 a1) := by
 intro a0 a1 k
 have ih0 := laws_heldHartS.mono_l k
 unfold laws_heldHartS.f
 repeat' first
   | (with_reducible exact ih0 _ _ _)
   | (with_reducible exact laws_heldIntS.mono _ _ _)
   | (with_reducible exact LeO.refl _)
   | (with_reducible exact LeO.none _)
   | (with_reducible refine LeO.ite ?_ ?_)
   | (with_reducible refine LeO.bind ?_ (fun _ => ?_))
   | exact ih0 _ _ _
   | exact laws_heldIntS.mono _ _ _
   | exact LeO.none _
   | refine LeO.ite ?_ ?_
   | refine LeO.bind ?_ (fun _ => ?_)
set_option maxHeartbeats 8000000 in
set_option maxRecDepth 100000 in
theorem laws_heldHartS.calls (k : Nat) (A0 : Option Addr) (c0 : Nat) (l0 : List (S90)) (a1 : Int) (r : Int) (w : World) (hr0 : Kd.C k90 w A0 l0.length l0) (hc0 : l0.length ≤ c0) (h : laws_heldHartS.f k l0 a1 = some r) :
  Calls Try.prog 43 #[.slice A0 l0.length c0, .int .i64 a1] w fun e w' => e = .returned (.int .i64 r) ∧ Drawn0 w w' := by
 have HR0 := Aside0.mk hr0
 have HC0 := Aside0.mk hc0
 clear hr0 hc0
 have H : (laws_heldHartS.l0 k l0 a1 0) = some r := h
 clear h
 have H' := Aside0.mk H
 clear H
 go_enter Try.func43, Try.ntmps43
 go_wp2
 go_loopg [1, 5] k (fun kq v1 v5 w' => ∃ (x1_1 : Int) (x5_1 : Int), v1 = .int .i64 x1_1 ∧ v5 = .int .i64 x5_1 ∧ Aside0 (laws_heldHartS.l0 kq l0 x1_1 x5_1 = some r) ∧ Aside0 (kq ≤ k) ∧ Drawn0 w w')
 case atStart => exact ⟨(a1), (0), (by first | rfl | (simp; done) | (simp [*]; done)), (by first | rfl | (simp; done) | (simp [*]; done)), H', ⟨Nat.le_refl _⟩, by repeat (first | exact Drawn0.refl _ | apply Drawn0.step)⟩
 case round =>
  clear H'
  try clear p2
  obtain ⟨x1_1, x5_1, rfl, rfl, HA, HK1, ⟨m1, rfl⟩⟩ := hrel
  cases gk with
  | zero => exact absurd HA.out (by simp [laws_heldHartS.l0])
  | succ k1 =>
   have H := HA.out
   clear HA
   simp only [laws_heldHartS.l0] at H
   by_cases c3 : x5_1 < (l0.length : Int)
   rotate_left
   ·rw [if_neg c3] at H
    have c3b0 : decide (x5_1 < (l0.length : Int)) = false := decide_eq_false c3
    clear c3
    obtain rfl := Option.some.inj H
    go_wp2
    go_ret
    exact ⟨by first | rfl | (simp; done) | (simp [*]; done), by repeat (first | exact Drawn0.refl _ | apply Drawn0.step)⟩
   rw [if_pos c3] at H
   have c3b0 : decide (x5_1 < (l0.length : Int)) = true := decide_eq_true c3
   clear c3
   by_cases c4 : 0 ≤ x5_1
   rotate_left
   ·rw [if_neg c4] at H
    exact absurd H (by simp)
   rw [if_pos c4] at H
   have c4b0 : decide (0 ≤ x5_1) = true := decide_eq_true c4
   clear c4
   replace H := Option.bind_eq_some_iff.mp H
   obtain ⟨t271, A50, H⟩ := H
   replace H : (if t271 < 0 then (some (-1)) else (if ((rd_T90 l0 x5_1).f1) = t271 then (if ((rd_T90 l0 x5_1).f2) = (wrap64 (t271 + 1)) then (laws_heldHartS.l0 k1 l0 (wrap64 ((wrap64 (t271 + 1)) + 1)) (wrap64 (x5_1 + 1))) else (some (-1))) else (some (-1)))) = some r := H
   have A5 := Aside0.mk A50
   clear A50
   by_cases c6 : t271 < 0
   ·rw [if_pos c6] at H
    have c6b0 : decide (t271 < 0) = true := decide_eq_true c6
    clear c6
    obtain rfl := Option.some.inj H
    have p270 : 0 ≤ (x5_1 : Int) := zA8
    have q270 : x5_1 < (l0.length : Int) := zA8
    obtain ⟨ad270, A270_0, c270_0, e270, hx270_0, hx270_1, hx270_2, hl270_0, hi270_0⟩ := at_T90 HR0.out x5_1 p270 q270
    cases e270
    have HR270_0 := Aside0.mk hi270_0
    have HC270_0 := Aside0.mk hl270_0
    clear hi270_0 hl270_0
    replace p270 := eq_true p270
    replace q270 := eq_true q270
    go_wp2_with (first | ((with_reducible refine gate_callee (f := 42) rfl ?_); refine goesL_ (some 18) rfl rfl Try.func42 (by kernel_rfl) rfl #[.slice A270_0 ((rd_T90 l0 x5_1).f0).length c270_0, .int .i64 x1_1] rfl zT8 ?_; (with_reducible refine (laws_heldIntS.calls k1 _ _ ((rd_T90 l0 x5_1).f0) x1_1 t271 _ ?side1 ?side2 A5.out).mono ?_); (case side1 => exact zC8 HR270_0.out); (case side2 => exact HC270_0.out); rintro e w' ⟨rfl, ⟨nd, rfl⟩⟩; refine ⟨_, rfl, ?_⟩))
    go_ret
    exact ⟨by first | rfl | (simp; done) | (simp [*]; done), by repeat (first | exact Drawn0.refl _ | apply Drawn0.step)⟩
   rw [if_neg c6] at H
   have c6b0 : decide (t271 < 0) = false := decide_eq_false c6
   clear c6
   by_cases c7 : ((rd_T90 l0 x5_1).f1) = t271
   rotate_left
   ·rw [if_neg c7] at H
    have c7b0 : (((rd_T90 l0 x5_1).f1) == t271) = false := beq_eq_false_iff_ne.mpr c7
    have c7b1 : (((rd_T90 l0 x5_1).f1) != t271) = true := bne_iff_ne.mpr c7
    obtain rfl := Option.some.inj H
    have p270 : 0 ≤ (x5_1 : Int) := zA8
    have q270 : x5_1 < (l0.length : Int) := zA8
    obtain ⟨ad270, A270_0, c270_0, e270, hx270_0, hx270_1, hx270_2, hl270_0, hi270_0⟩ := at_T90 HR0.out x5_1 p270 q270
    cases e270
    have HR270_0 := Aside0.mk hi270_0
    have HC270_0 := Aside0.mk hl270_0
    clear hi270_0 hl270_0
    replace p270 := eq_true p270
    replace q270 := eq_true q270
    go_wp2_with (first | ((with_reducible refine gate_callee (f := 42) rfl ?_); refine goesL_ (some 18) rfl rfl Try.func42 (by kernel_rfl) rfl #[.slice A270_0 ((rd_T90 l0 x5_1).f0).length c270_0, .int .i64 x1_1] rfl zT8 ?_; (with_reducible refine (laws_heldIntS.calls k1 _ _ ((rd_T90 l0 x5_1).f0) x1_1 t271 _ ?side1 ?side2 A5.out).mono ?_); (case side1 => exact zC8 HR270_0.out); (case side2 => exact HC270_0.out); rintro e w' ⟨rfl, ⟨nd, rfl⟩⟩; refine ⟨_, rfl, ?_⟩; have p272 : 0 ≤ (x5_1 : Int) := zA8; have q272 : x5_1 < (l0.length : Int) := zA8; obtain ⟨ad272, A272_0, c272_0, e272, hx272_0, hx272_1, hx272_2, hl272_0, hi272_0⟩ := at_T90 HR0.out x5_1 p272 q272; obtain rfl : ad270 = ad272 := (by injection e272); have HR272_0 := Aside0.mk hi272_0; have HC272_0 := Aside0.mk hl272_0; clear hi272_0 hl272_0; replace p272 := eq_true p272; replace q272 := eq_true q272; have ea_ := Option.some.inj (hx270_0.symm.trans hx272_0); injection ea_ with ea_ en_ ec_; subst ea_; subst ec_; clear en_))
    go_ret
    exact ⟨by first | rfl | (simp; done) | (simp [*]; done), by repeat (first | exact Drawn0.refl _ | apply Drawn0.step)⟩
   rw [if_pos c7] at H
   have c7b0 : (((rd_T90 l0 x5_1).f1) == t271) = true := beq_iff_eq.mpr c7
   have c7b1 : (((rd_T90 l0 x5_1).f1) != t271) = false := bne_eq_false_iff_eq.mpr c7
   clear c7
   by_cases c8 : ((rd_T90 l0 x5_1).f2) = (wrap64 (t271 + 1))
   rotate_left
   ·rw [if_neg c8] at H
    have c8b0 : (((rd_T90 l0 x5_1).f2) == (wrap64 (t271 + 1))) = false := beq_eq_false_iff_ne.mpr c8
    have c8b1 : (((rd_T90 l0 x5_1).f2) != (wrap64 (t271 + 1))) = true := bne_iff_ne.mpr c8
    obtain rfl := Option.some.inj H
    have p270 : 0 ≤ (x5_1 : Int) := zA8
    have q270 : x5_1 < (l0.length : Int) := zA8
    obtain ⟨ad270, A270_0, c270_0, e270, hx270_0, hx270_1, hx270_2, hl270_0, hi270_0⟩ := at_T90 HR0.out x5_1 p270 q270
    cases e270
    have HR270_0 := Aside0.mk hi270_0
    have HC270_0 := Aside0.mk hl270_0
    clear hi270_0 hl270_0
    replace p270 := eq_true p270
    replace q270 := eq_true q270
    go_wp2_with (first | ((with_reducible refine gate_callee (f := 42) rfl ?_); refine goesL_ (some 18) rfl rfl Try.func42 (by kernel_rfl) rfl #[.slice A270_0 ((rd_T90 l0 x5_1).f0).length c270_0, .int .i64 x1_1] rfl zT8 ?_; (with_reducible refine (laws_heldIntS.calls k1 _ _ ((rd_T90 l0 x5_1).f0) x1_1 t271 _ ?side1 ?side2 A5.out).mono ?_); (case side1 => exact zC8 HR270_0.out); (case side2 => exact HC270_0.out); rintro e w' ⟨rfl, ⟨nd, rfl⟩⟩; refine ⟨_, rfl, ?_⟩; have p272 : 0 ≤ (x5_1 : Int) := zA8; have q272 : x5_1 < (l0.length : Int) := zA8; obtain ⟨ad272, A272_0, c272_0, e272, hx272_0, hx272_1, hx272_2, hl272_0, hi272_0⟩ := at_T90 HR0.out x5_1 p272 q272; obtain rfl : ad270 = ad272 := (by injection e272); have HR272_0 := Aside0.mk hi272_0; have HC272_0 := Aside0.mk hl272_0; clear hi272_0 hl272_0; replace p272 := eq_true p272; replace q272 := eq_true q272; have ea_ := Option.some.inj (hx270_0.symm.trans hx272_0); injection ea_ with ea_ en_ ec_; subst ea_; subst ec_; clear en_; have p273 : 0 ≤ (x5_1 : Int) := zA8; have q273 : x5_1 < (l0.length : Int) := zA8; obtain ⟨ad273, A273_0, c273_0, e273, hx273_0, hx273_1, hx273_2, hl273_0, hi273_0⟩ := at_T90 HR0.out x5_1 p273 q273; obtain rfl : ad270 = ad273 := (by injection e273); have HR273_0 := Aside0.mk hi273_0; have HC273_0 := Aside0.mk hl273_0; clear hi273_0 hl273_0; replace p273 := eq_true p273; replace q273 := eq_true q273; have ea_ := Option.some.inj (hx270_0.symm.trans hx273_0); injection ea_ with ea_ en_ ec_; subst ea_; subst ec_; clear en_))
    go_ret
    exact ⟨by first | rfl | (simp; done) | (simp [*]; done), by repeat (first | exact Drawn0.refl _ | apply Drawn0.step)⟩
   rw [if_pos c8] at H
   have c8b0 : (((rd_T90 l0 x5_1).f2) == (wrap64 (t271 + 1))) = true := beq_iff_eq.mpr c8
   have c8b1 : (((rd_T90 l0 x5_1).f2) != (wrap64 (t271 + 1))) = false := bne_eq_false_iff_eq.mpr c8
   clear c8
   have H' := Aside0.mk H
   clear H
   have p270 : 0 ≤ (x5_1 : Int) := zA8
   have q270 : x5_1 < (l0.length : Int) := zA8
   obtain ⟨ad270, A270_0, c270_0, e270, hx270_0, hx270_1, hx270_2, hl270_0, hi270_0⟩ := at_T90 HR0.out x5_1 p270 q270
   cases e270
   have HR270_0 := Aside0.mk hi270_0
   have HC270_0 := Aside0.mk hl270_0
   clear hi270_0 hl270_0
   replace p270 := eq_true p270
   replace q270 := eq_true q270
   go_wp2_with (first | ((with_reducible refine gate_callee (f := 42) rfl ?_); refine goesL_ (some 18) rfl rfl Try.func42 (by kernel_rfl) rfl #[.slice A270_0 ((rd_T90 l0 x5_1).f0).length c270_0, .int .i64 x1_1] rfl zT8 ?_; (with_reducible refine (laws_heldIntS.calls k1 _ _ ((rd_T90 l0 x5_1).f0) x1_1 t271 _ ?side1 ?side2 A5.out).mono ?_); (case side1 => exact zC8 HR270_0.out); (case side2 => exact HC270_0.out); rintro e w' ⟨rfl, ⟨nd, rfl⟩⟩; refine ⟨_, rfl, ?_⟩; have p272 : 0 ≤ (x5_1 : Int) := zA8; have q272 : x5_1 < (l0.length : Int) := zA8; obtain ⟨ad272, A272_0, c272_0, e272, hx272_0, hx272_1, hx272_2, hl272_0, hi272_0⟩ := at_T90 HR0.out x5_1 p272 q272; obtain rfl : ad270 = ad272 := (by injection e272); have HR272_0 := Aside0.mk hi272_0; have HC272_0 := Aside0.mk hl272_0; clear hi272_0 hl272_0; replace p272 := eq_true p272; replace q272 := eq_true q272; have ea_ := Option.some.inj (hx270_0.symm.trans hx272_0); injection ea_ with ea_ en_ ec_; subst ea_; subst ec_; clear en_; have p273 : 0 ≤ (x5_1 : Int) := zA8; have q273 : x5_1 < (l0.length : Int) := zA8; obtain ⟨ad273, A273_0, c273_0, e273, hx273_0, hx273_1, hx273_2, hl273_0, hi273_0⟩ := at_T90 HR0.out x5_1 p273 q273; obtain rfl : ad270 = ad273 := (by injection e273); have HR273_0 := Aside0.mk hi273_0; have HC273_0 := Aside0.mk hl273_0; clear hi273_0 hl273_0; replace p273 := eq_true p273; replace q273 := eq_true q273; have ea_ := Option.some.inj (hx270_0.symm.trans hx273_0); injection ea_ with ea_ en_ ec_; subst ea_; subst ec_; clear en_))
   go_roundg k1
   case measure => have := HK1.out; omega
   case rel => exact ⟨(wrap64 ((wrap64 (t271 + 1)) + 1)), (wrap64 (x5_1 + 1)), (by first | rfl | (simp; done) | (simp [*]; done)), (by first | rfl | (simp; done) | (simp [*]; done)), H', ⟨by have := HK1.out; omega⟩, by repeat (first | exact Drawn0.refl _ | apply Drawn0.step)⟩

/-! ### laws_FnExactSaveOf: function 6 -/
def KT (w : World) (L : List Nat) (k : Nat) : Prop := ∃ q, q ∈ L ∧ ∃ cells, w.heap[k]? = some (.cells cells q (0, 0))
theorem KT_ne {w : World} {L1 L2 : List Nat} {k : Nat} (hd : ∀ q, q ∈ L1 → ¬ q ∈ L2) (h1 : KT w L1 k) (h2 : KT w L2 k) : False := by
 obtain ⟨q1, m1, c1, e1⟩ := h1; obtain ⟨q2, m2, c2, e2⟩ := h2
 rw [e1] at e2; simp at e2; obtain ⟨_, rfl⟩ := e2; exact hd _ m1 m2
theorem own_any {A : Option Addr} {n n' c c' : Nat} : (Value.slice A n c).ownBlock = (Value.slice A n' c').ownBlock := by cases A <;> rfl
theorem iv_R {α : Type} {d : Kd α} {e b : Nat} {ok : Nat → Prop} {W w' : World} {v : Value} {xs : List α} (h : d.R e w' W.heap.size ok v xs) (hb : b ≤ W.heap.size) : d.R e w' b (fun k => W.heap.size ≤ k ∧ k < w'.heap.size ∧ KT w' (e :: d.E) k ∧ ok k) v xs := Kd.R_lower (Kd.R_mono (Kd.R_bound h) (fun _ hk => ⟨hk.2.1, hk.2.2.1, hk.2.2.2, hk.1⟩)) hb
theorem iv_O {α : Type} {d : Kd α} {e b : Nat} {ok : Nat → Prop} {W w' : World} {v : Value} {xs : List α} (hE : d.E = []) (h : d.R e w' W.heap.size ok v xs) (hb : b ≤ W.heap.size) : d.R e w' b (fun k => W.heap.size ≤ k ∧ k < w'.heap.size ∧ KT w' (e :: d.E) k ∧ some k = v.ownBlock) v xs := Kd.R_lower (Kd.R_mono (Kd.R_bound (Kd.R_tight2 hE h)) (fun _ hk => ⟨hk.2.1, hk.2.2.1, hk.2.2.2, hk.1.1⟩)) hb
theorem iv_S {α : Type} {d : Kd α} {e b : Nat} {ok : Nat → Prop} {W w' : World} {v : Value} {xs : List α} (h : Kd.S d e w' W.heap.size ok v xs) (hb : b ≤ W.heap.size) : Kd.S d e w' b (fun k => W.heap.size ≤ k ∧ k < w'.heap.size ∧ KT w' (e :: d.E) k ∧ ok k) v xs := Kd.S_lower (Kd.S_mono (Kd.S_bound h) (fun _ hk => ⟨hk.2.1, hk.2.2.1, hk.2.2.2, hk.1⟩)) hb
theorem iv_Q {α : Type} {d : Kd α} {e b : Nat} {ok : Nat → Prop} {W w' : World} {v : Value} {xs : List α} (h : d.Q e w' W.heap.size ok v xs) (hb : b ≤ W.heap.size) : d.Q e w' b (fun k => W.heap.size ≤ k ∧ k < w'.heap.size ∧ KT w' (e :: d.E) k ∧ ok k) v xs := Kd.Q_lower (Kd.Q_mono (Kd.Q_bound h) (fun _ hk => ⟨hk.2.1, hk.2.2.1, hk.2.2.2, hk.1⟩)) hb
def laws_FnExactSaveOf.f (k : Nat) (l0 : List Int) : Option (Bool) := if (l0.length : Int) > 1048576 then (some true) else ((laws_toByteS.f k l0).bind fun t324 => ((spec_SaveOf.f k t324).bind fun bt327 => ((laws_toByteS.f k l0).bind fun t334 => ((impl_SaveOf.f k t334).bind fun bt337 => ((laws_eqIntS.f k bt337.1 bt327.1).bind fun t344 => (if t344 = true then ((laws_eqHartS.f k bt337.2.1 bt327.2.1).bind fun t345 => (if t345 = true then (if (bt337.2.2 != bt327.2.2) = true then (some false) else ((laws_toByteS.f k l0).bind fun t346 => ((laws_eqByteS.f k t334 t346).bind fun t349 => (if t349 = true then ((laws_markByteS.f k t334 1).bind fun bt350 => (if bt350.1 < 0 then (some false) else ((laws_eqIntS.f k bt337.1 bt327.1).bind fun t352 => (if t352 = true then ((laws_eqHartS.f k bt337.2.1 bt327.2.1).bind fun t353 => (if t353 = true then ((laws_markIntS.f k bt337.1 1).bind fun bt354 => ((laws_markHartS.f k bt337.2.1 bt354.1).bind fun bt356 => ((laws_heldIntS.f k bt354.2 1).bind fun t358 => (if t358 < 0 then (some false) else ((laws_heldHartS.f k bt356.2 t358).bind fun t359 => (if t359 < 0 then (some false) else (if t359 = bt356.1 then ((laws_toByteS.f k l0).bind fun t360 => ((impl_SaveOf.f k t360).bind fun bt363 => ((laws_eqIntS.f k bt363.1 bt327.1).bind fun t370 => (if t370 = true then ((laws_eqHartS.f k bt363.2.1 bt327.2.1).bind fun t371 => (if t371 = true then (if (bt363.2.2 != bt327.2.2) = true then (some false) else ((laws_heldIntS.f k bt354.2 1).bind fun t372 => (if t372 < 0 then (some false) else ((laws_heldHartS.f k bt356.2 t372).bind fun t373 => (if t373 < 0 then (some false) else (if t373 = bt356.1 then (some true) else (some false))))))) else (some false))) else (some false))))) else (some false)))))))) else (some false))) else (some false))))) else (some false))))) else (some false))) else (some false)))))))
theorem laws_FnExactSaveOf.mono : ∀ a0 k, LeO (laws_FnExactSaveOf.f k a0) (laws_FnExactSaveOf.f (k + 1) a0) := by
 intro a0 k
 unfold laws_FnExactSaveOf.f
 repeat' first
   | (with_reducible exact impl_SaveOf.mono _ _)
   | (with_reducible exact laws_eqByteS.mono _ _ _)
   | (with_reducible exact laws_eqHartS.mono _ _ _)
   | (with_reducible exact laws_eqIntS.mono _ _ _)
   | (with_reducible exact laws_heldHartS.mono _ _ _)
   | (with_reducible exact laws_heldIntS.mono _ _ _)
   | (with_reducible exact laws_markByteS.mono _ _ _)
   | (with_reducible exact laws_markHartS.mono _ _ _)
   | (with_reducible exact laws_markIntS.mono _ _ _)
   | (with_reducible exact laws_toByteS.mono _ _)
   | (with_reducible exact spec_SaveOf.mono _ _)
   | (with_reducible exact LeO.refl _)
   | (with_reducible exact LeO.none _)
   | (with_reducible refine LeO.ite ?_ ?_)
   | (with_reducible refine LeO.bind ?_ (fun _ => ?_))
   | exact impl_SaveOf.mono _ _
   | exact laws_eqByteS.mono _ _ _
   | exact laws_eqHartS.mono _ _ _
   | exact laws_eqIntS.mono _ _ _
   | exact laws_heldHartS.mono _ _ _
   | exact laws_heldIntS.mono _ _ _
   | exact laws_markByteS.mono _ _ _
   | exact laws_markHartS.mono _ _ _
   | exact laws_markIntS.mono _ _ _
   | exact laws_toByteS.mono _ _
   | exact spec_SaveOf.mono _ _
   | exact LeO.none _
   | refine LeO.ite ?_ ?_
   | refine LeO.bind ?_ (fun _ => ?_)
set_option maxHeartbeats 8000000 in
set_option maxRecDepth 100000 in
theorem laws_FnExactSaveOf.calls (k : Nat) (A0 : Option Addr) (c0 : Nat) (l0 : List Int) (r : Bool) (w : World) (hr0 : Kd.C (Kd.int .u8) w A0 l0.length l0) (hc0 : l0.length ≤ c0) (hr_ : r = true) (h : laws_FnExactSaveOf.f k l0 = some r) :
  Calls Try.prog 6 #[.slice A0 l0.length c0] w fun e w' => e = .returned (.bool r) ∧ Below w.heap.size w w' := by
 subst hr_
 have HR0 := Aside0.mk hr0
 have HC0 := Aside0.mk hc0
 clear hr0 hc0
 unfold laws_FnExactSaveOf.f at h
 have H := h
 clear h
 by_cases ci1 : (l0.length : Int) > 1048576
 ·rw [if_pos ci1] at H
  have ci1b0 : decide (1048576 < (l0.length : Int)) = true := decide_eq_true ci1
  have ci1b1 : decide (1048576 < l0.length) = true := decide_eq_true (by omega)
  clear ci1
  have HB := Aside0.mk (Below.refl w.heap.size w)
  have HZ := Aside0.mk (Nat.le_refl w.heap.size)
  clear H
  go_enter Try.func6, Try.ntmps6
  go_wp2
  go_ret
  exact ⟨rfl, HB.out⟩
 rw [if_neg ci1] at H
 have ci1b0 : decide (1048576 < (l0.length : Int)) = false := decide_eq_false ci1
 have ci1b1 : decide (1048576 < l0.length) = false := decide_eq_false (by omega)
 clear ci1
 obtain ⟨t324, hA_, H⟩ := Option.bind_eq_some_iff.mp H
 try dsimp only at H
 have AE0 := Aside0.mk hA_
 clear hA_
 obtain ⟨⟨t327, t328, t329⟩, hA_, H⟩ := Option.bind_eq_some_iff.mp H
 try dsimp only at H
 have AE1 := Aside0.mk hA_
 clear hA_
 obtain ⟨t334, hA_, H⟩ := Option.bind_eq_some_iff.mp H
 try dsimp only at H
 have AE2 := Aside0.mk hA_
 clear hA_
 obtain ⟨⟨t337, t338, t339⟩, hA_, H⟩ := Option.bind_eq_some_iff.mp H
 try dsimp only at H
 have AE3 := Aside0.mk hA_
 clear hA_
 obtain ⟨t344, hA_, H⟩ := Option.bind_eq_some_iff.mp H
 try dsimp only at H
 have AE4 := Aside0.mk hA_
 clear hA_
 by_cases ci2 : t344 = true
 rotate_left
 ·rw [if_neg ci2] at H
  exact absurd H (by simp)
 rw [if_pos ci2] at H
 subst ci2
 obtain ⟨t345, hA_, H⟩ := Option.bind_eq_some_iff.mp H
 try dsimp only at H
 have AE5 := Aside0.mk hA_
 clear hA_
 by_cases ci3 : t345 = true
 rotate_left
 ·rw [if_neg ci3] at H
  exact absurd H (by simp)
 rw [if_pos ci3] at H
 subst ci3
 by_cases ci4 : (t339 != t329) = true
 ·rw [if_pos ci4] at H
  exact absurd H (by simp)
 rw [if_neg ci4] at H
 have ci4b0 : (t339 != t329) = false := by simpa using ci4
 (try (have ci4b1 : decide (t339 = t329) = true := by simpa using ci4))
 (try (have ci4b2 : (t339 == t329) = true := by simpa using ci4))
 clear ci4
 obtain ⟨t346, hA_, H⟩ := Option.bind_eq_some_iff.mp H
 try dsimp only at H
 have AE6 := Aside0.mk hA_
 clear hA_
 obtain ⟨t349, hA_, H⟩ := Option.bind_eq_some_iff.mp H
 try dsimp only at H
 have AE7 := Aside0.mk hA_
 clear hA_
 by_cases ci5 : t349 = true
 rotate_left
 ·rw [if_neg ci5] at H
  exact absurd H (by simp)
 rw [if_pos ci5] at H
 subst ci5
 obtain ⟨⟨t350, t351⟩, hA_, H⟩ := Option.bind_eq_some_iff.mp H
 try dsimp only at H
 have AE8 := Aside0.mk hA_
 clear hA_
 by_cases ci6 : t350 < 0
 ·rw [if_pos ci6] at H
  exact absurd H (by simp)
 rw [if_neg ci6] at H
 have ci6b0 : decide (t350 < 0) = false := decide_eq_false ci6
 clear ci6
 obtain ⟨t352, hA_, H⟩ := Option.bind_eq_some_iff.mp H
 try dsimp only at H
 have AE9 := Aside0.mk hA_
 clear hA_
 by_cases ci7 : t352 = true
 rotate_left
 ·rw [if_neg ci7] at H
  exact absurd H (by simp)
 rw [if_pos ci7] at H
 subst ci7
 obtain ⟨t353, hA_, H⟩ := Option.bind_eq_some_iff.mp H
 try dsimp only at H
 have AE10 := Aside0.mk hA_
 clear hA_
 by_cases ci8 : t353 = true
 rotate_left
 ·rw [if_neg ci8] at H
  exact absurd H (by simp)
 rw [if_pos ci8] at H
 subst ci8
 obtain ⟨⟨t354, t355⟩, hA_, H⟩ := Option.bind_eq_some_iff.mp H
 try dsimp only at H
 have AE11 := Aside0.mk hA_
 clear hA_
 obtain ⟨⟨t356, t357⟩, hA_, H⟩ := Option.bind_eq_some_iff.mp H
 try dsimp only at H
 have AE12 := Aside0.mk hA_
 clear hA_
 obtain ⟨t358, hA_, H⟩ := Option.bind_eq_some_iff.mp H
 try dsimp only at H
 have AE13 := Aside0.mk hA_
 clear hA_
 by_cases ci9 : t358 < 0
 ·rw [if_pos ci9] at H
  exact absurd H (by simp)
 rw [if_neg ci9] at H
 have ci9b0 : decide (t358 < 0) = false := decide_eq_false ci9
 clear ci9
 obtain ⟨t359, hA_, H⟩ := Option.bind_eq_some_iff.mp H
 try dsimp only at H
 have AE14 := Aside0.mk hA_
 clear hA_
 by_cases ci10 : t359 < 0
 ·rw [if_pos ci10] at H
  exact absurd H (by simp)
 rw [if_neg ci10] at H
 have ci10b0 : decide (t359 < 0) = false := decide_eq_false ci10
 clear ci10
 by_cases ci11 : t359 = t356
 rotate_left
 ·rw [if_neg ci11] at H
  exact absurd H (by simp)
 rw [if_pos ci11] at H
 have ci11b0 : (t359 == t356) = true := beq_iff_eq.mpr ci11
 have ci11b1 : (t359 != t356) = false := bne_eq_false_iff_eq.mpr ci11
 clear ci11
 obtain ⟨t360, hA_, H⟩ := Option.bind_eq_some_iff.mp H
 try dsimp only at H
 have AE15 := Aside0.mk hA_
 clear hA_
 obtain ⟨⟨t363, t364, t365⟩, hA_, H⟩ := Option.bind_eq_some_iff.mp H
 try dsimp only at H
 have AE16 := Aside0.mk hA_
 clear hA_
 obtain ⟨t370, hA_, H⟩ := Option.bind_eq_some_iff.mp H
 try dsimp only at H
 have AE17 := Aside0.mk hA_
 clear hA_
 by_cases ci12 : t370 = true
 rotate_left
 ·rw [if_neg ci12] at H
  exact absurd H (by simp)
 rw [if_pos ci12] at H
 subst ci12
 obtain ⟨t371, hA_, H⟩ := Option.bind_eq_some_iff.mp H
 try dsimp only at H
 have AE18 := Aside0.mk hA_
 clear hA_
 by_cases ci13 : t371 = true
 rotate_left
 ·rw [if_neg ci13] at H
  exact absurd H (by simp)
 rw [if_pos ci13] at H
 subst ci13
 by_cases ci14 : (t365 != t329) = true
 ·rw [if_pos ci14] at H
  exact absurd H (by simp)
 rw [if_neg ci14] at H
 have ci14b0 : (t365 != t329) = false := by simpa using ci14
 (try (have ci14b1 : decide (t365 = t329) = true := by simpa using ci14))
 (try (have ci14b2 : (t365 == t329) = true := by simpa using ci14))
 clear ci14
 obtain ⟨t372, hA_, H⟩ := Option.bind_eq_some_iff.mp H
 try dsimp only at H
 have AE19 := Aside0.mk hA_
 clear hA_
 by_cases ci15 : t372 < 0
 ·rw [if_pos ci15] at H
  exact absurd H (by simp)
 rw [if_neg ci15] at H
 have ci15b0 : decide (t372 < 0) = false := decide_eq_false ci15
 clear ci15
 obtain ⟨t373, hA_, H⟩ := Option.bind_eq_some_iff.mp H
 try dsimp only at H
 have AE20 := Aside0.mk hA_
 clear hA_
 by_cases ci16 : t373 < 0
 ·rw [if_pos ci16] at H
  exact absurd H (by simp)
 rw [if_neg ci16] at H
 have ci16b0 : decide (t373 < 0) = false := decide_eq_false ci16
 clear ci16
 by_cases ci17 : t373 = t356
 rotate_left
 ·rw [if_neg ci17] at H
  exact absurd H (by simp)
 rw [if_pos ci17] at H
 have ci17b0 : (t373 == t356) = true := beq_iff_eq.mpr ci17
 have ci17b1 : (t373 != t356) = false := bne_eq_false_iff_eq.mpr ci17
 clear ci17
 have HB := Aside0.mk (Below.refl w.heap.size w)
 have HZ := Aside0.mk (Nat.le_refl w.heap.size)
 clear H
 go_enter Try.func6, Try.ntmps6
 go_wp2_with (first | (go_at_call 40; (refine (laws_toByteS.calls k _ _ l0 t324 _ ((Kd.C_below HR0.out HB.out)) (HC0.out) AE0.out).mono ?_); rintro e wx1 ⟨v325, rfl, ho0, hb⟩; obtain ⟨AHO326, cHO326, e_⟩ := Kd.R_slice ho0; subst e_; have HO326 := Aside0.mk (iv_O rfl ho0 HB.out.size); clear ho0; have n_ := Aside0.mk (show _ ∧ w.heap.size ≤ wx1.heap.size from ⟨HZ.out, hb.size⟩); clear HZ; have HZ := n_; clear n_; have n_ := Aside0.mk (below_step HB.out hb); clear HB; have HB := n_; clear n_ hb))
 go_wp2_with (first | (go_at_call 39; (refine (spec_SaveOf.calls k _ _ t324 t327 t328 _ _ ((Kd.R_reads' HO326.out).2.2) ((Kd.R_reads' HO326.out).2.1) AE1.out).mono ?_); rintro e wx2 ⟨v330, v332, rfl, ho0, ho1, hb⟩; obtain ⟨AHO331, cHO331, e_⟩ := Kd.R_slice ho0; subst e_; obtain ⟨AHO333, cHO333, e_⟩ := Kd.S_slice ho1; subst e_; have n0_ := Aside0.mk (Kd.R_below HO326.out hb); clear HO326; have HO326 := n0_; clear n0_; have HO331 := Aside0.mk (iv_O rfl ho0 HB.out.size); clear ho0; have HO333 := Aside0.mk (iv_S ho1 HB.out.size); clear ho1; have n_ := Aside0.mk (show _ ∧ wx1.heap.size ≤ wx2.heap.size from ⟨HZ.out, hb.size⟩); clear HZ; have HZ := n_; clear n_; have n_ := Aside0.mk (below_step HB.out hb); clear HB; have HB := n_; clear n_ hb))
 go_wp2_with (first | (go_at_call 40; (refine (laws_toByteS.calls k _ _ l0 t334 _ ((Kd.C_below HR0.out HB.out)) (HC0.out) AE2.out).mono ?_); rintro e wx3 ⟨v335, rfl, ho0, hb⟩; obtain ⟨AHO336, cHO336, e_⟩ := Kd.R_slice ho0; subst e_; have n0_ := Aside0.mk (Kd.R_below HO326.out hb); have n1_ := Aside0.mk (Kd.R_below HO331.out hb); have n2_ := Aside0.mk (Kd.S_below HO333.out hb); clear HO326; clear HO331; clear HO333; have HO326 := n0_; have HO331 := n1_; have HO333 := n2_; clear n0_; clear n1_; clear n2_; have HO336 := Aside0.mk (iv_O rfl ho0 HB.out.size); clear ho0; have n_ := Aside0.mk (show _ ∧ wx2.heap.size ≤ wx3.heap.size from ⟨HZ.out, hb.size⟩); clear HZ; have HZ := n_; clear n_; have n_ := Aside0.mk (below_step HB.out hb); clear HB; have HB := n_; clear n_ hb))
 go_wp2_with (first | (go_at_call 41; (refine (impl_SaveOf.calls k _ _ t334 t337 t338 _ _ ((Kd.R_reads' HO336.out).2.2) ((Kd.R_reads' HO336.out).2.1) AE3.out).mono ?_); rintro e wx4 ⟨v340, v342, rfl, ho0, ho1, hb⟩; obtain ⟨AHO341, cHO341, e_⟩ := Kd.R_slice ho0; subst e_; obtain ⟨AHO343, cHO343, e_⟩ := Kd.S_slice ho1; subst e_; have n0_ := Aside0.mk (Kd.R_below HO326.out hb); have n1_ := Aside0.mk (Kd.R_below HO331.out hb); have n2_ := Aside0.mk (Kd.S_below HO333.out hb); have n3_ := Aside0.mk (Kd.R_below HO336.out hb); clear HO326; clear HO331; clear HO333; clear HO336; have HO326 := n0_; have HO331 := n1_; have HO333 := n2_; have HO336 := n3_; clear n0_; clear n1_; clear n2_; clear n3_; have HO341 := Aside0.mk (iv_O rfl ho0 HB.out.size); clear ho0; have HO343 := Aside0.mk (iv_S ho1 HB.out.size); clear ho1; have n_ := Aside0.mk (show _ ∧ wx3.heap.size ≤ wx4.heap.size from ⟨HZ.out, hb.size⟩); clear HZ; have HZ := n_; clear n_; have n_ := Aside0.mk (below_step HB.out hb); clear HB; have HB := n_; clear n_ hb))
 go_wp2_with (first | (go_at_call 28; (refine (laws_eqIntS.calls k _ _ t337 _ _ t327 _ _ ((Kd.R_reads' HO341.out).2.2) ((Kd.R_reads' HO341.out).2.1) ((Kd.R_reads' HO331.out).2.2) ((Kd.R_reads' HO331.out).2.1) AE4.out).mono ?_); rintro e wx5 ⟨rfl, hd_⟩; have hb := hd_.below; clear hd_; have n0_ := Aside0.mk (Kd.R_below HO326.out hb); have n1_ := Aside0.mk (Kd.R_below HO331.out hb); have n2_ := Aside0.mk (Kd.S_below HO333.out hb); have n3_ := Aside0.mk (Kd.R_below HO336.out hb); have n4_ := Aside0.mk (Kd.R_below HO341.out hb); have n5_ := Aside0.mk (Kd.S_below HO343.out hb); clear HO326; clear HO331; clear HO333; clear HO336; clear HO341; clear HO343; have HO326 := n0_; have HO331 := n1_; have HO333 := n2_; have HO336 := n3_; have HO341 := n4_; have HO343 := n5_; clear n0_; clear n1_; clear n2_; clear n3_; clear n4_; clear n5_; have n_ := Aside0.mk (show _ ∧ wx4.heap.size ≤ wx5.heap.size from ⟨HZ.out, hb.size⟩); clear HZ; have HZ := n_; clear n_; have n_ := Aside0.mk (below_step HB.out hb); clear HB; have HB := n_; clear n_ hb))
 go_wp2_with (first | (go_at_call 34; (refine (laws_eqHartS.calls k _ _ t338 _ _ t328 _ _ ((Kd.S_reads' HO343.out).2.2) ((Kd.S_reads' HO343.out).2.1) ((Kd.S_reads' HO333.out).2.2) ((Kd.S_reads' HO333.out).2.1) AE5.out).mono ?_); rintro e wx6 ⟨rfl, hb⟩; have n0_ := Aside0.mk (Kd.R_below HO326.out hb); have n1_ := Aside0.mk (Kd.R_below HO331.out hb); have n2_ := Aside0.mk (Kd.S_below HO333.out hb); have n3_ := Aside0.mk (Kd.R_below HO336.out hb); have n4_ := Aside0.mk (Kd.R_below HO341.out hb); have n5_ := Aside0.mk (Kd.S_below HO343.out hb); clear HO326; clear HO331; clear HO333; clear HO336; clear HO341; clear HO343; have HO326 := n0_; have HO331 := n1_; have HO333 := n2_; have HO336 := n3_; have HO341 := n4_; have HO343 := n5_; clear n0_; clear n1_; clear n2_; clear n3_; clear n4_; clear n5_; have n_ := Aside0.mk (show _ ∧ wx5.heap.size ≤ wx6.heap.size from ⟨HZ.out, hb.size⟩); clear HZ; have HZ := n_; clear n_; have n_ := Aside0.mk (below_step HB.out hb); clear HB; have HB := n_; clear n_ hb))
 go_wp2_with (first | (go_at_call 40; (refine (laws_toByteS.calls k _ _ l0 t346 _ ((Kd.C_below HR0.out HB.out)) (HC0.out) AE6.out).mono ?_); rintro e wx7 ⟨v347, rfl, ho0, hb⟩; obtain ⟨AHO348, cHO348, e_⟩ := Kd.R_slice ho0; subst e_; have n0_ := Aside0.mk (Kd.R_below HO326.out hb); have n1_ := Aside0.mk (Kd.R_below HO331.out hb); have n2_ := Aside0.mk (Kd.S_below HO333.out hb); have n3_ := Aside0.mk (Kd.R_below HO336.out hb); have n4_ := Aside0.mk (Kd.R_below HO341.out hb); have n5_ := Aside0.mk (Kd.S_below HO343.out hb); clear HO326; clear HO331; clear HO333; clear HO336; clear HO341; clear HO343; have HO326 := n0_; have HO331 := n1_; have HO333 := n2_; have HO336 := n3_; have HO341 := n4_; have HO343 := n5_; clear n0_; clear n1_; clear n2_; clear n3_; clear n4_; clear n5_; have HO348 := Aside0.mk (iv_O rfl ho0 HB.out.size); clear ho0; have n_ := Aside0.mk (show _ ∧ wx6.heap.size ≤ wx7.heap.size from ⟨HZ.out, hb.size⟩); clear HZ; have HZ := n_; clear n_; have n_ := Aside0.mk (below_step HB.out hb); clear HB; have HB := n_; clear n_ hb))
 go_wp2_with (first | (go_at_call 33; (refine (laws_eqByteS.calls k _ _ t334 _ _ t346 _ _ ((Kd.R_reads' HO336.out).2.2) ((Kd.R_reads' HO336.out).2.1) ((Kd.R_reads' HO348.out).2.2) ((Kd.R_reads' HO348.out).2.1) AE7.out).mono ?_); rintro e wx8 ⟨rfl, hd_⟩; have hb := hd_.below; clear hd_; have n0_ := Aside0.mk (Kd.R_below HO326.out hb); have n1_ := Aside0.mk (Kd.R_below HO331.out hb); have n2_ := Aside0.mk (Kd.S_below HO333.out hb); have n3_ := Aside0.mk (Kd.R_below HO336.out hb); have n4_ := Aside0.mk (Kd.R_below HO341.out hb); have n5_ := Aside0.mk (Kd.S_below HO343.out hb); have n6_ := Aside0.mk (Kd.R_below HO348.out hb); clear HO326; clear HO331; clear HO333; clear HO336; clear HO341; clear HO343; clear HO348; have HO326 := n0_; have HO331 := n1_; have HO333 := n2_; have HO336 := n3_; have HO341 := n4_; have HO343 := n5_; have HO348 := n6_; clear n0_; clear n1_; clear n2_; clear n3_; clear n4_; clear n5_; clear n6_; have n_ := Aside0.mk (show _ ∧ wx7.heap.size ≤ wx8.heap.size from ⟨HZ.out, hb.size⟩); clear HZ; have HZ := n_; clear n_; have n_ := Aside0.mk (below_step HB.out hb); clear HB; have HB := n_; clear n_ hb))
 go_wp2_with (first | (go_at_call 37; (refine (laws_markByteS.calls k _ (.slice AHO336 t334.length cHO336) t334 1 t350 t351 w _ HB.out (HO336.out) AE8.out).mono ?_); rintro e wx9 ⟨rfl, hy0, hb, hkp⟩; have n0_ := Aside0.mk (Kd.R_kept HO326.out hkp (fun k_ h1_ h2_ => (by have hz_ := HZ.out; have a_ := h1_.1; have b_ := h1_.2.1; have c_ := h2_.1; have d_ := h2_.2.1; clear h1_ h2_; omega))); have n1_ := Aside0.mk (Kd.R_kept HO331.out hkp (fun k_ h1_ h2_ => (by have hz_ := HZ.out; have a_ := h1_.1; have b_ := h1_.2.1; have c_ := h2_.1; have d_ := h2_.2.1; clear h1_ h2_; omega))); have n2_ := Aside0.mk (Kd.S_kept HO333.out hkp (fun k_ h1_ h2_ => (by have hz_ := HZ.out; have a_ := h1_.1; have b_ := h1_.2.1; have c_ := h2_.1; have d_ := h2_.2.1; clear h1_ h2_; omega))); have n3_ := Aside0.mk (Kd.R_kept HO341.out hkp (fun k_ h1_ h2_ => (by have hz_ := HZ.out; have a_ := h1_.1; have b_ := h1_.2.1; have c_ := h2_.1; have d_ := h2_.2.1; clear h1_ h2_; omega))); have n4_ := Aside0.mk (Kd.S_kept HO343.out hkp (fun k_ h1_ h2_ => (by have hz_ := HZ.out; have a_ := h1_.1; have b_ := h1_.2.1; have c_ := h2_.1; have d_ := h2_.2.1; clear h1_ h2_; omega))); have n5_ := Aside0.mk (Kd.R_kept HO348.out hkp (fun k_ h1_ h2_ => (by have hz_ := HZ.out; have a_ := h1_.1; have b_ := h1_.2.1; have c_ := h2_.1; have d_ := h2_.2.1; clear h1_ h2_; omega))); clear HO326; clear HO331; clear HO333; clear HO341; clear HO343; clear HO348; have HO326 := n0_; have HO331 := n1_; have HO333 := n2_; have HO341 := n3_; have HO343 := n4_; have HO348 := n5_; clear n0_; clear n1_; clear n2_; clear n3_; clear n4_; clear n5_; have n_ := Aside0.mk (Kd.R_reok rfl hy0 (fun k_ e_ => HO336.out.1 k_ e_)); have hl_ := (Kd.R_reads' n_.out).1; rw [hl_] at n_ ⊢; clear hl_ HO336; have HO336 := n_; clear n_; have n_ := Aside0.mk (show _ ∧ wx8.heap.size ≤ wx9.heap.size from ⟨HZ.out, hkp.1⟩); clear HZ; have HZ := n_; clear n_; have n_ := Aside0.mk hb; clear HB; have HB := n_; clear n_ hb hkp))
 go_wp2_with (first | (go_at_call 28; (refine (laws_eqIntS.calls k _ _ t337 _ _ t327 _ _ ((Kd.R_reads' HO341.out).2.2) ((Kd.R_reads' HO341.out).2.1) ((Kd.R_reads' HO331.out).2.2) ((Kd.R_reads' HO331.out).2.1) AE9.out).mono ?_); rintro e wx10 ⟨rfl, hd_⟩; have hb := hd_.below; clear hd_; have n0_ := Aside0.mk (Kd.R_below HO326.out hb); have n1_ := Aside0.mk (Kd.R_below HO331.out hb); have n2_ := Aside0.mk (Kd.S_below HO333.out hb); have n3_ := Aside0.mk (Kd.R_below HO336.out hb); have n4_ := Aside0.mk (Kd.R_below HO341.out hb); have n5_ := Aside0.mk (Kd.S_below HO343.out hb); have n6_ := Aside0.mk (Kd.R_below HO348.out hb); clear HO326; clear HO331; clear HO333; clear HO336; clear HO341; clear HO343; clear HO348; have HO326 := n0_; have HO331 := n1_; have HO333 := n2_; have HO336 := n3_; have HO341 := n4_; have HO343 := n5_; have HO348 := n6_; clear n0_; clear n1_; clear n2_; clear n3_; clear n4_; clear n5_; clear n6_; have n_ := Aside0.mk (show _ ∧ wx9.heap.size ≤ wx10.heap.size from ⟨HZ.out, hb.size⟩); clear HZ; have HZ := n_; clear n_; have n_ := Aside0.mk (below_step HB.out hb); clear HB; have HB := n_; clear n_ hb))
 go_wp2_with (first | (go_at_call 34; (refine (laws_eqHartS.calls k _ _ t338 _ _ t328 _ _ ((Kd.S_reads' HO343.out).2.2) ((Kd.S_reads' HO343.out).2.1) ((Kd.S_reads' HO333.out).2.2) ((Kd.S_reads' HO333.out).2.1) AE10.out).mono ?_); rintro e wx11 ⟨rfl, hb⟩; have n0_ := Aside0.mk (Kd.R_below HO326.out hb); have n1_ := Aside0.mk (Kd.R_below HO331.out hb); have n2_ := Aside0.mk (Kd.S_below HO333.out hb); have n3_ := Aside0.mk (Kd.R_below HO336.out hb); have n4_ := Aside0.mk (Kd.R_below HO341.out hb); have n5_ := Aside0.mk (Kd.S_below HO343.out hb); have n6_ := Aside0.mk (Kd.R_below HO348.out hb); clear HO326; clear HO331; clear HO333; clear HO336; clear HO341; clear HO343; clear HO348; have HO326 := n0_; have HO331 := n1_; have HO333 := n2_; have HO336 := n3_; have HO341 := n4_; have HO343 := n5_; have HO348 := n6_; clear n0_; clear n1_; clear n2_; clear n3_; clear n4_; clear n5_; clear n6_; have n_ := Aside0.mk (show _ ∧ wx10.heap.size ≤ wx11.heap.size from ⟨HZ.out, hb.size⟩); clear HZ; have HZ := n_; clear n_; have n_ := Aside0.mk (below_step HB.out hb); clear HB; have HB := n_; clear n_ hb))
 go_wp2_with (first | (go_at_call 35; (refine (laws_markIntS.calls k _ (.slice AHO341 t337.length cHO341) t337 1 t354 t355 w _ HB.out (HO341.out) AE11.out).mono ?_); rintro e wx12 ⟨rfl, hy0, hb, hkp⟩; have n0_ := Aside0.mk (Kd.R_kept HO326.out hkp (fun k_ h1_ h2_ => (by have hz_ := HZ.out; have a_ := h1_.1; have b_ := h1_.2.1; have c_ := h2_.1; have d_ := h2_.2.1; clear h1_ h2_; omega))); have n1_ := Aside0.mk (Kd.R_kept HO331.out hkp (fun k_ h1_ h2_ => (by have hz_ := HZ.out; have a_ := h1_.1; have b_ := h1_.2.1; have c_ := h2_.1; have d_ := h2_.2.1; clear h1_ h2_; omega))); have n2_ := Aside0.mk (Kd.S_kept HO333.out hkp (fun k_ h1_ h2_ => (by have hz_ := HZ.out; have a_ := h1_.1; have b_ := h1_.2.1; have c_ := h2_.1; have d_ := h2_.2.1; clear h1_ h2_; omega))); have n3_ := Aside0.mk (Kd.R_kept HO336.out hkp (fun k_ h1_ h2_ => (by have hz_ := HZ.out; have a_ := h1_.1; have b_ := h1_.2.1; have c_ := h2_.1; have d_ := h2_.2.1; clear h1_ h2_; omega))); have n4_ := Aside0.mk (Kd.S_kept HO343.out hkp (fun k_ h1_ h2_ => (by first | exact KT_ne (by decide) h1_.2.2.1 h2_.2.2.1 | exact h1_.2.2.2 h2_.2.2.2 | exact h2_.2.2.2 h1_.2.2.2 | exact h1_.2.2.2 (h2_.2.2.2.trans own_any) | exact h2_.2.2.2 (h1_.2.2.2.trans own_any)))); have n5_ := Aside0.mk (Kd.R_kept HO348.out hkp (fun k_ h1_ h2_ => (by have hz_ := HZ.out; have a_ := h1_.1; have b_ := h1_.2.1; have c_ := h2_.1; have d_ := h2_.2.1; clear h1_ h2_; omega))); clear HO326; clear HO331; clear HO333; clear HO336; clear HO343; clear HO348; have HO326 := n0_; have HO331 := n1_; have HO333 := n2_; have HO336 := n3_; have HO343 := n4_; have HO348 := n5_; clear n0_; clear n1_; clear n2_; clear n3_; clear n4_; clear n5_; have n_ := Aside0.mk (Kd.R_reok rfl hy0 (fun k_ e_ => HO341.out.1 k_ e_)); have hl_ := (Kd.R_reads' n_.out).1; rw [hl_] at n_ ⊢; clear hl_ HO341; have HO341 := n_; clear n_; have n_ := Aside0.mk (show _ ∧ wx11.heap.size ≤ wx12.heap.size from ⟨HZ.out, hkp.1⟩); clear HZ; have HZ := n_; clear n_; have n_ := Aside0.mk hb; clear HB; have HB := n_; clear n_ hb hkp))
 go_wp2_with (first | (go_at_call 36; (refine (laws_markHartS.calls k _ (.slice AHO343 t338.length cHO343) t338 t354 t356 t357 w _ HB.out (HO343.out) AE12.out).mono ?_); rintro e wx13 ⟨rfl, hy0, hb, hkp⟩; have n0_ := Aside0.mk (Kd.R_kept HO326.out hkp (fun k_ h1_ h2_ => (by have hz_ := HZ.out; have a_ := h1_.1; have b_ := h1_.2.1; have c_ := h2_.1; have d_ := h2_.2.1; clear h1_ h2_; omega))); have n1_ := Aside0.mk (Kd.R_kept HO331.out hkp (fun k_ h1_ h2_ => (by have hz_ := HZ.out; have a_ := h1_.1; have b_ := h1_.2.1; have c_ := h2_.1; have d_ := h2_.2.1; clear h1_ h2_; omega))); have n2_ := Aside0.mk (Kd.S_kept HO333.out hkp (fun k_ h1_ h2_ => (by have hz_ := HZ.out; have a_ := h1_.1; have b_ := h1_.2.1; have c_ := h2_.1; have d_ := h2_.2.1; clear h1_ h2_; omega))); have n3_ := Aside0.mk (Kd.R_kept HO336.out hkp (fun k_ h1_ h2_ => (by have hz_ := HZ.out; have a_ := h1_.1; have b_ := h1_.2.1; have c_ := h2_.1; have d_ := h2_.2.1; clear h1_ h2_; omega))); have n4_ := Aside0.mk (Kd.R_kept HO341.out hkp (fun k_ h1_ h2_ => (by first | exact KT_ne (by decide) h1_.2.2.1 h2_.2.2.1 | exact h1_.2.2.2 h2_.2.2.2 | exact h2_.2.2.2 h1_.2.2.2 | exact h1_.2.2.2 (h2_.2.2.2.trans own_any) | exact h2_.2.2.2 (h1_.2.2.2.trans own_any)))); have n5_ := Aside0.mk (Kd.R_kept HO348.out hkp (fun k_ h1_ h2_ => (by have hz_ := HZ.out; have a_ := h1_.1; have b_ := h1_.2.1; have c_ := h2_.1; have d_ := h2_.2.1; clear h1_ h2_; omega))); clear HO326; clear HO331; clear HO333; clear HO336; clear HO341; clear HO348; have HO326 := n0_; have HO331 := n1_; have HO333 := n2_; have HO336 := n3_; have HO341 := n4_; have HO348 := n5_; clear n0_; clear n1_; clear n2_; clear n3_; clear n4_; clear n5_; have n_ := Aside0.mk (hy0); have hl_ := (Kd.S_reads' n_.out).1; rw [hl_] at n_ ⊢; clear hl_ HO343; have HO343 := n_; clear n_; have n_ := Aside0.mk (show _ ∧ wx12.heap.size ≤ wx13.heap.size from ⟨HZ.out, hkp.1⟩); clear HZ; have HZ := n_; clear n_; have n_ := Aside0.mk hb; clear HB; have HB := n_; clear n_ hb hkp))
 go_wp2_with (first | (go_at_call 42; (refine (laws_heldIntS.calls k _ _ t355 1 t358 _ ((Kd.R_reads' HO341.out).2.2) ((Kd.R_reads' HO341.out).2.1) AE13.out).mono ?_); rintro e wx14 ⟨rfl, hd_⟩; have hb := hd_.below; clear hd_; have n0_ := Aside0.mk (Kd.R_below HO326.out hb); have n1_ := Aside0.mk (Kd.R_below HO331.out hb); have n2_ := Aside0.mk (Kd.S_below HO333.out hb); have n3_ := Aside0.mk (Kd.R_below HO336.out hb); have n4_ := Aside0.mk (Kd.R_below HO341.out hb); have n5_ := Aside0.mk (Kd.S_below HO343.out hb); have n6_ := Aside0.mk (Kd.R_below HO348.out hb); clear HO326; clear HO331; clear HO333; clear HO336; clear HO341; clear HO343; clear HO348; have HO326 := n0_; have HO331 := n1_; have HO333 := n2_; have HO336 := n3_; have HO341 := n4_; have HO343 := n5_; have HO348 := n6_; clear n0_; clear n1_; clear n2_; clear n3_; clear n4_; clear n5_; clear n6_; have n_ := Aside0.mk (show _ ∧ wx13.heap.size ≤ wx14.heap.size from ⟨HZ.out, hb.size⟩); clear HZ; have HZ := n_; clear n_; have n_ := Aside0.mk (below_step HB.out hb); clear HB; have HB := n_; clear n_ hb))
 go_wp2_with (first | (go_at_call 43; (refine (laws_heldHartS.calls k _ _ t357 t358 t359 _ ((Kd.S_reads' HO343.out).2.2) ((Kd.S_reads' HO343.out).2.1) AE14.out).mono ?_); rintro e wx15 ⟨rfl, hd_⟩; have hb := hd_.below; clear hd_; have n0_ := Aside0.mk (Kd.R_below HO326.out hb); have n1_ := Aside0.mk (Kd.R_below HO331.out hb); have n2_ := Aside0.mk (Kd.S_below HO333.out hb); have n3_ := Aside0.mk (Kd.R_below HO336.out hb); have n4_ := Aside0.mk (Kd.R_below HO341.out hb); have n5_ := Aside0.mk (Kd.S_below HO343.out hb); have n6_ := Aside0.mk (Kd.R_below HO348.out hb); clear HO326; clear HO331; clear HO333; clear HO336; clear HO341; clear HO343; clear HO348; have HO326 := n0_; have HO331 := n1_; have HO333 := n2_; have HO336 := n3_; have HO341 := n4_; have HO343 := n5_; have HO348 := n6_; clear n0_; clear n1_; clear n2_; clear n3_; clear n4_; clear n5_; clear n6_; have n_ := Aside0.mk (show _ ∧ wx14.heap.size ≤ wx15.heap.size from ⟨HZ.out, hb.size⟩); clear HZ; have HZ := n_; clear n_; have n_ := Aside0.mk (below_step HB.out hb); clear HB; have HB := n_; clear n_ hb))
 go_wp2_with (first | (go_at_call 40; (refine (laws_toByteS.calls k _ _ l0 t360 _ ((Kd.C_below HR0.out HB.out)) (HC0.out) AE15.out).mono ?_); rintro e wx16 ⟨v361, rfl, ho0, hb⟩; obtain ⟨AHO362, cHO362, e_⟩ := Kd.R_slice ho0; subst e_; have n0_ := Aside0.mk (Kd.R_below HO326.out hb); have n1_ := Aside0.mk (Kd.R_below HO331.out hb); have n2_ := Aside0.mk (Kd.S_below HO333.out hb); have n3_ := Aside0.mk (Kd.R_below HO336.out hb); have n4_ := Aside0.mk (Kd.R_below HO341.out hb); have n5_ := Aside0.mk (Kd.S_below HO343.out hb); have n6_ := Aside0.mk (Kd.R_below HO348.out hb); clear HO326; clear HO331; clear HO333; clear HO336; clear HO341; clear HO343; clear HO348; have HO326 := n0_; have HO331 := n1_; have HO333 := n2_; have HO336 := n3_; have HO341 := n4_; have HO343 := n5_; have HO348 := n6_; clear n0_; clear n1_; clear n2_; clear n3_; clear n4_; clear n5_; clear n6_; have HO362 := Aside0.mk (iv_O rfl ho0 HB.out.size); clear ho0; have n_ := Aside0.mk (show _ ∧ wx15.heap.size ≤ wx16.heap.size from ⟨HZ.out, hb.size⟩); clear HZ; have HZ := n_; clear n_; have n_ := Aside0.mk (below_step HB.out hb); clear HB; have HB := n_; clear n_ hb))
 go_wp2_with (first | (go_at_call 41; (refine (impl_SaveOf.calls k _ _ t360 t363 t364 _ _ ((Kd.R_reads' HO362.out).2.2) ((Kd.R_reads' HO362.out).2.1) AE16.out).mono ?_); rintro e wx17 ⟨v366, v368, rfl, ho0, ho1, hb⟩; obtain ⟨AHO367, cHO367, e_⟩ := Kd.R_slice ho0; subst e_; obtain ⟨AHO369, cHO369, e_⟩ := Kd.S_slice ho1; subst e_; have n0_ := Aside0.mk (Kd.R_below HO326.out hb); have n1_ := Aside0.mk (Kd.R_below HO331.out hb); have n2_ := Aside0.mk (Kd.S_below HO333.out hb); have n3_ := Aside0.mk (Kd.R_below HO336.out hb); have n4_ := Aside0.mk (Kd.R_below HO341.out hb); have n5_ := Aside0.mk (Kd.S_below HO343.out hb); have n6_ := Aside0.mk (Kd.R_below HO348.out hb); have n7_ := Aside0.mk (Kd.R_below HO362.out hb); clear HO326; clear HO331; clear HO333; clear HO336; clear HO341; clear HO343; clear HO348; clear HO362; have HO326 := n0_; have HO331 := n1_; have HO333 := n2_; have HO336 := n3_; have HO341 := n4_; have HO343 := n5_; have HO348 := n6_; have HO362 := n7_; clear n0_; clear n1_; clear n2_; clear n3_; clear n4_; clear n5_; clear n6_; clear n7_; have HO367 := Aside0.mk (iv_O rfl ho0 HB.out.size); clear ho0; have HO369 := Aside0.mk (iv_S ho1 HB.out.size); clear ho1; have n_ := Aside0.mk (show _ ∧ wx16.heap.size ≤ wx17.heap.size from ⟨HZ.out, hb.size⟩); clear HZ; have HZ := n_; clear n_; have n_ := Aside0.mk (below_step HB.out hb); clear HB; have HB := n_; clear n_ hb))
 go_wp2_with (first | (go_at_call 28; (refine (laws_eqIntS.calls k _ _ t363 _ _ t327 _ _ ((Kd.R_reads' HO367.out).2.2) ((Kd.R_reads' HO367.out).2.1) ((Kd.R_reads' HO331.out).2.2) ((Kd.R_reads' HO331.out).2.1) AE17.out).mono ?_); rintro e wx18 ⟨rfl, hd_⟩; have hb := hd_.below; clear hd_; have n0_ := Aside0.mk (Kd.R_below HO326.out hb); have n1_ := Aside0.mk (Kd.R_below HO331.out hb); have n2_ := Aside0.mk (Kd.S_below HO333.out hb); have n3_ := Aside0.mk (Kd.R_below HO336.out hb); have n4_ := Aside0.mk (Kd.R_below HO341.out hb); have n5_ := Aside0.mk (Kd.S_below HO343.out hb); have n6_ := Aside0.mk (Kd.R_below HO348.out hb); have n7_ := Aside0.mk (Kd.R_below HO362.out hb); have n8_ := Aside0.mk (Kd.R_below HO367.out hb); have n9_ := Aside0.mk (Kd.S_below HO369.out hb); clear HO326; clear HO331; clear HO333; clear HO336; clear HO341; clear HO343; clear HO348; clear HO362; clear HO367; clear HO369; have HO326 := n0_; have HO331 := n1_; have HO333 := n2_; have HO336 := n3_; have HO341 := n4_; have HO343 := n5_; have HO348 := n6_; have HO362 := n7_; have HO367 := n8_; have HO369 := n9_; clear n0_; clear n1_; clear n2_; clear n3_; clear n4_; clear n5_; clear n6_; clear n7_; clear n8_; clear n9_; have n_ := Aside0.mk (show _ ∧ wx17.heap.size ≤ wx18.heap.size from ⟨HZ.out, hb.size⟩); clear HZ; have HZ := n_; clear n_; have n_ := Aside0.mk (below_step HB.out hb); clear HB; have HB := n_; clear n_ hb))
 go_wp2_with (first | (go_at_call 34; (refine (laws_eqHartS.calls k _ _ t364 _ _ t328 _ _ ((Kd.S_reads' HO369.out).2.2) ((Kd.S_reads' HO369.out).2.1) ((Kd.S_reads' HO333.out).2.2) ((Kd.S_reads' HO333.out).2.1) AE18.out).mono ?_); rintro e wx19 ⟨rfl, hb⟩; have n0_ := Aside0.mk (Kd.R_below HO326.out hb); have n1_ := Aside0.mk (Kd.R_below HO331.out hb); have n2_ := Aside0.mk (Kd.S_below HO333.out hb); have n3_ := Aside0.mk (Kd.R_below HO336.out hb); have n4_ := Aside0.mk (Kd.R_below HO341.out hb); have n5_ := Aside0.mk (Kd.S_below HO343.out hb); have n6_ := Aside0.mk (Kd.R_below HO348.out hb); have n7_ := Aside0.mk (Kd.R_below HO362.out hb); have n8_ := Aside0.mk (Kd.R_below HO367.out hb); have n9_ := Aside0.mk (Kd.S_below HO369.out hb); clear HO326; clear HO331; clear HO333; clear HO336; clear HO341; clear HO343; clear HO348; clear HO362; clear HO367; clear HO369; have HO326 := n0_; have HO331 := n1_; have HO333 := n2_; have HO336 := n3_; have HO341 := n4_; have HO343 := n5_; have HO348 := n6_; have HO362 := n7_; have HO367 := n8_; have HO369 := n9_; clear n0_; clear n1_; clear n2_; clear n3_; clear n4_; clear n5_; clear n6_; clear n7_; clear n8_; clear n9_; have n_ := Aside0.mk (show _ ∧ wx18.heap.size ≤ wx19.heap.size from ⟨HZ.out, hb.size⟩); clear HZ; have HZ := n_; clear n_; have n_ := Aside0.mk (below_step HB.out hb); clear HB; have HB := n_; clear n_ hb))
 go_wp2_with (first | (go_at_call 42; (refine (laws_heldIntS.calls k _ _ t355 1 t372 _ ((Kd.R_reads' HO341.out).2.2) ((Kd.R_reads' HO341.out).2.1) AE19.out).mono ?_); rintro e wx20 ⟨rfl, hd_⟩; have hb := hd_.below; clear hd_; have n0_ := Aside0.mk (Kd.R_below HO326.out hb); have n1_ := Aside0.mk (Kd.R_below HO331.out hb); have n2_ := Aside0.mk (Kd.S_below HO333.out hb); have n3_ := Aside0.mk (Kd.R_below HO336.out hb); have n4_ := Aside0.mk (Kd.R_below HO341.out hb); have n5_ := Aside0.mk (Kd.S_below HO343.out hb); have n6_ := Aside0.mk (Kd.R_below HO348.out hb); have n7_ := Aside0.mk (Kd.R_below HO362.out hb); have n8_ := Aside0.mk (Kd.R_below HO367.out hb); have n9_ := Aside0.mk (Kd.S_below HO369.out hb); clear HO326; clear HO331; clear HO333; clear HO336; clear HO341; clear HO343; clear HO348; clear HO362; clear HO367; clear HO369; have HO326 := n0_; have HO331 := n1_; have HO333 := n2_; have HO336 := n3_; have HO341 := n4_; have HO343 := n5_; have HO348 := n6_; have HO362 := n7_; have HO367 := n8_; have HO369 := n9_; clear n0_; clear n1_; clear n2_; clear n3_; clear n4_; clear n5_; clear n6_; clear n7_; clear n8_; clear n9_; have n_ := Aside0.mk (show _ ∧ wx19.heap.size ≤ wx20.heap.size from ⟨HZ.out, hb.size⟩); clear HZ; have HZ := n_; clear n_; have n_ := Aside0.mk (below_step HB.out hb); clear HB; have HB := n_; clear n_ hb))
 go_wp2_with (first | (go_at_call 43; (refine (laws_heldHartS.calls k _ _ t357 t372 t373 _ ((Kd.S_reads' HO343.out).2.2) ((Kd.S_reads' HO343.out).2.1) AE20.out).mono ?_); rintro e wx21 ⟨rfl, hd_⟩; have hb := hd_.below; clear hd_; have n0_ := Aside0.mk (Kd.R_below HO326.out hb); have n1_ := Aside0.mk (Kd.R_below HO331.out hb); have n2_ := Aside0.mk (Kd.S_below HO333.out hb); have n3_ := Aside0.mk (Kd.R_below HO336.out hb); have n4_ := Aside0.mk (Kd.R_below HO341.out hb); have n5_ := Aside0.mk (Kd.S_below HO343.out hb); have n6_ := Aside0.mk (Kd.R_below HO348.out hb); have n7_ := Aside0.mk (Kd.R_below HO362.out hb); have n8_ := Aside0.mk (Kd.R_below HO367.out hb); have n9_ := Aside0.mk (Kd.S_below HO369.out hb); clear HO326; clear HO331; clear HO333; clear HO336; clear HO341; clear HO343; clear HO348; clear HO362; clear HO367; clear HO369; have HO326 := n0_; have HO331 := n1_; have HO333 := n2_; have HO336 := n3_; have HO341 := n4_; have HO343 := n5_; have HO348 := n6_; have HO362 := n7_; have HO367 := n8_; have HO369 := n9_; clear n0_; clear n1_; clear n2_; clear n3_; clear n4_; clear n5_; clear n6_; clear n7_; clear n8_; clear n9_; have n_ := Aside0.mk (show _ ∧ wx20.heap.size ≤ wx21.heap.size from ⟨HZ.out, hb.size⟩); clear HZ; have HZ := n_; clear n_; have n_ := Aside0.mk (below_step HB.out hb); clear HB; have HB := n_; clear n_ hb))
 go_ret
 exact ⟨rfl, HB.out⟩

/-- THE ONE PURE STATEMENT of laws_FnExactSaveOf: yours. -/
def laws_FnExactSaveOf.Pure : Prop := ∀ (l0 : List Int), (l0.length ≤ maxLen ∧ ∀ y1_ ∈ l0, (Lit.int .u8 y1_).wf = true) → ∃ k, laws_FnExactSaveOf.f k l0 = some true
theorem laws_FnExactSaveOf.walk (P : laws_FnExactSaveOf.Pure) (A0 : Option Addr) (c0 : Nat) (l0 : List Int) (w : World) (hr0 : Kd.C (Kd.int .u8) w A0 l0.length l0) (hc0 : l0.length ≤ c0) (g0 : (l0.length ≤ maxLen ∧ ∀ y1_ ∈ l0, (Lit.int .u8 y1_).wf = true)) :
  Calls Try.prog 6 #[.slice A0 l0.length c0] w fun e w' => e = .returned (.bool true) ∧ Below w.heap.size w w' := by
 obtain ⟨k, h⟩ := P l0 g0
 exact laws_FnExactSaveOf.calls k A0 c0 l0 true w hr0 hc0 rfl h

end Go.Proofs.Ytbbieaglfgipnaa.PFnExactSaveOf
