-- made by wip/tools/myprint.py out of the seat's translation
import Derived.Test.YtaakcbgpmabaaaaDoorPFnStoriesx0
import Derived.Shelf.Strings.Builder1
import Derived.Shelf.Strings.Builder2
import Derived.Shelf.Strings.OnBuilder
import Derived.Test.YtaakcbgpmabaaaaDoorPFnStoriesx2
import Derived.Test.YtaakcbgpmabaaaaDoorPFnStoriesx5
import Derived.Test.YtaakcbgpmabaaaaDoorPFnStoriesx7
import Derived.Test.YtaakcbgpmabaaaaDoorPFnStoriesx8
namespace Go.Proofs.YtaakcbgpmabaaaaDoor.PFnStories
open Go.RowKit Go.Proofs.YtaakcbgpmabaaaaDoorW.PrintWords Go.Proofs.YtaakcbgpmabaaaaDoorW.PrintLast Go.Proofs.YtaakcbgpmabaaaaDoorW.PrintMore
attribute [local go_sem] max2_int min2_int max_two min_two max_three min_three max_four min_four   -- for this text's walks alone
set_option linter.unusedVariables false
set_option linter.unusedSimpArgs false
set_option maxHeartbeats 8000000
set_option maxRecDepth 100000

/-! ### spec_Trace: function 32 -/
mutual
def spec_Trace.l0 : Nat → List Int → List (S31) → List Int → List (S80) → Int → Option ((List (S31)))
 | 0, _, _, _, _, _ => none
 | k + 1, x2, x7, x8, x9, x10 => if x10 < (x2.length : Int) then (spec_Trace.j1 k x2 x7 x8 x9 x10 (decide ((x2.length : Int) ≤ 2000))) else (spec_Trace.j1 k x2 x7 x8 x9 x10 false)
def spec_Trace.j1 : Nat → List Int → List (S31) → List Int → List (S80) → Int → Bool → Option ((List (S31)))
 | 0, _, _, _, _, _, _ => none
 | k + 1, x2, x7, x8, x9, x10, x31 => if x31 = true then (if 0 ≤ x10 then (if x10 < (x2.length : Int) then ((spec_l1In.f (rd x2 x10) 0 (wrap64 ((x9.length : Int) - 1))).bind fun t441 => (if t441 = true then (if 0 ≤ (rd x2 x10) then (if (rd x2 x10) < (x9.length : Int) then ((spec_EventOf.f k x8 ((rd_T80 x9 (rd x2 x10)).f0) ((rd_T80 x9 (rd x2 x10)).f1) ((rd_T80 x9 (rd x2 x10)).f2) (rd x2 x10)).bind fun bt443 => (if bt443.2.2.2.2.2 = true then (if x7.length < 3518437208883 then ((spec_FlatStep.f k x8 ((rd_T80 x9 (rd x2 x10)).f0) ((rd_T80 x9 (rd x2 x10)).f1) ((rd_T80 x9 (rd x2 x10)).f2)).bind fun bt454 => (spec_Trace.l0 k x2 (x7 ++ [(⟨bt443.1, bt443.2.1, bt443.2.2.1, bt443.2.2.2.1, bt443.2.2.2.2.1⟩ : S31)]) bt454.1 (x9.set ((rd x2 x10) : Int).toNat (⟨bt454.2.1, bt454.2.2.1, bt454.2.2.2⟩ : S80)) (wrap64 (x10 + 1)))) else (none)) else ((spec_FlatStep.f k x8 ((rd_T80 x9 (rd x2 x10)).f0) ((rd_T80 x9 (rd x2 x10)).f1) ((rd_T80 x9 (rd x2 x10)).f2)).bind fun bt465 => (spec_Trace.l0 k x2 x7 bt465.1 (x9.set ((rd x2 x10) : Int).toNat (⟨bt465.2.1, bt465.2.2.1, bt465.2.2.2⟩ : S80)) (wrap64 (x10 + 1)))))) else (none)) else (none)) else (spec_Trace.l0 k x2 x7 x8 x9 (wrap64 (x10 + 1))))) else (none)) else (none)) else (some x7)
end
def spec_Trace.f (k : Nat) (l0 : List Int) (l1 : List (S80)) (l2 : List Int) : Option ((List (S31))) := (some (([] : List Int) : List Int)).bind fun y428 => (if y428.length + l0.length < 17592186044416 then ((some (([] : List (S80)) : List (S80))).bind fun y434 => (if y434.length + l1.length < 3518437208883 then (spec_Trace.l0 k l2 (([] : List (S31))) (y428 ++ l0) (y434 ++ l1) 0) else (none))) else (none))
theorem spec_Trace.mono_l : ∀ k, (∀ y0 y1 y2 y3 y4, LeO (spec_Trace.l0 k y0 y1 y2 y3 y4) (spec_Trace.l0 (k + 1) y0 y1 y2 y3 y4)) ∧ (∀ y0 y1 y2 y3 y4 y5, LeO (spec_Trace.j1 k y0 y1 y2 y3 y4 y5) (spec_Trace.j1 (k + 1) y0 y1 y2 y3 y4 y5))
 | 0 => ⟨fun _ _ _ _ _ r h => by simp [spec_Trace.l0] at h, fun _ _ _ _ _ _ r h => by simp [spec_Trace.j1] at h⟩
 | k + 1 => by
  obtain ⟨ih0, ih1⟩ := spec_Trace.mono_l k
  refine ⟨?_, ?_⟩
  ·intros
   unfold spec_Trace.l0
   have mo0 := @spec_EventOf.mono
   have mo1 := @spec_FlatStep.mono
   exact zL
  ·intros
   unfold spec_Trace.j1
   have mo0 := @spec_EventOf.mono
   have mo1 := @spec_FlatStep.mono
   exact zL
theorem spec_Trace.mono : ∀ a0 a1 a2 k, LeO (spec_Trace.f k a0 a1 a2) (spec_Trace.f (k + 1) a0 a1 a2) := by
 intro a0 a1 a2 k
 obtain ⟨ih0, ih1⟩ := spec_Trace.mono_l k
 unfold spec_Trace.f
 have mo0 := @spec_EventOf.mono
 have mo1 := @spec_FlatStep.mono
 exact zL
theorem spec_Trace.calls (k : Nat) (A0 : Option Addr) (c0 : Nat) (l0 : List Int) (P1_ : Nat → Prop) (A1 : Option Addr) (c1 : Nat) (l1 : List (S80)) (A2 : Option Addr) (c2 : Nat) (l2 : List Int) (r : List (S31)) (w : World) (hr0 : Kd.C (Kd.int .i64) w A0 l0.length l0) (hc0 : l0.length ≤ c0) (hs1 : Kd.V k80 80 w w.heap.size (fun k_ => P1_ k_) (.slice A1 l1.length c1) l1) (hr2 : Kd.C (Kd.int .i64) w A2 l2.length l2) (hc2 : l2.length ≤ c2) (h : spec_Trace.f k l0 l1 l2 = some r) :
  Calls Tryd.prog 32 #[.slice A0 l0.length c0, .slice A1 l1.length c1, .slice A2 l2.length c2] w fun e w' => ∃ v0_ : Value, e = .returned (v0_) ∧ Kd.R k31 31 w' w.heap.size (fun k_ => (w.heap.size ≤ k_)) v0_ r ∧ Below w.heap.size w w' := by
 have hu80 := Tryd.underlying80
 have hu31 := Tryd.underlying31
 have HR0 := zM hr0
 have HC0 := zM hc0
 clear hr0 hc0
 have HO1 := zM (show Kd.V k80 80 w w.heap.size (fun k_ => (P1_ k_ ∨ w.heap.size ≤ k_)) (.slice A1 l1.length c1) l1 from Kd.V_mono hs1 (fun k_ hk => .inl hk))
 have HR2 := zM hr2
 have HC2 := zM hc2
 clear hr2 hc2
 have HB := zM (Below.refl w.heap.size w)
 unfold spec_Trace.f at h
 have H := h
 clear h
 generalize hy425 : ((([] : List (S31))) : List (S31)) = y425 at H
 have Ny425 := zM hy425.symm
 clear hy425
 replace H := zY H
 obtain ⟨y428, Ny428, H⟩ := H
 replace H := zIn H
 obtain ⟨LMc4, H⟩ := H
 generalize hy431 : ((y428 ++ l0) : List Int) = y431 at H
 have Ny431 := zM hy431.symm
 clear hy431
 replace H := zY H
 obtain ⟨y434, Ny434, H⟩ := H
 replace H := zIn H
 obtain ⟨LMc5, H⟩ := H
 generalize hy437 : ((y434 ++ l1) : List (S80)) = y437 at H
 have Ny437 := zM hy437.symm
 clear hy437
 have H' := zM H
 clear H
 go_enter Tryd.func32, Tryd.ntmps32
 go_wp2_with (first | ((with_reducible refine gate_dst (N := 16) rfl ?_); (try (refine gate_guard (by rfl) ?_; dsimp only)); refine Kd.R_lit k31 _ 31 ?hg (N := 16) ?hd (xs := ([] : List (S31))) (inner := []) (ok := fun _ => True) (okp := fun _ => True) ?hr ?hp (fun _ hk => hk) trivial (Below.refl _ _) (Nat.le_refl _) (by simp) ?_; (case hd => rfl); (case hg => rfl); (case hr => exact zHH); (case hp => exact (Reps.none _ _)); intro v426 w6 ho7 hb hg_ hnew_; clear hg_ hnew_; (first | rw [← Ny425.1] at ho7 | (simp only [Int.reduceToNat] at ho7; rw [← Ny425.1] at ho7)); replace HO1 := zM (Kd.V_elder' (by refine zrV ?_; exact HO1.1) (Kd.R_base ho7) hb); have HO427 := zM (Kd.R_lower (Kd.R_newM (M := fun k_ => (w.heap.size ≤ k_)) ho7 (below_size zB3) (fun k_ h_ => h_)) (below_size zB3)); replace HB := zM (below_step zB3 hb); clear hb ho7) | ((with_reducible refine gate_dst (N := 17) rfl ?_); (try (refine gate_guard (by rfl) ?_; dsimp only)); refine Kd.R_lit (Kd.int .i64) _ 3 ?hg (N := 17) ?hd (xs := ([] : List Int)) (inner := []) (ok := fun _ => True) (okp := fun _ => True) ?hr ?hp (fun _ hk => hk) trivial (Below.refl _ _) (Nat.le_refl _) (by simp) ?_; (case hd => rfl); (case hg => rfl); (case hr => exact zHH); (case hp => exact (Reps.none _ _)); intro v429 w8 ho9 hb hg_ hnew_; clear hg_ hnew_; (first | rw [← Ny428.1] at ho9 | (simp only [Int.reduceToNat] at ho9; rw [← Ny428.1] at ho9)); replace HO1 := zM (Kd.V_elder' (by refine zrV ?_; exact HO1.1) (Kd.R_base ho9) hb); replace HO427 := zM (Kd.R_below (zR HO427.1) hb); have HO430 := zM (Kd.R_lower (Kd.R_newM (M := fun k_ => (w.heap.size ≤ k_)) ho9 (below_size zB3) (fun k_ h_ => h_)) (below_size zB3)); replace HB := zM (below_step zB3 hb); clear hb ho9) | ((with_reducible refine gate_builtin (b := .append) (xs := #[.tmp 17, .tmp 18]) rfl ?_); (try (refine gate_guard (by rfl) ?_; dsimp only)); at_builtin; refine Kd.R_append_rows (Kd.int .i64) (w0 := w) w.heap.size rfl (.tmp 17) (.tmp 18) 36 3 (.int .i64 0) 8 rfl Tryd.underlying36 info3 rfl (by decide) (by omega) v429 y428 l0 _ _ _ (fun k_ => (w.heap.size ≤ k_)) (fun _ => False) rfl rfl ?aO ?aR (fun _ _ h => h) (fun _ h => h.elim) ?aF ?aB ?aS ?aL ?_; (case aR => exact zC (Kd.C_below HR0.1 HB.1)); (case aB => exact zB3); (case aF => exact (fun k_ hk => (Nat.le_trans (below_size zB3) hk))); (case aO => exact (by refine zrR ?_; exact Kd.R_mono HO430.1 (fun _ hk => hk.1))); (case aS => exact (below_size zB3)); (case aL => have := LMc4.out; omega); intro v432 w10 ho hb hg hat; rw [← Ny431.1] at ho; replace HO1 := zM (Kd.V_afterv (ok := (fun k_ => (P1_ k_ ∨ w.heap.size ≤ k_) ∧ some k_ ≠ (v426 : Value).ownBlock)) (by refine zrV ?_; exact HO1.1) hg hat); replace HO427 := zM (Kd.R_over' (zR HO427.1) (Kd.R_typed (zR HO430.1)) (by decide) hg); replace HB := zM hb; have HO433 := zM ho; clear HO430; clear ho hb hg hat) | ((with_reducible refine gate_dst (N := 20) rfl ?_); (try (refine gate_guard (by rfl) ?_; dsimp only)); refine Kd.N_lit k80 _ 80 ?hg (N' := 20) ?hd (xs := ([] : List (S80))) (inner := []) (ok := (fun k_ => (P1_ k_ ∨ w.heap.size ≤ k_) ∧ some k_ ≠ (v426 : Value).ownBlock ∧ some k_ ≠ (v432 : Value).ownBlock)) (okp := (fun k_ => (P1_ k_ ∨ w.heap.size ≤ k_) ∧ some k_ ≠ (v426 : Value).ownBlock ∧ some k_ ≠ (v432 : Value).ownBlock)) ?hr ?hp (fun _ hk => hk) ((show ∀ k_, w10.heap.size ≤ k_ → (fun k_ => (P1_ k_ ∨ w.heap.size ≤ k_) ∧ some k_ ≠ (v426 : Value).ownBlock ∧ some k_ ≠ (v432 : Value).ownBlock) k_ from fun k_ hk => ⟨(.inr (Nat.le_trans (below_size zB3) hk)), Kd.fresh' (Kd.R_lt (zR HO427.1)) k_ hk, Kd.fresh' (Kd.R_lt (zR HO433.1)) k_ hk⟩) _ (Nat.le_refl _)) (Below.refl _ _) (Nat.le_refl _) (by simp) ?_; (case hd => rfl); (case hg => rfl); (case hr => exact zHH); (case hp => exact (Reps.none _ _)); intro v435 w11 ho12 hb hg_ hnew_; clear hg_ hnew_; (first | rw [← Ny434.1] at ho12 | (simp only [Int.reduceToNat] at ho12; rw [← Ny434.1] at ho12)); replace HO1 := zM (Kd.V_elder' (by refine zrV ?_; exact HO1.1) (Kd.N_base ho12) hb); replace HO427 := zM (Kd.R_below (zR HO427.1) hb); replace HO433 := zM (Kd.R_below (zR HO433.1) hb); have HO436 := zM (Kd.N_lower ho12 (below_size zB3)); replace HB := zM (below_step zB3 hb); clear hb ho12) | ((with_reducible refine gate_builtin (b := .append) (xs := #[.tmp 20, .tmp 21]) rfl ?_); (try (refine gate_guard (by rfl) ?_; dsimp only)); at_builtin; refine Kd.N_append_rows k80 (w0 := w) w.heap.size rfl (.tmp 20) (.tmp 21) 56 80 (.agg #[(.slice none 0 0), (.int .i64 0), (.int .i64 0)]) 40 rfl Tryd.underlying56 info80 rfl (by decide) (by omega) v435 y434 l1 _ _ _ (fun k_ => (P1_ k_ ∨ w.heap.size ≤ k_) ∧ some k_ ≠ (v426 : Value).ownBlock ∧ some k_ ≠ (v432 : Value).ownBlock) (fun k_ => ((fun k_ => (P1_ k_ ∨ w.heap.size ≤ k_) ∧ some k_ ≠ (v426 : Value).ownBlock ∧ some k_ ≠ (v432 : Value).ownBlock)) k_ ∧ some k_ ≠ (v435 : Value).ownBlock) rfl rfl ?aO ?aR (fun _ hk => hk) ?aF ?aB ?aS ?aL ?_; (case aR => exact (by skip; exact Kd.V_F (Kd.V_mono (ok' := (fun k_ => ((fun k_ => (P1_ k_ ∨ w.heap.size ≤ k_) ∧ some k_ ≠ (v426 : Value).ownBlock ∧ some k_ ≠ (v432 : Value).ownBlock)) k_ ∧ some k_ ≠ (v435 : Value).ownBlock)) (HO1.1) (fun k_ hk => ⟨⟨hk.1.1.1, ⟨hk.1.1.2, hk.1.2⟩⟩, hk.2⟩)))); (case aB => exact zB3); (case aF => exact (fun k_ hk => ⟨(.inr (Nat.le_trans (below_size zB3) hk)), Kd.fresh' (Kd.R_lt (zR HO427.1)) k_ hk, Kd.fresh' (Kd.R_lt (zR HO433.1)) k_ hk⟩)); (case aO => exact (by refine zrN ?_; exact HO436.1)); (case aS => exact (below_size zB3)); (case aL => have := LMc5.out; omega); intro v438 w13 ho hb hg hat; rw [← Ny437.1] at ho; replace HO1 := zM (Kd.V_afterv (ok := (fun k_ => (P1_ k_ ∨ w.heap.size ≤ k_) ∧ some k_ ≠ (v426 : Value).ownBlock ∧ some k_ ≠ (v432 : Value).ownBlock)) (by refine zrV ?_; exact Kd.V_mono HO1.1 (fun _ hk => ⟨⟨hk.1.1.1, ⟨hk.1.1.2, hk.1.2⟩⟩, hk.2⟩)) hg hat); replace HO427 := zM (Kd.R_over' (zR HO427.1) (Kd.N_typed (by refine zrN ?_; exact HO436.1)) (by decide) hg); replace HO433 := zM (Kd.R_over' (zR HO433.1) (Kd.N_typed (by refine zrN ?_; exact HO436.1)) (by decide) hg); replace HB := zM hb; have HO439 := zM ho; clear HO436; clear ho hb hg hat))
 go_loopg [7, 8, 10] k (fun kq v7 v8 v10 w' => ∃ (x7_1 : List (S31)) (x8_1 : List Int) (x9_1 : List (S80)) (x10_1 : Int), v10 = .int .i64 x10_1 ∧ Aside0 (spec_Trace.l0 kq l2 x7_1 x8_1 x9_1 x10_1 = some r) ∧ Aside0 (kq ≤ k) ∧ Aside0 (Kd.R k31 31 w' w.heap.size (fun k_ => (w.heap.size ≤ k_)) v7 x7_1) ∧ Aside0 (Kd.R (Kd.int .i64) 3 w' w.heap.size (fun k_ => (w.heap.size ≤ k_)) v8 x8_1) ∧ Aside0 (Kd.N k80 80 w' w.heap.size (fun k_ => (P1_ k_ ∨ w.heap.size ≤ k_) ∧ some k_ ≠ (v7 : Value).ownBlock ∧ some k_ ≠ (v8 : Value).ownBlock) v438 x9_1) ∧ Aside0 (Below w.heap.size w w'))
 case atStart => exact ⟨(y425), (y431), (y437), (0), zJJ, H', ⟨Nat.le_refl _⟩, ⟨by refine zrR ?_; exact Kd.R_mono HO427.1 (fun _ hk => hk.1)⟩, ⟨zR HO433.1⟩, ⟨by refine zrN ?_; exact HO439.1⟩, ⟨zB3⟩⟩
 case round =>
  clear H'
  obtain ⟨x7_1, x8_1, x9_1, x10_1, rfl, HA, HK1, HO_7, HO_8, HO_9, HB⟩ := hrel
  cases gk with
  | zero => exact absurd HA.1 (by simp [spec_Trace.l0])
  | succ k1 =>
   have H := HA.1
   clear HA
   simp only [spec_Trace.l0] at H
   have HC14 := zM H
   clear H
   go_upto_region 5 with (fail)
   go_cut [31] (fun v31 wc => ∃ (kq : Nat) (x31_13 : Bool), v31 = .bool x31_13 ∧ Aside0 (spec_Trace.j1 kq l2 x7_1 x8_1 x9_1 x10_1 x31_13 = some r) ∧ Aside0 (kq ≤ k1) ∧ Aside0 (Kd.R k31 31 wc w.heap.size (fun k_ => (w.heap.size ≤ k_)) u7 x7_1) ∧ Aside0 (Kd.R (Kd.int .i64) 3 wc w.heap.size (fun k_ => (w.heap.size ≤ k_)) u8 x8_1) ∧ Aside0 (Kd.N k80 80 wc w.heap.size (fun k_ => (P1_ k_ ∨ w.heap.size ≤ k_) ∧ some k_ ≠ (u7 : Value).ownBlock ∧ some k_ ≠ (u8 : Value).ownBlock) v438 x9_1) ∧ Aside0 (Below w.heap.size w wc))
   case first =>
    have H := HC14.1
    clear HC14
    by_cases c15 : x10_1 < (l2.length : Int)
    rotate_left
    ·rw [if_neg c15] at H
     have c15b0 := decide_eq_false c15
     clear c15
     (first | rw [c15b0] | (simp only [i64_w, i32_w]; rw [c15b0]) | skip)
     have H' := zM H
     clear H
     go_wp2
     go_meet
     case rel => exact ⟨_, (false), zJJ, H', ⟨by have := HK1.1; first | omega | exact Nat.le_refl _⟩, ⟨zR HO_7.1⟩, ⟨zR HO_8.1⟩, ⟨by refine zrN ?_; exact HO_9.1⟩, ⟨zB3⟩⟩
    rw [if_pos c15] at H
    have c15b0 := decide_eq_true c15
    clear c15
    (first | rw [c15b0] | (simp only [i64_w, i32_w]; rw [c15b0]) | skip)
    have H' := zM H
    clear H
    go_wp2
    go_meet
    case rel => exact ⟨_, (decide ((l2.length : Int) ≤ 2000)), zJJ, H', ⟨by have := HK1.1; first | omega | exact Nat.le_refl _⟩, ⟨zR HO_7.1⟩, ⟨zR HO_8.1⟩, ⟨by refine zrN ?_; exact HO_9.1⟩, ⟨zB3⟩⟩
   case rest =>
    clear HC14
    obtain ⟨kq, x31_13, rfl, HA, HJ13, HO_7, HO_8, HO_9, HB⟩ := hcut
    cases kq with
    | zero => exact absurd HA.1 (by simp [spec_Trace.j1])
    | succ kj13 =>
     have H := HA.1
     clear HA
     simp only [spec_Trace.j1] at H
     by_cases c16 : x31_13 = true
     rotate_left
     ·replace c16 := Bool.eq_false_iff.mpr c16
      subst c16
      rw [if_neg zF] at H
      obtain rfl := Option.some.inj H
      go_wp2
      go_ret
      exact ⟨_, zE, zR HO_7.1, zB3⟩
     subst c16
     rw [if_pos rfl] at H
     replace H := zIt H
     obtain ⟨c17b0, H⟩ := H
     replace H := zIt H
     obtain ⟨c18b0, H⟩ := H
     replace H := zO H
     obtain ⟨t441, A19, H⟩ := H
     by_cases c20 : t441 = true
     rotate_left
     ·replace c20 := Bool.eq_false_iff.mpr c20
      subst c20
      rw [if_neg zF] at H
      have H' := zM H
      clear H
      obtain ⟨p440, q440, ad440, e440, hx440_0⟩ := zRd (Kd.at_int HR2.1 x10_1)
      cases e440
      replace hx440_0 := zHx HB.1 hx440_0
      obtain ⟨Ao60, co60, eo60⟩ := Kd.N_slice HO_9.1
      subst eo60
      go_wp2_with (first | ((with_reducible refine gate_callee (f := 28) rfl ?_); refine goesL_ (some 42) rfl rfl Tryd.func28 (by kernel_rfl) rfl #[.int .i64 (rd l2 x10_1), .int .i64 0, .int .i64 (wrap64 ((x9_1.length : Int) - 1))] rfl zT ?_; (with_reducible refine (spec_l1In.calls (rd l2 x10_1) 0 (wrap64 ((x9_1.length : Int) - 1)) false _ A19.1).mono ?_); rintro e w' ⟨rfl, ⟨nd, rfl⟩⟩; refine ⟨_, rfl, ?_⟩))
      go_roundg kj13
      case measure => have := HK1.1; have := HJ13.1; omega
      case rel => exact ⟨(x7_1), (x8_1), (x9_1), (wrap64 (x10_1 + 1)), zJJ, H', ⟨by have := HK1.1; have := HJ13.1; omega⟩, ⟨zR HO_7.1⟩, ⟨zR HO_8.1⟩, ⟨by refine zrN ?_; exact HO_9.1⟩, ⟨zB3⟩⟩
     subst c20
     rw [if_pos rfl] at H
     replace H := zIt H
     obtain ⟨c21b0, H⟩ := H
     replace H := zIt H
     obtain ⟨c22b0, H⟩ := H
     replace H := zO H
     obtain ⟨⟨t443, t444, t445, t446, t447, t448⟩, A23, H⟩ := H
     try dsimp only at H
     by_cases c24 : t448 = true
     rotate_left
     ·replace c24 := Bool.eq_false_iff.mpr c24
      subst c24
      rw [if_neg zF] at H
      replace H := zO H
      obtain ⟨⟨t465, t468, t471, t472⟩, A43, H⟩ := H
      try dsimp only at H
      generalize hy474 : ((x9_1.set ((rd l2 x10_1) : Int).toNat (⟨t468, t471, t472⟩ : S80)) : List (S80)) = y474 at H
      have Ny474 := zM hy474.symm
      clear hy474
      have H' := zM H
      clear H
      obtain ⟨p440, q440, ad440, e440, hx440_0⟩ := zRd (Kd.at_int HR2.1 x10_1)
      cases e440
      replace hx440_0 := zHx HB.1 hx440_0
      obtain ⟨Ao45, co45, eo45⟩ := Kd.N_slice HO_9.1
      subst eo45
      go_wp2_with (first | ((with_reducible refine gate_callee (f := 28) rfl ?_); refine goesL_ (some 42) rfl rfl Tryd.func28 (by kernel_rfl) rfl #[.int .i64 (rd l2 x10_1), .int .i64 0, .int .i64 (wrap64 ((x9_1.length : Int) - 1))] rfl zT ?_; (with_reducible refine (spec_l1In.calls (rd l2 x10_1) 0 (wrap64 ((x9_1.length : Int) - 1)) true _ A19.1).mono ?_); rintro e w' ⟨rfl, ⟨nd, rfl⟩⟩; refine ⟨_, rfl, ?_⟩; (try (rw [drewN_self wc]; generalize hq_ : World.drewN wc _ = wc; have n0_ : Aside0 (Kd.R k31 31 wc w.heap.size (fun k_ => (w.heap.size ≤ k_)) u7 x7_1) := ⟨by rw [← hq_]; exact (zR HO_7.1)⟩; have n1_ : Aside0 (Kd.R (Kd.int .i64) 3 wc w.heap.size (fun k_ => (w.heap.size ≤ k_)) u8 x8_1) := ⟨by rw [← hq_]; exact (zR HO_8.1)⟩; have n2_ : Aside0 (Kd.N k80 80 wc w.heap.size (fun k_ => (P1_ k_ ∨ w.heap.size ≤ k_) ∧ some k_ ≠ (u7 : Value).ownBlock ∧ some k_ ≠ (u8 : Value).ownBlock) (.slice Ao45 x9_1.length co45) x9_1) := ⟨by rw [← hq_]; exact (by refine zrN ?_; exact HO_9.1)⟩; have n3_ : Aside0 (Below w.heap.size w wc) := ⟨by rw [← hq_]; exact zB3⟩; clear HO_7 HO_8 HO_9 HB hq_; have HO_7 := n0_; have HO_8 := n1_; have HO_9 := n2_; have HB := n3_; clear n0_ n1_ n2_ n3_)); have p442 : 0 ≤ ((rd l2 x10_1) : Int) := zA; have q442 : (rd l2 x10_1) < (x9_1.length : Int) := zA; obtain ⟨ad442, A442_0, c442_0, e442, hx442_0, hx442_1, hx442_2, hl442_0, hi442_0⟩ := at_T80 (Kd.N_reads' HO_9.1).2.2 (rd l2 x10_1) p442 q442; cases e442; obtain ⟨ce442, hce442, hMe442, hcc442⟩ := Kd.N_get HO_9.1 z80 (rd l2 x10_1) p442 (by first | exact q442 | exact zA | (have e_ := (Kd.N_reads' HO_9.1).1; omega)); obtain ⟨ua442_0, uc442_0, rfl, ul442_0, ge442_0⟩ := k80_openF hMe442; have hv442_0 := hcc442 0 _ rfl; rw [Nat.add_zero] at hv442_0; replace hv442_0 := Option.some.inj (hv442_0.symm.trans hx442_0); injection hv442_0 with hva_ hvn_ hvc_; rw [hva_] at ge442_0; rw [hvc_] at ul442_0; have HL442_0 := zM (show Kd.V (Kd.int .i64) 3 _ w.heap.size _ _ ((rd_T80 x9_1 (rd l2 x10_1)).f0) from Kd.V_mk ul442_0 ge442_0); clear hva_ hvn_ hvc_ ge442_0 ul442_0; clear hcc442 hce442; have HR442_0 := zM hi442_0; have HC442_0 := zM hl442_0; clear hi442_0 hl442_0; replace p442 := eq_true p442; replace q442 := eq_true q442; obtain ⟨Ao46, co46, eo46⟩ := Kd.R_slice HO_8.1; subst eo46) | ((with_reducible refine gate_callee (f := 49) rfl ?_); refine goesL_ (some 51) rfl rfl Tryd.func49 (by kernel_rfl) rfl #[.slice Ao46 x8_1.length co46, .agg #[.slice A442_0 ((rd_T80 x9_1 (rd l2 x10_1)).f0).length c442_0, .int .i64 ((rd_T80 x9_1 (rd l2 x10_1)).f1), .int .i64 ((rd_T80 x9_1 (rd l2 x10_1)).f2)], .int .i64 (rd l2 x10_1)] rfl zT ?_; (with_reducible refine (spec_EventOf.calls kj13 _ _ x8_1 _ _ ((rd_T80 x9_1 (rd l2 x10_1)).f0) ((rd_T80 x9_1 (rd l2 x10_1)).f1) ((rd_T80 x9_1 (rd l2 x10_1)).f2) (rd l2 x10_1) t443 t444 t445 t446 t447 false _ ?side1 ?side2 ?side3 ?side4 A23.1).mono ?_); (case side1 => exact zC (Kd.R_reads' HO_8.1).2.2); (case side2 => exact (Kd.R_reads' HO_8.1).2.1); (case side3 => exact zC HR442_0.1); (case side4 => exact HC442_0.1); rintro e w47 ⟨rfl, hb⟩; refine ⟨_, rfl, ?_⟩; replace HO_7 := zM (Kd.R_below (zR HO_7.1) hb); replace HO_8 := zM (Kd.R_below (zR HO_8.1) hb); replace HO_9 := zM (Kd.N_below (by refine zrN ?_; exact HO_9.1) hb); replace HL442_0 := zM (Kd.V_below (by refine zrV ?_; exact HL442_0.1) hb); replace HR442_0 := zM (Kd.C_below (zC HR442_0.1) hb); replace HB := zM (below_step zB3 hb); clear hb) | ((with_reducible refine gate_dst (N := 12) rfl ?_); (try (refine gate_guard (by rfl) ?_; dsimp only)); (with_reducible refine zBx 12 31 #[.int .i64 0, .int .i64 0, .int .i64 0, .int .i64 0, .int .i64 0] ?_); intro gb449 hg w48 hbox hb; replace HO_7 := zM (Kd.R_below (Kd.R_elderB (zR HO_7.1) gb449 (Nat.le_of_eq hg.symm)) hb); replace HO_8 := zM (Kd.R_below (zR HO_8.1) hb); replace HO_9 := zM (Kd.N_below (Kd.N_elderB (by refine zrN ?_; exact HO_9.1) gb449 (Nat.le_of_eq hg.symm)) hb); replace HL442_0 := zM (Kd.V_below (Kd.V_elderB (by refine zrV ?_; exact HL442_0.1) gb449 (Nat.le_of_eq hg.symm)) hb); replace HR442_0 := zM (Kd.C_below (zC HR442_0.1) hb); have BK449 := zM hbox; have GW449 := zM (zW hg (below_size zB3)); have GE449 := zM (zW hg (below_size zB3)); replace HB := zM (below_step zB3 hb); clear hb hbox hg; have hcz49 := zc_5 (w := w48) BK449.1) | ((with_reducible refine gate_store (t := 31) (p := 12) rfl ?_); refine store_event (t := 31) (p := 12) (v := ?vo_w50) (w1 := (((((w48.setCell ⟨gb449, 0, none⟩ (.int .i64 t443)).setCell ⟨gb449, 1, none⟩ (.int .i64 t444)).setCell ⟨gb449, 2, none⟩ (.int .i64 t445)).setCell ⟨gb449, 3, none⟩ (.int .i64 t446)).setCell ⟨gb449, 4, none⟩ (.int .i64 t447))) ?hg ?ho ?hn ?hr ?_; (case ho => rfl); (case hg => rfl); (case hn => rfl); (case hr => exact zHH); intro w50 hw; have n0_ : Aside0 (Kd.R k31 31 w50 w.heap.size (fun k_ => (w.heap.size ≤ k_) ∧ k_ ≠ gb449) u7 x7_1) := ⟨(by rw [hw]; exact (by refine zrR ?_; exact Kd.R_mono (zfR (zfR (zfR (zfR (zfR (Kd.R_mono HO_7.1 (fun k_ hk => (⟨hk, hk.2⟩ : _ ∧ k_ ≠ gb449)))))))) (fun _ hk => ⟨hk.1.1, hk.1.2⟩)))⟩; have n1_ : Aside0 (Kd.R (Kd.int .i64) 3 w50 w.heap.size (fun k_ => (w.heap.size ≤ k_)) (.slice Ao46 x8_1.length co46) x8_1) := ⟨(by rw [hw]; exact (by refine zrR ?_; exact Kd.R_mono (zfR (zfR (zfR (zfR (zfR (Kd.R_types HO_8.1 BK449.1 (by decide))))))) (fun _ hk => hk.1)))⟩; have n2_ : Aside0 (Kd.N k80 80 w50 w.heap.size (fun k_ => (P1_ k_ ∨ w.heap.size ≤ k_) ∧ some k_ ≠ (u7 : Value).ownBlock ∧ some k_ ≠ (.slice Ao46 x8_1.length co46 : Value).ownBlock ∧ k_ ≠ gb449) (.slice (some ad442) x9_1.length co45) x9_1) := ⟨(by rw [hw]; exact (by refine zrN ?_; exact Kd.N_mono (zfN (zfN (zfN (zfN (zfN (Kd.N_mono HO_9.1 (fun k_ hk => (⟨hk, hk.2⟩ : _ ∧ k_ ≠ gb449)))))))) (fun _ hk => ⟨hk.1.1.1, ⟨hk.1.1.2.1, ⟨hk.1.1.2.2, hk.1.2⟩⟩⟩)))⟩; have n3_ : Aside0 (Kd.V (Kd.int .i64) 3 w50 w.heap.size (fun k_ => (P1_ k_ ∨ w.heap.size ≤ k_) ∧ some k_ ≠ (u7 : Value).ownBlock ∧ some k_ ≠ (.slice Ao46 x8_1.length co46 : Value).ownBlock ∧ some k_ ≠ (.slice (some ad442) x9_1.length co45 : Value).ownBlock ∧ k_ ≠ gb449) (.slice A442_0 ((rd_T80 x9_1 (rd l2 x10_1)).f0).length c442_0) ((rd_T80 x9_1 (rd l2 x10_1)).f0)) := ⟨(by rw [hw]; exact (by refine zrV ?_; exact Kd.V_mono (zfV (zfV (zfV (zfV (zfV (Kd.V_mono HL442_0.1 (fun k_ hk => (⟨hk, hk.2⟩ : _ ∧ k_ ≠ gb449)))))))) (fun _ hk => ⟨hk.1.1.1.1, ⟨hk.1.1.1.2.1, ⟨hk.1.1.1.2.2, ⟨hk.1.1.2, hk.1.2⟩⟩⟩⟩)))⟩; have n4_ : Aside0 (w50.heap[gb449]? = some (.cells #[.int .i64 t443, .int .i64 t444, .int .i64 t445, .int .i64 t446, .int .i64 t447] 31 (0, 0))) := ⟨(by rw [hw]; exact (by exact zp5 (zK BK449.1)))⟩; have n5_ : Aside0 (Below w.heap.size w w50) := ⟨(by rw [hw]; exact zB3)⟩; clear hw; clear HO_7; clear HO_8; clear HO_9; clear HL442_0; clear BK449; clear HB; have HO_7 := n0_; have HO_8 := n1_; have HO_9 := n2_; have HL442_0 := n3_; have BK449 := n4_; have HB := n5_; clear n0_ n1_ n2_ n3_ n4_ n5_; have p464 : 0 ≤ ((rd l2 x10_1) : Int) := zA; have q464 : (rd l2 x10_1) < (x9_1.length : Int) := zA; obtain ⟨ad464, A464_0, c464_0, e464, hx464_0, hx464_1, hx464_2, hl464_0, hi464_0⟩ := at_T80 (Kd.N_reads' HO_9.1).2.2 (rd l2 x10_1) p464 q464; obtain rfl : ad442 = ad464 := (by injection e464); obtain ⟨ce464, hce464, hMe464, hcc464⟩ := Kd.N_get HO_9.1 z80 (rd l2 x10_1) p464 (by first | exact q464 | exact zA | (have e_ := (Kd.N_reads' HO_9.1).1; omega)); obtain ⟨ua464_0, uc464_0, rfl, ul464_0, ge464_0⟩ := k80_openF hMe464; have hv464_0 := hcc464 0 _ rfl; rw [Nat.add_zero] at hv464_0; replace hv464_0 := Option.some.inj (hv464_0.symm.trans hx464_0); injection hv464_0 with hva_ hvn_ hvc_; rw [hva_] at ge464_0; rw [hvc_] at ul464_0; have HL464_0 := zM (show Kd.V (Kd.int .i64) 3 _ w.heap.size _ _ ((rd_T80 x9_1 (rd l2 x10_1)).f0) from Kd.V_mk ul464_0 ge464_0); clear hva_ hvn_ hvc_ ge464_0 ul464_0; clear hcc464 hce464; have HR464_0 := zM hi464_0; have HC464_0 := zM hl464_0; clear hi464_0 hl464_0; replace p464 := eq_true p464; replace q464 := eq_true q464) | ((with_reducible refine gate_callee (f := 50) rfl ?_); refine goesL_ (some 65) rfl rfl Tryd.func50 (by kernel_rfl) rfl #[.slice Ao46 x8_1.length co46, .agg #[.slice A464_0 ((rd_T80 x9_1 (rd l2 x10_1)).f0).length c464_0, .int .i64 ((rd_T80 x9_1 (rd l2 x10_1)).f1), .int .i64 ((rd_T80 x9_1 (rd l2 x10_1)).f2)]] rfl zT ?_; (with_reducible refine (spec_FlatStep.calls kj13 _ _ x8_1 _ _ ((rd_T80 x9_1 (rd l2 x10_1)).f0) ((rd_T80 x9_1 (rd l2 x10_1)).f1) ((rd_T80 x9_1 (rd l2 x10_1)).f2) t465 t468 t471 t472 _ ?side1 ?side2 ?side3 ?side4 A43.1).mono ?_); (case side1 => exact zC (Kd.R_reads' HO_8.1).2.2); (case side2 => exact (Kd.R_reads' HO_8.1).2.1); (case side3 => exact zC HR464_0.1); (case side4 => exact HC464_0.1); rintro e w51 ⟨v466, v469, rfl, ho0, ho1, hb⟩; refine ⟨_, rfl, ?_⟩; have n0_ := zM (Kd.R_below (zR HO_7.1) hb); have n1_ := zM (Kd.R_mono (Kd.R_told (Kd.R_told (Kd.R_old (zR HO_8.1) hb) (Kd.R_base ho0)) (Kd.R_base ho1)) (fun _ h_ => h_.1)); have n2_ := zM (Kd.N_mono (Kd.N_told (Kd.N_told (Kd.N_old (by refine zrN ?_; exact HO_9.1) hb) (Kd.R_base ho0)) (Kd.R_base ho1)) (fun _ h_ => h_.1)); have n3_ := zM (Kd.V_mono (Kd.V_told (Kd.V_told (Kd.V_old (by refine zrV ?_; exact HL442_0.1) hb) (Kd.R_base ho0)) (Kd.R_base ho1)) (fun _ h_ => h_.1)); have n4_ := zM (Kd.V_mono (Kd.V_told (Kd.V_told (Kd.V_old (by refine zrV ?_; exact HL464_0.1) hb) (Kd.R_base ho0)) (Kd.R_base ho1)) (fun _ h_ => h_.1)); have n5_ := zM (Kd.R_lower (Kd.R_new' (Kd.R_newM (M := fun k_ => (w.heap.size ≤ k_)) ho0 (below_size zB3) (fun k_ h_ => h_)) (Kd.R_lt (zR HO_8.1))) (below_size zB3)); have n6_ := zM (Kd.R_lower (Kd.R_new' (Kd.R_newM (M := fun k_ => (w.heap.size ≤ k_)) ho1 (below_size zB3) (fun k_ h_ => h_)) (Kd.R_lt (zR HO_8.1))) (below_size zB3)); have n8_ := zM (zb BK449.1 hb); have n9_ := zM (Kd.C_below (zC HR464_0.1) hb); have n10_ := zM (below_step zB3 hb); clear HO_7; clear HO_8; clear HO_9; clear HL442_0; clear HL464_0; clear BK449; clear HR464_0; clear HB; have HO_7 := n0_; have HO_8 := n1_; have HO_9 := n2_; have HL442_0 := n3_; have HL464_0 := n4_; have HO467 := n5_; have HO470 := n6_; have BK449 := n8_; have HR464_0 := n9_; have HB := n10_; clear n0_ n1_ n2_ n3_ n4_ n5_ n6_ n8_ n9_ n10_; clear hb ho0 ho1) | ((with_reducible refine gate_dst (N := 15) rfl ?_); (try (refine gate_guard (by rfl) ?_; dsimp only)); (with_reducible refine zBx 15 80 #[.slice none 0 0, .int .i64 0, .int .i64 0] ?_); intro gb473 hg w52 hbox hb; have n0_ := zM (Kd.R_below (zR HO_7.1) hb); have n1_ := zM (Kd.R_below (zR HO_8.1) hb); have n2_ := zM (Kd.N_below (Kd.N_elderB (by refine zrN ?_; exact HO_9.1) gb473 (Nat.le_of_eq hg.symm)) hb); have n3_ := zM (Kd.V_below (Kd.V_elderB (by refine zrV ?_; exact HL442_0.1) gb473 (Nat.le_of_eq hg.symm)) hb); have n4_ := zM (Kd.V_below (Kd.V_elderB (by refine zrV ?_; exact HL464_0.1) gb473 (Nat.le_of_eq hg.symm)) hb); have n5_ := zM (Kd.R_below (zR HO467.1) hb); have n6_ := zM (Kd.R_below (zR HO470.1) hb); have n8_ := zM (zb BK449.1 hb); have n9_ := zM (Kd.C_below (zC HR464_0.1) hb); have n10_ := zM (below_step zB3 hb); have n11_ := zM hbox; have n12_ := zM (zW hg (below_size zB3)); have n13_ := zM (zW hg (below_size zB3)); have n14_ := zM ((zn BK449.1 hg : gb449 ≠ gb473)); have n15_ := zM ((zm BK449.1 hg : gb473 ≠ gb449)); clear HO_7; clear HO_8; clear HO_9; clear HL442_0; clear HL464_0; clear HO467; clear HO470; clear BK449; clear HR464_0; clear HB; have HO_7 := n0_; have HO_8 := n1_; have HO_9 := n2_; have HL442_0 := n3_; have HL464_0 := n4_; have HO467 := n5_; have HO470 := n6_; have BK449 := n8_; have HR464_0 := n9_; have HB := n10_; have BK473 := n11_; have GW473 := n12_; have GE473 := n13_; have NB449_473 := n14_; have NB473_449 := n15_; clear n0_ n1_ n2_ n3_ n4_ n5_ n6_ n8_ n9_ n10_ n11_ n12_ n13_ n14_ n15_; clear hb hbox hg; obtain ⟨Ao53, co53, eo53⟩ := Kd.R_slice HO470.1; subst eo53; have hnb54 := NB473_449.1; have hnc54 := NB449_473.1; have hcz55 := zc_3 (w := w52) BK473.1) | ((with_reducible refine gate_store (t := 80) (p := 15) rfl ?_); refine store_event (t := 80) (p := 15) (v := ?vo_w56) (w1 := (((w52.setCell ⟨gb473, 0, none⟩ (.slice Ao53 t468.length co53)).setCell ⟨gb473, 1, none⟩ (.int .i64 t471)).setCell ⟨gb473, 2, none⟩ (.int .i64 t472))) ?hg ?ho ?hn ?hr ?_; (case ho => rfl); (case hg => rfl); (case hn => rfl); (case hr => exact zHH); intro w56 hw; have n0_ : Aside0 (Kd.R k31 31 w56 w.heap.size (fun k_ => (w.heap.size ≤ k_) ∧ k_ ≠ gb449) u7 x7_1) := ⟨(by rw [hw]; exact (by refine zrR ?_; exact Kd.R_mono (zfR (zfR (zfR (Kd.R_types HO_7.1 BK473.1 (by decide))))) (fun _ hk => ⟨hk.1.1, hk.1.2⟩)))⟩; have n1_ : Aside0 (Kd.R (Kd.int .i64) 3 w56 w.heap.size (fun k_ => (w.heap.size ≤ k_) ∧ some k_ ≠ (v466 : Value).ownBlock ∧ some k_ ≠ (.slice Ao53 t468.length co53 : Value).ownBlock) (.slice Ao46 x8_1.length co46) x8_1) := ⟨(by rw [hw]; exact (by refine zrR ?_; exact Kd.R_mono (zfR (zfR (zfR (Kd.R_types HO_8.1 BK473.1 (by decide))))) (fun _ hk => ⟨hk.1.1.1, ⟨hk.1.1.2, hk.1.2⟩⟩)))⟩; have n2_ : Aside0 (Kd.N k80 80 w56 w.heap.size (fun k_ => (P1_ k_ ∨ w.heap.size ≤ k_) ∧ some k_ ≠ (u7 : Value).ownBlock ∧ some k_ ≠ (.slice Ao46 x8_1.length co46 : Value).ownBlock ∧ some k_ ≠ (v466 : Value).ownBlock ∧ some k_ ≠ (.slice Ao53 t468.length co53 : Value).ownBlock ∧ k_ ≠ gb449 ∧ k_ ≠ gb473) (.slice (some ad442) x9_1.length co45) x9_1) := ⟨(by rw [hw]; exact (by refine zrN ?_; exact Kd.N_mono (zfN (zfN (zfN (Kd.N_mono HO_9.1 (fun k_ hk => (⟨hk, hk.2⟩ : _ ∧ k_ ≠ gb473)))))) (fun _ hk => ⟨hk.1.1.1.1.1, ⟨hk.1.1.1.1.2.1, ⟨hk.1.1.1.1.2.2.1, ⟨hk.1.1.1.2, ⟨hk.1.1.2, ⟨hk.1.1.1.1.2.2.2, hk.1.2⟩⟩⟩⟩⟩⟩)))⟩; have n3_ : Aside0 (Kd.V (Kd.int .i64) 3 w56 w.heap.size (fun k_ => (P1_ k_ ∨ w.heap.size ≤ k_) ∧ some k_ ≠ (u7 : Value).ownBlock ∧ some k_ ≠ (.slice Ao46 x8_1.length co46 : Value).ownBlock ∧ some k_ ≠ (.slice (some ad442) x9_1.length co45 : Value).ownBlock ∧ some k_ ≠ (v466 : Value).ownBlock ∧ some k_ ≠ (.slice Ao53 t468.length co53 : Value).ownBlock ∧ k_ ≠ gb449 ∧ k_ ≠ gb473) (.slice A442_0 ((rd_T80 x9_1 (rd l2 x10_1)).f0).length c442_0) ((rd_T80 x9_1 (rd l2 x10_1)).f0)) := ⟨(by rw [hw]; exact (by refine zrV ?_; exact Kd.V_mono (zfV (zfV (zfV (Kd.V_mono HL442_0.1 (fun k_ hk => (⟨hk, hk.2⟩ : _ ∧ k_ ≠ gb473)))))) (fun _ hk => ⟨hk.1.1.1.1.1, ⟨hk.1.1.1.1.2.1, ⟨hk.1.1.1.1.2.2.1, ⟨hk.1.1.1.1.2.2.2.1, ⟨hk.1.1.1.2, ⟨hk.1.1.2, ⟨hk.1.1.1.1.2.2.2.2, hk.1.2⟩⟩⟩⟩⟩⟩⟩)))⟩; have n4_ : Aside0 (Kd.V (Kd.int .i64) 3 w56 w.heap.size (fun k_ => (P1_ k_ ∨ w.heap.size ≤ k_) ∧ some k_ ≠ (u7 : Value).ownBlock ∧ some k_ ≠ (.slice Ao46 x8_1.length co46 : Value).ownBlock ∧ some k_ ≠ (.slice (some ad442) x9_1.length co45 : Value).ownBlock ∧ some k_ ≠ (v466 : Value).ownBlock ∧ some k_ ≠ (.slice Ao53 t468.length co53 : Value).ownBlock ∧ k_ ≠ gb449 ∧ k_ ≠ gb473) (.slice A464_0 ((rd_T80 x9_1 (rd l2 x10_1)).f0).length c464_0) ((rd_T80 x9_1 (rd l2 x10_1)).f0)) := ⟨(by rw [hw]; exact (by refine zrV ?_; exact Kd.V_mono (zfV (zfV (zfV (Kd.V_mono HL464_0.1 (fun k_ hk => (⟨hk, hk.2⟩ : _ ∧ k_ ≠ gb473)))))) (fun _ hk => ⟨hk.1.1.1.1.1.1, ⟨hk.1.1.1.1.1.2.1, ⟨hk.1.1.1.1.1.2.2.1, ⟨hk.1.1.1.1.2, ⟨hk.1.1.1.2, ⟨hk.1.1.2, ⟨hk.1.1.1.1.1.2.2.2, hk.1.2⟩⟩⟩⟩⟩⟩⟩)))⟩; have n5_ : Aside0 (Kd.R (Kd.int .i64) 3 w56 w.heap.size (fun k_ => (w.heap.size ≤ k_) ∧ some k_ ≠ (.slice Ao46 x8_1.length co46 : Value).ownBlock ∧ some k_ ≠ (.slice Ao53 t468.length co53 : Value).ownBlock) v466 t465) := ⟨(by rw [hw]; exact (by refine zrR ?_; exact Kd.R_mono (zfR (zfR (zfR (Kd.R_types HO467.1 BK473.1 (by decide))))) (fun _ hk => ⟨hk.1.1.1, ⟨hk.1.2, hk.1.1.2⟩⟩)))⟩; have n6_ : Aside0 (Kd.R (Kd.int .i64) 3 w56 w.heap.size (fun k_ => (w.heap.size ≤ k_) ∧ some k_ ≠ (.slice Ao46 x8_1.length co46 : Value).ownBlock ∧ some k_ ≠ (v466 : Value).ownBlock) (.slice Ao53 t468.length co53) t468) := ⟨(by rw [hw]; exact (by refine zrR ?_; exact Kd.R_mono (zfR (zfR (zfR (Kd.R_types HO470.1 BK473.1 (by decide))))) (fun _ hk => ⟨hk.1.1.1, ⟨hk.1.2, hk.1.1.2⟩⟩)))⟩; have n7_ : Aside0 (w56.heap[gb449]? = some (.cells #[.int .i64 t443, .int .i64 t444, .int .i64 t445, .int .i64 t446, .int .i64 t447] 31 (0, 0))) := ⟨(by rw [hw]; exact zPq)⟩; have n8_ : Aside0 (w56.heap[gb473]? = some (.cells #[.slice Ao53 t468.length co53, .int .i64 t471, .int .i64 t472] 80 (0, 0))) := ⟨(by rw [hw]; exact (by exact zp3 (zK BK473.1)))⟩; have n9_ : Aside0 (Below w.heap.size w w56) := ⟨(by rw [hw]; exact zB3)⟩; clear hw; clear HO_7; clear HO_8; clear HO_9; clear HL442_0; clear HL464_0; clear HO467; clear HO470; clear BK449; clear BK473; clear HB; have HO_7 := n0_; have HO_8 := n1_; have HO_9 := n2_; have HL442_0 := n3_; have HL464_0 := n4_; have HO467 := n5_; have HO470 := n6_; have BK449 := n7_; have BK473 := n8_; have HB := n9_; clear n0_ n1_ n2_ n3_ n4_ n5_ n6_ n7_ n8_ n9_; have hcz57 := zc_3 (w := w56) BK473.1; have p44 : 0 ≤ ((rd l2 x10_1) : Int) := zA; have q44 : ((rd l2 x10_1) : Int) < ((x9_1.length : Int) : Int) := zA; obtain ⟨go44, co44, eo44, gb44, gl44, cl44, HG44⟩ := Kd.N_form HO_9.1 (by omega); (first | cases eo44 | (injection eo44 with ea_ en_ ec_; (first | subst ea_ | (injection ea_ with ea_; subst ea_)); subst ec_; clear en_)); have GB44 := zM gb44; have GG44 := zM HG44; clear gb44 gl44 HG44; (first | simp only [add_plain] at hx442_0 | skip); (first | simp only [add_plain] at hx442_1 | skip); (first | simp only [add_plain] at hx442_2 | skip); (first | simp only [add_plain] at hx464_0 | skip); (first | simp only [add_plain] at hx464_1 | skip); (first | simp only [add_plain] at hx464_2 | skip); obtain ⟨ce44, hcl44, hM44, hcc44, hfr44⟩ := Kd.N_elem HO_9.1 z80 ((rd l2 x10_1) : Int) p44 q44; obtain ⟨ua44_0, uc44_0, rfl, ul44_0, ge44_0⟩ := k80_openF hM44; have hx44_0 : w56.cell? ⟨go44, ((rd l2 x10_1) : Int).toNat * 3, none⟩ = some (.slice ua44_0 ((rd_T80 x9_1 (rd l2 x10_1)).f0).length uc44_0) := hcc44 0 _ rfl; have hx44_1 : w56.cell? ⟨go44, ((rd l2 x10_1) : Int).toNat * 3 + 1, none⟩ = some (.int .i64 ((rd_T80 x9_1 (rd l2 x10_1)).f1)) := hcc44 1 _ rfl; have hx44_2 : w56.cell? ⟨go44, ((rd l2 x10_1) : Int).toNat * 3 + 2, none⟩ = some (.int .i64 ((rd_T80 x9_1 (rd l2 x10_1)).f2)) := hcc44 2 _ rfl; have hf44_0 : w56.frozen? ⟨go44, ((rd l2 x10_1) : Int).toNat * 3, none⟩ = false := hfr44 0; have hf44_1 : w56.frozen? ⟨go44, ((rd l2 x10_1) : Int).toNat * 3 + 1, none⟩ = false := hfr44 1; have hf44_2 : w56.frozen? ⟨go44, ((rd l2 x10_1) : Int).toNat * 3 + 2, none⟩ = false := hfr44 2; clear hcl44 hcc44 hfr44 hM44; replace p44 := eq_true p44; replace q44 := eq_true q44; have HX58 := zM (show Kd.N k80 80 w56 w.heap.size (fun k_ => (P1_ k_ ∨ w.heap.size ≤ k_) ∧ some k_ ≠ (u7 : Value).ownBlock ∧ some k_ ≠ (.slice Ao46 x8_1.length co46 : Value).ownBlock ∧ some k_ ≠ (v466 : Value).ownBlock ∧ k_ ≠ gb449 ∧ k_ ≠ gb473) (.slice (some ⟨go44, 0, none⟩) x9_1.length co45) x9_1 from (by refine zrN ?_; exact Kd.N_mono HO_9.1 (fun _ hk => ⟨hk.1, ⟨hk.2.1, ⟨hk.2.2.1, ⟨hk.2.2.2.1, ⟨hk.2.2.2.2.2.1, hk.2.2.2.2.2.2⟩⟩⟩⟩⟩))); obtain ⟨ce58, hcl58, hM58, hcc58, hfr58⟩ := Kd.N_elem HX58.out z80 ((rd l2 x10_1) : Int) zA (by have h_ : ((rd l2 x10_1) : Int) < ((x9_1.length : Int) : Int) := zA; first | exact h_ | (have e_ := (Kd.N_reads' HO_9.1).1; omega) | simpa using h_); obtain ⟨ua58_0, uc58_0, rfl, ul58_0, ge58_0⟩ := k80_openF hM58; have HP58 := Kd.N_seg HX58.out ((rd l2 x10_1) : Int) zA (by have h_ : ((rd l2 x10_1) : Int) < ((x9_1.length : Int) : Int) := zA; first | exact h_ | (have e_ := (Kd.N_reads' HO_9.1).1; omega) | simpa using h_) (seg := [.slice Ao53 t468.length co53, .int .i64 t471, .int .i64 t472]) (j := 0) hcl58 hcc58 (show 3 ≤ 3 from by decide) (x' := (⟨t468, t471, t472⟩ : S80)) (k80_mkF _ _ (⟨t468, t471, t472⟩ : S80) (Kd.R_reads' (Kd.R_mono (ok' := (fun k_ => ((fun k_ => (P1_ k_ ∨ w.heap.size ≤ k_) ∧ some k_ ≠ (u7 : Value).ownBlock ∧ some k_ ≠ (.slice Ao46 x8_1.length co46 : Value).ownBlock ∧ some k_ ≠ (v466 : Value).ownBlock ∧ k_ ≠ gb449 ∧ k_ ≠ gb473)) k_ ∧ k_ ≠ go44)) (Kd.R_types (Kd.R_types (Kd.R_apart' (Kd.R_apart' (HO470.1) (Kd.R_typed HO_7.1) (by decide)) (Kd.N_typed HO_9.1) (by decide)) BK449.1 (by decide)) BK473.1 (by decide)) (fun k_ hk => ⟨⟨(.inr (hk.1.1.1.1.1)), ⟨hk.1.1.1.2, ⟨hk.1.1.1.1.2.1, ⟨hk.1.1.1.1.2.2, ⟨hk.1.2, hk.2⟩⟩⟩⟩⟩, fun e_ => (hk.1.1.2) (by rw [e_]; rfl)⟩))).2.1 (Kd.R_F (Kd.R_mono (ok' := (fun k_ => ((fun k_ => (P1_ k_ ∨ w.heap.size ≤ k_) ∧ some k_ ≠ (u7 : Value).ownBlock ∧ some k_ ≠ (.slice Ao46 x8_1.length co46 : Value).ownBlock ∧ some k_ ≠ (v466 : Value).ownBlock ∧ k_ ≠ gb449 ∧ k_ ≠ gb473)) k_ ∧ k_ ≠ go44)) (Kd.R_types (Kd.R_types (Kd.R_apart' (Kd.R_apart' (HO470.1) (Kd.R_typed HO_7.1) (by decide)) (Kd.N_typed HO_9.1) (by decide)) BK449.1 (by decide)) BK473.1 (by decide)) (fun k_ hk => ⟨⟨(.inr (hk.1.1.1.1.1)), ⟨hk.1.1.1.2, ⟨hk.1.1.1.1.2.1, ⟨hk.1.1.1.1.2.2, ⟨hk.1.2, hk.2⟩⟩⟩⟩⟩, fun e_ => (hk.1.1.2) (by rw [e_]; rfl)⟩)))) (fun _ hk => hk); have hx58_0 := hcc58 0 _ rfl; (try simp only [show (k80).sz = 3 from rfl, Nat.mul_one, Nat.add_zero] at hx58_0); have hf58_0 := hfr58 0; (try simp only [show (k80).sz = 3 from rfl, Nat.mul_one, Nat.add_zero] at hf58_0); have hx58_1 := hcc58 1 _ rfl; (try simp only [show (k80).sz = 3 from rfl, Nat.mul_one, Nat.add_zero] at hx58_1); have hf58_1 := hfr58 1; (try simp only [show (k80).sz = 3 from rfl, Nat.mul_one, Nat.add_zero] at hf58_1); have hx58_2 := hcc58 2 _ rfl; (try simp only [show (k80).sz = 3 from rfl, Nat.mul_one, Nat.add_zero] at hx58_2); have hf58_2 := hfr58 2; (try simp only [show (k80).sz = 3 from rfl, Nat.mul_one, Nat.add_zero] at hf58_2); clear hcl58 hcc58 hfr58 hM58) | ((with_reducible refine gate_store (t := 80) (p := 72) rfl ?_); refine store_event (t := 80) (p := 72) (v := ?vo_w59) (w1 := (((w56.setCell ⟨go44, ((rd l2 x10_1) : Int).toNat * 3, none⟩ (.slice Ao53 t468.length co53)).setCell ⟨go44, ((rd l2 x10_1) : Int).toNat * 3 + 1, none⟩ (.int .i64 t471)).setCell ⟨go44, ((rd l2 x10_1) : Int).toNat * 3 + 2, none⟩ (.int .i64 t472))) ?hg ?ho ?hn ?hr ?_; (case ho => rfl); (case hg => rfl); (case hn => rfl); (case hr => exact zHH); intro w59 hw; have hg : w56.grownBy w59 (some go44) := (by rw [hw]; exact HP58.2); have hp_ : Kd.N k80 80 w59 w.heap.size (fun k_ => (P1_ k_ ∨ w.heap.size ≤ k_) ∧ some k_ ≠ (u7 : Value).ownBlock ∧ some k_ ≠ (.slice Ao46 x8_1.length co46 : Value).ownBlock ∧ some k_ ≠ (v466 : Value).ownBlock ∧ k_ ≠ gb449 ∧ k_ ≠ gb473) (.slice (some ⟨go44, 0, none⟩) x9_1.length co45) y474 := (by rw [hw, Ny474.1]; exact HP58.1); clear HP58; replace HO_7 := zM (Kd.R_over' (v := (.slice (some ⟨go44, 0, none⟩) x9_1.length co45)) (zR HO_7.1) (Kd.N_typed HO_9.1) (by decide) hg); replace HO_8 := zM (Kd.R_over' (v := (.slice (some ⟨go44, 0, none⟩) x9_1.length co45)) (zR HO_8.1) (Kd.N_typed HO_9.1) (by decide) hg); replace HL442_0 := zM (Kd.V_afterv (v := (.slice (some ⟨go44, 0, none⟩) x9_1.length co45)) (v1 := (.slice (some ⟨go44, 0, none⟩) x9_1.length co45)) (ok := (fun k_ => (P1_ k_ ∨ w.heap.size ≤ k_) ∧ some k_ ≠ (u7 : Value).ownBlock ∧ some k_ ≠ (.slice Ao46 x8_1.length co46 : Value).ownBlock ∧ some k_ ≠ (v466 : Value).ownBlock ∧ some k_ ≠ (.slice Ao53 t468.length co53 : Value).ownBlock ∧ k_ ≠ gb449 ∧ k_ ≠ gb473)) (by refine zrV ?_; exact Kd.V_mono HL442_0.1 (fun _ hk => ⟨⟨hk.1, ⟨hk.2.1, ⟨hk.2.2.1, ⟨hk.2.2.2.2.1, ⟨hk.2.2.2.2.2.1, ⟨hk.2.2.2.2.2.2.1, hk.2.2.2.2.2.2.2⟩⟩⟩⟩⟩⟩, hk.2.2.2.1⟩)) hg (.inl rfl)); replace BK449 := zM (zg BK449.1 hg (Kd.N_ne HO_9.1 BK449.1 (by decide))); replace HL464_0 := zM (Kd.V_afterv (v := (.slice (some ⟨go44, 0, none⟩) x9_1.length co45)) (v1 := (.slice (some ⟨go44, 0, none⟩) x9_1.length co45)) (ok := (fun k_ => (P1_ k_ ∨ w.heap.size ≤ k_) ∧ some k_ ≠ (u7 : Value).ownBlock ∧ some k_ ≠ (.slice Ao46 x8_1.length co46 : Value).ownBlock ∧ some k_ ≠ (v466 : Value).ownBlock ∧ some k_ ≠ (.slice Ao53 t468.length co53 : Value).ownBlock ∧ k_ ≠ gb449 ∧ k_ ≠ gb473)) (by refine zrV ?_; exact Kd.V_mono HL464_0.1 (fun _ hk => ⟨⟨hk.1, ⟨hk.2.1, ⟨hk.2.2.1, ⟨hk.2.2.2.2.1, ⟨hk.2.2.2.2.2.1, ⟨hk.2.2.2.2.2.2.1, hk.2.2.2.2.2.2.2⟩⟩⟩⟩⟩⟩, hk.2.2.2.1⟩)) hg (.inl rfl)); replace HO467 := zM (Kd.R_over' (v := (.slice (some ⟨go44, 0, none⟩) x9_1.length co45)) (zR HO467.1) (Kd.N_typed HO_9.1) (by decide) hg); replace BK473 := zM (zg BK473.1 hg (Kd.N_away HO_9.1 (fun _ hk => hk.2.2.2.2.2.2))); replace HO_9 := zM hp_; replace HB := zM ((by rw [hw]; exact below_set (below_set (below_set (HB.1) GB44.1) GB44.1) GB44.1 : Below w.heap.size w w59)); clear HO470; clear hg hw hp_))
      go_roundg kj13
      case measure => have := HK1.1; have := HJ13.1; omega
      case rel => exact ⟨(x7_1), (t465), (y474), (wrap64 (x10_1 + 1)), zJJ, H', ⟨by have := HK1.1; have := HJ13.1; omega⟩, ⟨by refine zrR ?_; exact Kd.R_mono HO_7.1 (fun _ hk => hk.1)⟩, ⟨by refine zrR ?_; exact Kd.R_mono HO467.1 (fun _ hk => hk.1)⟩, ⟨by refine zrN ?_; exact Kd.N_mono HO_9.1 (fun _ hk => ⟨hk.1, ⟨hk.2.1, hk.2.2.2.1⟩⟩)⟩, ⟨zB3⟩⟩
     subst c24
     rw [if_pos rfl] at H
     replace H := zIn H
     obtain ⟨LMc25, H⟩ := H
     generalize hy450 : ((x7_1 ++ [(⟨t443, t444, t445, t446, t447⟩ : S31)]) : List (S31)) = y450 at H
     have Ny450 := zM hy450.symm
     clear hy450
     replace H := zO H
     obtain ⟨⟨t454, t457, t460, t461⟩, A26, H⟩ := H
     try dsimp only at H
     generalize hy463 : ((x9_1.set ((rd l2 x10_1) : Int).toNat (⟨t457, t460, t461⟩ : S80)) : List (S80)) = y463 at H
     have Ny463 := zM hy463.symm
     clear hy463
     have H' := zM H
     clear H
     obtain ⟨p440, q440, ad440, e440, hx440_0⟩ := zRd (Kd.at_int HR2.1 x10_1)
     cases e440
     replace hx440_0 := zHx HB.1 hx440_0
     obtain ⟨Ao28, co28, eo28⟩ := Kd.N_slice HO_9.1
     subst eo28
     go_wp2_with (first | ((with_reducible refine gate_callee (f := 28) rfl ?_); refine goesL_ (some 42) rfl rfl Tryd.func28 (by kernel_rfl) rfl #[.int .i64 (rd l2 x10_1), .int .i64 0, .int .i64 (wrap64 ((x9_1.length : Int) - 1))] rfl zT ?_; (with_reducible refine (spec_l1In.calls (rd l2 x10_1) 0 (wrap64 ((x9_1.length : Int) - 1)) true _ A19.1).mono ?_); rintro e w' ⟨rfl, ⟨nd, rfl⟩⟩; refine ⟨_, rfl, ?_⟩; (try (rw [drewN_self wc]; generalize hq_ : World.drewN wc _ = wc; have n0_ : Aside0 (Kd.R k31 31 wc w.heap.size (fun k_ => (w.heap.size ≤ k_)) u7 x7_1) := ⟨by rw [← hq_]; exact (zR HO_7.1)⟩; have n1_ : Aside0 (Kd.R (Kd.int .i64) 3 wc w.heap.size (fun k_ => (w.heap.size ≤ k_)) u8 x8_1) := ⟨by rw [← hq_]; exact (zR HO_8.1)⟩; have n2_ : Aside0 (Kd.N k80 80 wc w.heap.size (fun k_ => (P1_ k_ ∨ w.heap.size ≤ k_) ∧ some k_ ≠ (u7 : Value).ownBlock ∧ some k_ ≠ (u8 : Value).ownBlock) (.slice Ao28 x9_1.length co28) x9_1) := ⟨by rw [← hq_]; exact (by refine zrN ?_; exact HO_9.1)⟩; have n3_ : Aside0 (Below w.heap.size w wc) := ⟨by rw [← hq_]; exact zB3⟩; clear HO_7 HO_8 HO_9 HB hq_; have HO_7 := n0_; have HO_8 := n1_; have HO_9 := n2_; have HB := n3_; clear n0_ n1_ n2_ n3_)); have p442 : 0 ≤ ((rd l2 x10_1) : Int) := zA; have q442 : (rd l2 x10_1) < (x9_1.length : Int) := zA; obtain ⟨ad442, A442_0, c442_0, e442, hx442_0, hx442_1, hx442_2, hl442_0, hi442_0⟩ := at_T80 (Kd.N_reads' HO_9.1).2.2 (rd l2 x10_1) p442 q442; cases e442; obtain ⟨ce442, hce442, hMe442, hcc442⟩ := Kd.N_get HO_9.1 z80 (rd l2 x10_1) p442 (by first | exact q442 | exact zA | (have e_ := (Kd.N_reads' HO_9.1).1; omega)); obtain ⟨ua442_0, uc442_0, rfl, ul442_0, ge442_0⟩ := k80_openF hMe442; have hv442_0 := hcc442 0 _ rfl; rw [Nat.add_zero] at hv442_0; replace hv442_0 := Option.some.inj (hv442_0.symm.trans hx442_0); injection hv442_0 with hva_ hvn_ hvc_; rw [hva_] at ge442_0; rw [hvc_] at ul442_0; have HL442_0 := zM (show Kd.V (Kd.int .i64) 3 _ w.heap.size _ _ ((rd_T80 x9_1 (rd l2 x10_1)).f0) from Kd.V_mk ul442_0 ge442_0); clear hva_ hvn_ hvc_ ge442_0 ul442_0; clear hcc442 hce442; have HR442_0 := zM hi442_0; have HC442_0 := zM hl442_0; clear hi442_0 hl442_0; replace p442 := eq_true p442; replace q442 := eq_true q442; obtain ⟨Ao29, co29, eo29⟩ := Kd.R_slice HO_8.1; subst eo29) | ((with_reducible refine gate_callee (f := 49) rfl ?_); refine goesL_ (some 51) rfl rfl Tryd.func49 (by kernel_rfl) rfl #[.slice Ao29 x8_1.length co29, .agg #[.slice A442_0 ((rd_T80 x9_1 (rd l2 x10_1)).f0).length c442_0, .int .i64 ((rd_T80 x9_1 (rd l2 x10_1)).f1), .int .i64 ((rd_T80 x9_1 (rd l2 x10_1)).f2)], .int .i64 (rd l2 x10_1)] rfl zT ?_; (with_reducible refine (spec_EventOf.calls kj13 _ _ x8_1 _ _ ((rd_T80 x9_1 (rd l2 x10_1)).f0) ((rd_T80 x9_1 (rd l2 x10_1)).f1) ((rd_T80 x9_1 (rd l2 x10_1)).f2) (rd l2 x10_1) t443 t444 t445 t446 t447 true _ ?side1 ?side2 ?side3 ?side4 A23.1).mono ?_); (case side1 => exact zC (Kd.R_reads' HO_8.1).2.2); (case side2 => exact (Kd.R_reads' HO_8.1).2.1); (case side3 => exact zC HR442_0.1); (case side4 => exact HC442_0.1); rintro e w30 ⟨rfl, hb⟩; refine ⟨_, rfl, ?_⟩; have n0_ := zM (Kd.R_below (zR HO_7.1) hb); have n1_ := zM (Kd.R_below (zR HO_8.1) hb); have n2_ := zM (Kd.N_below (by refine zrN ?_; exact HO_9.1) hb); have n3_ := zM (Kd.V_below (by refine zrV ?_; exact HL442_0.1) hb); have n5_ := zM (below_step zB3 hb); clear HO_7; clear HO_8; clear HO_9; clear HL442_0; clear HB; have HO_7 := n0_; have HO_8 := n1_; have HO_9 := n2_; have HL442_0 := n3_; have HB := n5_; clear n0_ n1_ n2_ n3_ n5_; clear hb) | ((with_reducible refine gate_dst (N := 12) rfl ?_); (try (refine gate_guard (by rfl) ?_; dsimp only)); (with_reducible refine zBx 12 31 #[.int .i64 0, .int .i64 0, .int .i64 0, .int .i64 0, .int .i64 0] ?_); intro gb449 hg w31 hbox hb; have n0_ := zM (Kd.R_below (Kd.R_elderB (zR HO_7.1) gb449 (Nat.le_of_eq hg.symm)) hb); have n1_ := zM (Kd.R_below (zR HO_8.1) hb); have n2_ := zM (Kd.N_below (Kd.N_elderB (by refine zrN ?_; exact HO_9.1) gb449 (Nat.le_of_eq hg.symm)) hb); have n3_ := zM (Kd.V_below (Kd.V_elderB (by refine zrV ?_; exact HL442_0.1) gb449 (Nat.le_of_eq hg.symm)) hb); have n5_ := zM (below_step zB3 hb); have n6_ := zM hbox; have n7_ := zM (zW hg (below_size zB3)); have n8_ := zM (zW hg (below_size zB3)); clear HO_7; clear HO_8; clear HO_9; clear HL442_0; clear HB; have HO_7 := n0_; have HO_8 := n1_; have HO_9 := n2_; have HL442_0 := n3_; have HB := n5_; have BK449 := n6_; have GW449 := n7_; have GE449 := n8_; clear n0_ n1_ n2_ n3_ n5_ n6_ n7_ n8_; clear hb hbox hg; have hcz32 := zc_5 (w := w31) BK449.1) | ((with_reducible refine gate_builtin (b := .append) (xs := #[.tmp 55, .tmp 57]) rfl ?_); (try (refine gate_guard (by rfl) ?_; dsimp only)); at_builtin; refine Kd.R_append k31 (w0 := w) w.heap.size rfl (.tmp 55) (.tmp 57) 24 31 (.agg #[(.int .i64 0), (.int .i64 0), (.int .i64 0), (.int .i64 0), (.int .i64 0)]) 40 rfl Tryd.underlying24 info31 rfl (by decide) (by omega) u7 x7_1 (⟨t443, t444, t445, t446, t447⟩ : S31) [.int .i64 t443, .int .i64 t444, .int .i64 t445, .int .i64 t446, .int .i64 t447] (fun k_ => (w.heap.size ≤ k_) ∧ k_ ≠ gb449) (fun _ => False) rfl (by first | (go_simp; done) | (go_simp; rfl)) ?aP (fun _ hk => hk.elim) ?aF ?aO ?aB ?aS ?aL ?_; (case aP => exact k31_mkM _ _ _ (⟨t443, t444, t445, t446, t447⟩ : S31)); (case aB => exact zB3); (case aF => exact (fun k_ hk => ⟨(Nat.le_trans (below_size zB3) hk), Kd.freshB (g := gb449) (o := .cells #[.int .i64 t443, .int .i64 t444, .int .i64 t445, .int .i64 t446, .int .i64 t447] 31 (0, 0)) (by exact zp5 (zK BK449.1)) k_ hk⟩)); (case aO => exact (by refine zrR ?_; exact Kd.R_mono (zfR (zfR (zfR (zfR (zfR (Kd.R_mono HO_7.1 (fun k_ hk => (⟨hk, hk.2⟩ : _ ∧ k_ ≠ gb449)))))))) (fun _ hk => ⟨hk.1.1, hk.1.2⟩))); (case aS => exact (below_size zB3)); (case aL => have := LMc25.out; omega); intro v451 w33 ho hb hg hat; rw [← Ny450.1] at ho; replace HO_8 := zM (Kd.R_over' (by refine zrR ?_; exact (Kd.R_mono (zfR (zfR (zfR (zfR (zfR (Kd.R_types HO_8.1 BK449.1 (by decide))))))) (fun _ h_ => h_.1))) (Kd.R_typed (by refine zrR ?_; exact (Kd.R_mono (zfR (zfR (zfR (zfR (zfR (Kd.R_mono HO_7.1 (fun k_ hk => (⟨hk, hk.2⟩ : _ ∧ k_ ≠ gb449)))))))) (fun _ h_ => h_.1)))) (by decide) hg); replace HO_9 := zM (Kd.N_afterv (ok := (fun k_ => (P1_ k_ ∨ w.heap.size ≤ k_) ∧ some k_ ≠ (.slice Ao29 x8_1.length co29 : Value).ownBlock ∧ k_ ≠ gb449)) (by refine zrN ?_; exact Kd.N_mono (zfN (zfN (zfN (zfN (zfN (Kd.N_mono HO_9.1 (fun k_ hk => (⟨hk, hk.2⟩ : _ ∧ k_ ≠ gb449)))))))) (fun _ hk => ⟨⟨hk.1.1.1, ⟨hk.1.1.2.2, hk.1.2⟩⟩, hk.1.1.2.1⟩)) hg hat); replace HL442_0 := zM (Kd.V_afterv (ok := (fun k_ => (P1_ k_ ∨ w.heap.size ≤ k_) ∧ some k_ ≠ (.slice Ao29 x8_1.length co29 : Value).ownBlock ∧ some k_ ≠ (.slice (some ad442) x9_1.length co28 : Value).ownBlock ∧ k_ ≠ gb449)) (by refine zrV ?_; exact Kd.V_mono (zfV (zfV (zfV (zfV (zfV (Kd.V_mono HL442_0.1 (fun k_ hk => (⟨hk, hk.2⟩ : _ ∧ k_ ≠ gb449)))))))) (fun _ hk => ⟨⟨hk.1.1.1.1, ⟨hk.1.1.1.2.2, ⟨hk.1.1.2, hk.1.2⟩⟩⟩, hk.1.1.1.2.1⟩)) hg hat); replace BK449 := zM (blk_grown (g := gb449) (o := .cells #[.int .i64 t443, .int .i64 t444, .int .i64 t445, .int .i64 t446, .int .i64 t447] 31 (0, 0)) (by exact zp5 (zK BK449.1)) hg (Kd.R_away HO_7.1 (fun _ hk => hk.2))); replace HB := zM hb; have HO452 := zM ho; clear HO_7; clear ho hb hg hat; have p453 : 0 ≤ ((rd l2 x10_1) : Int) := zA; have q453 : (rd l2 x10_1) < (x9_1.length : Int) := zA; obtain ⟨ad453, A453_0, c453_0, e453, hx453_0, hx453_1, hx453_2, hl453_0, hi453_0⟩ := at_T80 (Kd.N_reads' HO_9.1).2.2 (rd l2 x10_1) p453 q453; obtain rfl : ad442 = ad453 := (by injection e453); obtain ⟨ce453, hce453, hMe453, hcc453⟩ := Kd.N_get HO_9.1 z80 (rd l2 x10_1) p453 (by first | exact q453 | exact zA | (have e_ := (Kd.N_reads' HO_9.1).1; omega)); obtain ⟨ua453_0, uc453_0, rfl, ul453_0, ge453_0⟩ := k80_openF hMe453; have hv453_0 := hcc453 0 _ rfl; rw [Nat.add_zero] at hv453_0; replace hv453_0 := Option.some.inj (hv453_0.symm.trans hx453_0); injection hv453_0 with hva_ hvn_ hvc_; rw [hva_] at ge453_0; rw [hvc_] at ul453_0; have HL453_0 := zM (show Kd.V (Kd.int .i64) 3 _ w.heap.size _ _ ((rd_T80 x9_1 (rd l2 x10_1)).f0) from Kd.V_mk ul453_0 ge453_0); clear hva_ hvn_ hvc_ ge453_0 ul453_0; clear hcc453 hce453; have HR453_0 := zM hi453_0; have HC453_0 := zM hl453_0; clear hi453_0 hl453_0; replace p453 := eq_true p453; replace q453 := eq_true q453) | ((with_reducible refine gate_callee (f := 50) rfl ?_); refine goesL_ (some 65) rfl rfl Tryd.func50 (by kernel_rfl) rfl #[.slice Ao29 x8_1.length co29, .agg #[.slice A453_0 ((rd_T80 x9_1 (rd l2 x10_1)).f0).length c453_0, .int .i64 ((rd_T80 x9_1 (rd l2 x10_1)).f1), .int .i64 ((rd_T80 x9_1 (rd l2 x10_1)).f2)]] rfl zT ?_; (with_reducible refine (spec_FlatStep.calls kj13 _ _ x8_1 _ _ ((rd_T80 x9_1 (rd l2 x10_1)).f0) ((rd_T80 x9_1 (rd l2 x10_1)).f1) ((rd_T80 x9_1 (rd l2 x10_1)).f2) t454 t457 t460 t461 _ ?side1 ?side2 ?side3 ?side4 A26.1).mono ?_); (case side1 => exact zC (Kd.R_reads' HO_8.1).2.2); (case side2 => exact (Kd.R_reads' HO_8.1).2.1); (case side3 => exact zC HR453_0.1); (case side4 => exact HC453_0.1); rintro e w34 ⟨v455, v458, rfl, ho0, ho1, hb⟩; refine ⟨_, rfl, ?_⟩; replace HO_9 := zM (Kd.N_mono (Kd.N_told (Kd.N_told (Kd.N_old (by refine zrN ?_; exact HO_9.1) hb) (Kd.R_base ho0)) (Kd.R_base ho1)) (fun _ h_ => h_.1)); replace HL442_0 := zM (Kd.V_mono (Kd.V_told (Kd.V_told (Kd.V_old (by refine zrV ?_; exact HL442_0.1) hb) (Kd.R_base ho0)) (Kd.R_base ho1)) (fun _ h_ => h_.1)); replace HO452 := zM (Kd.R_below (zR HO452.1) hb); replace HL453_0 := zM (Kd.V_mono (Kd.V_told (Kd.V_told (Kd.V_old (by refine zrV ?_; exact HL453_0.1) hb) (Kd.R_base ho0)) (Kd.R_base ho1)) (fun _ h_ => h_.1)); have HO456 := zM (Kd.R_lower (Kd.R_new' (Kd.R_newM (M := fun k_ => (w.heap.size ≤ k_)) ho0 (below_size zB3) (fun k_ h_ => h_)) (Kd.R_lt (zR HO_8.1))) (below_size zB3)); have HO459 := zM (Kd.R_lower (Kd.R_new' (Kd.R_newM (M := fun k_ => (w.heap.size ≤ k_)) ho1 (below_size zB3) (fun k_ h_ => h_)) (Kd.R_lt (zR HO_8.1))) (below_size zB3)); replace HO_8 := zM (Kd.R_mono (Kd.R_told (Kd.R_told (Kd.R_old (zR HO_8.1) hb) (Kd.R_base ho0)) (Kd.R_base ho1)) (fun _ h_ => h_.1)); replace BK449 := zM (zb BK449.1 hb); replace HR453_0 := zM (Kd.C_below (zC HR453_0.1) hb); replace HB := zM (below_step zB3 hb); clear hb ho0 ho1) | ((with_reducible refine gate_dst (N := 15) rfl ?_); (try (refine gate_guard (by rfl) ?_; dsimp only)); (with_reducible refine zBx 15 80 #[.slice none 0 0, .int .i64 0, .int .i64 0] ?_); intro gb462 hg w35 hbox hb; replace HO_8 := zM (Kd.R_below (zR HO_8.1) hb); replace HO_9 := zM (Kd.N_below (Kd.N_elderB (by refine zrN ?_; exact HO_9.1) gb462 (Nat.le_of_eq hg.symm)) hb); replace HL442_0 := zM (Kd.V_below (Kd.V_elderB (by refine zrV ?_; exact HL442_0.1) gb462 (Nat.le_of_eq hg.symm)) hb); replace HO452 := zM (Kd.R_below (zR HO452.1) hb); replace HL453_0 := zM (Kd.V_below (Kd.V_elderB (by refine zrV ?_; exact HL453_0.1) gb462 (Nat.le_of_eq hg.symm)) hb); replace HO456 := zM (Kd.R_below (zR HO456.1) hb); replace HO459 := zM (Kd.R_below (zR HO459.1) hb); replace HR453_0 := zM (Kd.C_below (zC HR453_0.1) hb); have BK462 := zM hbox; have GW462 := zM (zW hg (below_size zB3)); have GE462 := zM (zW hg (below_size zB3)); replace HB := zM (below_step zB3 hb); have NB449_462 := zM ((zn BK449.1 hg : gb449 ≠ gb462)); have NB462_449 := zM ((zm BK449.1 hg : gb462 ≠ gb449)); replace BK449 := zM (zb BK449.1 hb); clear hb hbox hg; obtain ⟨Ao36, co36, eo36⟩ := Kd.R_slice HO459.1; subst eo36; have hnb37 := NB462_449.1; have hnc37 := NB449_462.1; have hcz38 := zc_3 (w := w35) BK462.1) | ((with_reducible refine gate_store (t := 80) (p := 15) rfl ?_); refine store_event (t := 80) (p := 15) (v := ?vo_w39) (w1 := (((w35.setCell ⟨gb462, 0, none⟩ (.slice Ao36 t457.length co36)).setCell ⟨gb462, 1, none⟩ (.int .i64 t460)).setCell ⟨gb462, 2, none⟩ (.int .i64 t461))) ?hg ?ho ?hn ?hr ?_; (case ho => rfl); (case hg => rfl); (case hn => rfl); (case hr => exact zHH); intro w39 hw; have n0_ : Aside0 (Kd.R (Kd.int .i64) 3 w39 w.heap.size (fun k_ => (w.heap.size ≤ k_) ∧ some k_ ≠ (v455 : Value).ownBlock ∧ some k_ ≠ (.slice Ao36 t457.length co36 : Value).ownBlock) (.slice Ao29 x8_1.length co29) x8_1) := ⟨(by rw [hw]; exact (by refine zrR ?_; exact Kd.R_mono (zfR (zfR (zfR (Kd.R_types HO_8.1 BK462.1 (by decide))))) (fun _ hk => ⟨hk.1.1.1, ⟨hk.1.1.2, hk.1.2⟩⟩)))⟩; have n1_ : Aside0 (Kd.N k80 80 w39 w.heap.size (fun k_ => (P1_ k_ ∨ w.heap.size ≤ k_) ∧ some k_ ≠ (.slice Ao29 x8_1.length co29 : Value).ownBlock ∧ some k_ ≠ (v451 : Value).ownBlock ∧ some k_ ≠ (v455 : Value).ownBlock ∧ some k_ ≠ (.slice Ao36 t457.length co36 : Value).ownBlock ∧ k_ ≠ gb449 ∧ k_ ≠ gb462) (.slice (some ad442) x9_1.length co28) x9_1) := ⟨(by rw [hw]; exact (by refine zrN ?_; exact Kd.N_mono (zfN (zfN (zfN (Kd.N_mono HO_9.1 (fun k_ hk => (⟨hk, hk.2⟩ : _ ∧ k_ ≠ gb462)))))) (fun _ hk => ⟨hk.1.1.1.1.1.1, ⟨hk.1.1.1.1.1.2.1, ⟨hk.1.1.1.1.2, ⟨hk.1.1.1.2, ⟨hk.1.1.2, ⟨hk.1.1.1.1.1.2.2, hk.1.2⟩⟩⟩⟩⟩⟩)))⟩; have n2_ : Aside0 (Kd.V (Kd.int .i64) 3 w39 w.heap.size (fun k_ => (P1_ k_ ∨ w.heap.size ≤ k_) ∧ some k_ ≠ (.slice Ao29 x8_1.length co29 : Value).ownBlock ∧ some k_ ≠ (.slice (some ad442) x9_1.length co28 : Value).ownBlock ∧ some k_ ≠ (v451 : Value).ownBlock ∧ some k_ ≠ (v455 : Value).ownBlock ∧ some k_ ≠ (.slice Ao36 t457.length co36 : Value).ownBlock ∧ k_ ≠ gb449 ∧ k_ ≠ gb462) (.slice A442_0 ((rd_T80 x9_1 (rd l2 x10_1)).f0).length c442_0) ((rd_T80 x9_1 (rd l2 x10_1)).f0)) := ⟨(by rw [hw]; exact (by refine zrV ?_; exact Kd.V_mono (zfV (zfV (zfV (Kd.V_mono HL442_0.1 (fun k_ hk => (⟨hk, hk.2⟩ : _ ∧ k_ ≠ gb462)))))) (fun _ hk => ⟨hk.1.1.1.1.1.1, ⟨hk.1.1.1.1.1.2.1, ⟨hk.1.1.1.1.1.2.2.1, ⟨hk.1.1.1.1.2, ⟨hk.1.1.1.2, ⟨hk.1.1.2, ⟨hk.1.1.1.1.1.2.2.2, hk.1.2⟩⟩⟩⟩⟩⟩⟩)))⟩; have n3_ : Aside0 (Kd.R k31 31 w39 w.heap.size (fun k_ => (w.heap.size ≤ k_) ∧ k_ ≠ gb449) v451 y450) := ⟨(by rw [hw]; exact (by refine zrR ?_; exact Kd.R_mono (zfR (zfR (zfR (Kd.R_types HO452.1 BK462.1 (by decide))))) (fun _ hk => ⟨hk.1.1, hk.1.2⟩)))⟩; have n4_ : Aside0 (Kd.V (Kd.int .i64) 3 w39 w.heap.size (fun k_ => (P1_ k_ ∨ w.heap.size ≤ k_) ∧ some k_ ≠ (.slice Ao29 x8_1.length co29 : Value).ownBlock ∧ some k_ ≠ (.slice (some ad442) x9_1.length co28 : Value).ownBlock ∧ some k_ ≠ (v451 : Value).ownBlock ∧ some k_ ≠ (v455 : Value).ownBlock ∧ some k_ ≠ (.slice Ao36 t457.length co36 : Value).ownBlock ∧ k_ ≠ gb449 ∧ k_ ≠ gb462) (.slice A453_0 ((rd_T80 x9_1 (rd l2 x10_1)).f0).length c453_0) ((rd_T80 x9_1 (rd l2 x10_1)).f0)) := ⟨(by rw [hw]; exact (by refine zrV ?_; exact Kd.V_mono (zfV (zfV (zfV (Kd.V_mono HL453_0.1 (fun k_ hk => (⟨hk, hk.2⟩ : _ ∧ k_ ≠ gb462)))))) (fun _ hk => ⟨hk.1.1.1.1.1.1.1, ⟨hk.1.1.1.1.1.1.2.1, ⟨hk.1.1.1.1.2, ⟨hk.1.1.1.1.1.2, ⟨hk.1.1.1.2, ⟨hk.1.1.2, ⟨hk.1.1.1.1.1.1.2.2, hk.1.2⟩⟩⟩⟩⟩⟩⟩)))⟩; have n5_ : Aside0 (Kd.R (Kd.int .i64) 3 w39 w.heap.size (fun k_ => (w.heap.size ≤ k_) ∧ some k_ ≠ (.slice Ao29 x8_1.length co29 : Value).ownBlock ∧ some k_ ≠ (.slice Ao36 t457.length co36 : Value).ownBlock) v455 t454) := ⟨(by rw [hw]; exact (by refine zrR ?_; exact Kd.R_mono (zfR (zfR (zfR (Kd.R_types HO456.1 BK462.1 (by decide))))) (fun _ hk => ⟨hk.1.1.1, ⟨hk.1.2, hk.1.1.2⟩⟩)))⟩; have n6_ : Aside0 (Kd.R (Kd.int .i64) 3 w39 w.heap.size (fun k_ => (w.heap.size ≤ k_) ∧ some k_ ≠ (.slice Ao29 x8_1.length co29 : Value).ownBlock ∧ some k_ ≠ (v455 : Value).ownBlock) (.slice Ao36 t457.length co36) t457) := ⟨(by rw [hw]; exact (by refine zrR ?_; exact Kd.R_mono (zfR (zfR (zfR (Kd.R_types HO459.1 BK462.1 (by decide))))) (fun _ hk => ⟨hk.1.1.1, ⟨hk.1.2, hk.1.1.2⟩⟩)))⟩; have n7_ : Aside0 (w39.heap[gb449]? = some (.cells #[.int .i64 t443, .int .i64 t444, .int .i64 t445, .int .i64 t446, .int .i64 t447] 31 (0, 0))) := ⟨(by rw [hw]; exact zPq)⟩; have n8_ : Aside0 (w39.heap[gb462]? = some (.cells #[.slice Ao36 t457.length co36, .int .i64 t460, .int .i64 t461] 80 (0, 0))) := ⟨(by rw [hw]; exact (by exact zp3 (zK BK462.1)))⟩; have n9_ : Aside0 (Below w.heap.size w w39) := ⟨(by rw [hw]; exact zB3)⟩; clear hw; clear HO_8; clear HO_9; clear HL442_0; clear HO452; clear HL453_0; clear HO456; clear HO459; clear BK449; clear BK462; clear HB; have HO_8 := n0_; have HO_9 := n1_; have HL442_0 := n2_; have HO452 := n3_; have HL453_0 := n4_; have HO456 := n5_; have HO459 := n6_; have BK449 := n7_; have BK462 := n8_; have HB := n9_; clear n0_ n1_ n2_ n3_ n4_ n5_ n6_ n7_ n8_ n9_; have hcz40 := zc_3 (w := w39) BK462.1; have p27 : 0 ≤ ((rd l2 x10_1) : Int) := zA; have q27 : ((rd l2 x10_1) : Int) < ((x9_1.length : Int) : Int) := zA; obtain ⟨go27, co27, eo27, gb27, gl27, cl27, HG27⟩ := Kd.N_form HO_9.1 (by omega); (first | cases eo27 | (injection eo27 with ea_ en_ ec_; (first | subst ea_ | (injection ea_ with ea_; subst ea_)); subst ec_; clear en_)); have GB27 := zM gb27; have GG27 := zM HG27; clear gb27 gl27 HG27; (first | simp only [add_plain] at hx442_0 | skip); (first | simp only [add_plain] at hx442_1 | skip); (first | simp only [add_plain] at hx442_2 | skip); (first | simp only [add_plain] at hx453_0 | skip); (first | simp only [add_plain] at hx453_1 | skip); (first | simp only [add_plain] at hx453_2 | skip); obtain ⟨ce27, hcl27, hM27, hcc27, hfr27⟩ := Kd.N_elem HO_9.1 z80 ((rd l2 x10_1) : Int) p27 q27; obtain ⟨ua27_0, uc27_0, rfl, ul27_0, ge27_0⟩ := k80_openF hM27; have hx27_0 : w39.cell? ⟨go27, ((rd l2 x10_1) : Int).toNat * 3, none⟩ = some (.slice ua27_0 ((rd_T80 x9_1 (rd l2 x10_1)).f0).length uc27_0) := hcc27 0 _ rfl; have hx27_1 : w39.cell? ⟨go27, ((rd l2 x10_1) : Int).toNat * 3 + 1, none⟩ = some (.int .i64 ((rd_T80 x9_1 (rd l2 x10_1)).f1)) := hcc27 1 _ rfl; have hx27_2 : w39.cell? ⟨go27, ((rd l2 x10_1) : Int).toNat * 3 + 2, none⟩ = some (.int .i64 ((rd_T80 x9_1 (rd l2 x10_1)).f2)) := hcc27 2 _ rfl; have hf27_0 : w39.frozen? ⟨go27, ((rd l2 x10_1) : Int).toNat * 3, none⟩ = false := hfr27 0; have hf27_1 : w39.frozen? ⟨go27, ((rd l2 x10_1) : Int).toNat * 3 + 1, none⟩ = false := hfr27 1; have hf27_2 : w39.frozen? ⟨go27, ((rd l2 x10_1) : Int).toNat * 3 + 2, none⟩ = false := hfr27 2; clear hcl27 hcc27 hfr27 hM27; replace p27 := eq_true p27; replace q27 := eq_true q27; have HX41 := zM (show Kd.N k80 80 w39 w.heap.size (fun k_ => (P1_ k_ ∨ w.heap.size ≤ k_) ∧ some k_ ≠ (.slice Ao29 x8_1.length co29 : Value).ownBlock ∧ some k_ ≠ (v451 : Value).ownBlock ∧ some k_ ≠ (v455 : Value).ownBlock ∧ k_ ≠ gb449 ∧ k_ ≠ gb462) (.slice (some ⟨go27, 0, none⟩) x9_1.length co28) x9_1 from (by refine zrN ?_; exact Kd.N_mono HO_9.1 (fun _ hk => ⟨hk.1, ⟨hk.2.1, ⟨hk.2.2.1, ⟨hk.2.2.2.1, ⟨hk.2.2.2.2.2.1, hk.2.2.2.2.2.2⟩⟩⟩⟩⟩))); obtain ⟨ce41, hcl41, hM41, hcc41, hfr41⟩ := Kd.N_elem HX41.out z80 ((rd l2 x10_1) : Int) zA (by have h_ : ((rd l2 x10_1) : Int) < ((x9_1.length : Int) : Int) := zA; first | exact h_ | (have e_ := (Kd.N_reads' HO_9.1).1; omega) | simpa using h_); obtain ⟨ua41_0, uc41_0, rfl, ul41_0, ge41_0⟩ := k80_openF hM41; have HP41 := Kd.N_seg HX41.out ((rd l2 x10_1) : Int) zA (by have h_ : ((rd l2 x10_1) : Int) < ((x9_1.length : Int) : Int) := zA; first | exact h_ | (have e_ := (Kd.N_reads' HO_9.1).1; omega) | simpa using h_) (seg := [.slice Ao36 t457.length co36, .int .i64 t460, .int .i64 t461]) (j := 0) hcl41 hcc41 (show 3 ≤ 3 from by decide) (x' := (⟨t457, t460, t461⟩ : S80)) (k80_mkF _ _ (⟨t457, t460, t461⟩ : S80) (Kd.R_reads' (Kd.R_mono (ok' := (fun k_ => ((fun k_ => (P1_ k_ ∨ w.heap.size ≤ k_) ∧ some k_ ≠ (.slice Ao29 x8_1.length co29 : Value).ownBlock ∧ some k_ ≠ (v451 : Value).ownBlock ∧ some k_ ≠ (v455 : Value).ownBlock ∧ k_ ≠ gb449 ∧ k_ ≠ gb462)) k_ ∧ k_ ≠ go27)) (Kd.R_types (Kd.R_types (Kd.R_apart' (Kd.R_apart' (HO459.1) (Kd.R_typed HO452.1) (by decide)) (Kd.N_typed HO_9.1) (by decide)) BK449.1 (by decide)) BK462.1 (by decide)) (fun k_ hk => ⟨⟨(.inr (hk.1.1.1.1.1)), ⟨hk.1.1.1.1.2.1, ⟨hk.1.1.1.2, ⟨hk.1.1.1.1.2.2, ⟨hk.1.2, hk.2⟩⟩⟩⟩⟩, fun e_ => (hk.1.1.2) (by rw [e_]; rfl)⟩))).2.1 (Kd.R_F (Kd.R_mono (ok' := (fun k_ => ((fun k_ => (P1_ k_ ∨ w.heap.size ≤ k_) ∧ some k_ ≠ (.slice Ao29 x8_1.length co29 : Value).ownBlock ∧ some k_ ≠ (v451 : Value).ownBlock ∧ some k_ ≠ (v455 : Value).ownBlock ∧ k_ ≠ gb449 ∧ k_ ≠ gb462)) k_ ∧ k_ ≠ go27)) (Kd.R_types (Kd.R_types (Kd.R_apart' (Kd.R_apart' (HO459.1) (Kd.R_typed HO452.1) (by decide)) (Kd.N_typed HO_9.1) (by decide)) BK449.1 (by decide)) BK462.1 (by decide)) (fun k_ hk => ⟨⟨(.inr (hk.1.1.1.1.1)), ⟨hk.1.1.1.1.2.1, ⟨hk.1.1.1.2, ⟨hk.1.1.1.1.2.2, ⟨hk.1.2, hk.2⟩⟩⟩⟩⟩, fun e_ => (hk.1.1.2) (by rw [e_]; rfl)⟩)))) (fun _ hk => hk); have hx41_0 := hcc41 0 _ rfl; (try simp only [show (k80).sz = 3 from rfl, Nat.mul_one, Nat.add_zero] at hx41_0); have hf41_0 := hfr41 0; (try simp only [show (k80).sz = 3 from rfl, Nat.mul_one, Nat.add_zero] at hf41_0); have hx41_1 := hcc41 1 _ rfl; (try simp only [show (k80).sz = 3 from rfl, Nat.mul_one, Nat.add_zero] at hx41_1); have hf41_1 := hfr41 1; (try simp only [show (k80).sz = 3 from rfl, Nat.mul_one, Nat.add_zero] at hf41_1); have hx41_2 := hcc41 2 _ rfl; (try simp only [show (k80).sz = 3 from rfl, Nat.mul_one, Nat.add_zero] at hx41_2); have hf41_2 := hfr41 2; (try simp only [show (k80).sz = 3 from rfl, Nat.mul_one, Nat.add_zero] at hf41_2); clear hcl41 hcc41 hfr41 hM41) | ((with_reducible refine gate_store (t := 80) (p := 72) rfl ?_); refine store_event (t := 80) (p := 72) (v := ?vo_w42) (w1 := (((w39.setCell ⟨go27, ((rd l2 x10_1) : Int).toNat * 3, none⟩ (.slice Ao36 t457.length co36)).setCell ⟨go27, ((rd l2 x10_1) : Int).toNat * 3 + 1, none⟩ (.int .i64 t460)).setCell ⟨go27, ((rd l2 x10_1) : Int).toNat * 3 + 2, none⟩ (.int .i64 t461))) ?hg ?ho ?hn ?hr ?_; (case ho => rfl); (case hg => rfl); (case hn => rfl); (case hr => exact zHH); intro w42 hw; have hg : w39.grownBy w42 (some go27) := (by rw [hw]; exact HP41.2); have hp_ : Kd.N k80 80 w42 w.heap.size (fun k_ => (P1_ k_ ∨ w.heap.size ≤ k_) ∧ some k_ ≠ (.slice Ao29 x8_1.length co29 : Value).ownBlock ∧ some k_ ≠ (v451 : Value).ownBlock ∧ some k_ ≠ (v455 : Value).ownBlock ∧ k_ ≠ gb449 ∧ k_ ≠ gb462) (.slice (some ⟨go27, 0, none⟩) x9_1.length co28) y463 := (by rw [hw, Ny463.1]; exact HP41.1); clear HP41; replace HO_8 := zM (Kd.R_over' (v := (.slice (some ⟨go27, 0, none⟩) x9_1.length co28)) (zR HO_8.1) (Kd.N_typed HO_9.1) (by decide) hg); replace HL442_0 := zM (Kd.V_afterv (v := (.slice (some ⟨go27, 0, none⟩) x9_1.length co28)) (v1 := (.slice (some ⟨go27, 0, none⟩) x9_1.length co28)) (ok := (fun k_ => (P1_ k_ ∨ w.heap.size ≤ k_) ∧ some k_ ≠ (.slice Ao29 x8_1.length co29 : Value).ownBlock ∧ some k_ ≠ (v451 : Value).ownBlock ∧ some k_ ≠ (v455 : Value).ownBlock ∧ some k_ ≠ (.slice Ao36 t457.length co36 : Value).ownBlock ∧ k_ ≠ gb449 ∧ k_ ≠ gb462)) (by refine zrV ?_; exact Kd.V_mono HL442_0.1 (fun _ hk => ⟨⟨hk.1, ⟨hk.2.1, ⟨hk.2.2.2.1, ⟨hk.2.2.2.2.1, ⟨hk.2.2.2.2.2.1, ⟨hk.2.2.2.2.2.2.1, hk.2.2.2.2.2.2.2⟩⟩⟩⟩⟩⟩, hk.2.2.1⟩)) hg (.inl rfl)); replace BK449 := zM (zg BK449.1 hg (Kd.N_ne HO_9.1 BK449.1 (by decide))); replace HO452 := zM (Kd.R_over' (v := (.slice (some ⟨go27, 0, none⟩) x9_1.length co28)) (zR HO452.1) (Kd.N_typed HO_9.1) (by decide) hg); replace HL453_0 := zM (Kd.V_afterv (v := (.slice (some ⟨go27, 0, none⟩) x9_1.length co28)) (v1 := (.slice (some ⟨go27, 0, none⟩) x9_1.length co28)) (ok := (fun k_ => (P1_ k_ ∨ w.heap.size ≤ k_) ∧ some k_ ≠ (.slice Ao29 x8_1.length co29 : Value).ownBlock ∧ some k_ ≠ (v451 : Value).ownBlock ∧ some k_ ≠ (v455 : Value).ownBlock ∧ some k_ ≠ (.slice Ao36 t457.length co36 : Value).ownBlock ∧ k_ ≠ gb449 ∧ k_ ≠ gb462)) (by refine zrV ?_; exact Kd.V_mono HL453_0.1 (fun _ hk => ⟨⟨hk.1, ⟨hk.2.1, ⟨hk.2.2.2.1, ⟨hk.2.2.2.2.1, ⟨hk.2.2.2.2.2.1, ⟨hk.2.2.2.2.2.2.1, hk.2.2.2.2.2.2.2⟩⟩⟩⟩⟩⟩, hk.2.2.1⟩)) hg (.inl rfl)); replace HO456 := zM (Kd.R_over' (v := (.slice (some ⟨go27, 0, none⟩) x9_1.length co28)) (zR HO456.1) (Kd.N_typed HO_9.1) (by decide) hg); replace BK462 := zM (zg BK462.1 hg (Kd.N_away HO_9.1 (fun _ hk => hk.2.2.2.2.2.2))); replace HO_9 := zM hp_; replace HB := zM ((by rw [hw]; exact below_set (below_set (below_set (HB.1) GB27.1) GB27.1) GB27.1 : Below w.heap.size w w42)); clear HO459; clear hg hw hp_))
     go_roundg kj13
     case measure => have := HK1.1; have := HJ13.1; omega
     case rel => exact ⟨(y450), (t454), (y463), (wrap64 (x10_1 + 1)), zJJ, H', ⟨by have := HK1.1; have := HJ13.1; omega⟩, ⟨by refine zrR ?_; exact Kd.R_mono HO452.1 (fun _ hk => hk.1)⟩, ⟨by refine zrR ?_; exact Kd.R_mono HO456.1 (fun _ hk => hk.1)⟩, ⟨by refine zrN ?_; exact Kd.N_mono HO_9.1 (fun _ hk => ⟨hk.1, ⟨hk.2.2.1, hk.2.2.2.1⟩⟩)⟩, ⟨zB3⟩⟩

/-! ### spec_l18DrawTrace: function 16 -/
def spec_l18DrawTrace.j0 : Nat → List Int → List (S31) → Bool → List Int → Int → Int → Option (List Int × (List (S31)) × Int × Int)
 | 0, _, _, _, _, _, _ => none
 | k + 1, x4, x7, x25, x1000, x1001, x1002 => if x25 = true then ((spec_l1Below.f x1000 x1001 x1002 (x7.length : Int)).bind fun bt492 => (if 0 ≤ bt492.1 then (if bt492.1 < (x7.length : Int) then ((spec_l1Below.f x1000 bt492.2.1 bt492.2.2 4).bind fun bt496 => (if bt496.1 = 0 then ((spec_l1Below.f x1000 bt496.2.1 bt496.2.2 9).bind fun bt499 => (some (x4, (x7.set (bt492.1 : Int).toNat (⟨(rd_T31 x7 bt492.1).f0, (rd_T31 x7 bt492.1).f1, (rd_T31 x7 bt492.1).f2, wrap64 (bt499.1 - 1), (rd_T31 x7 bt492.1).f4⟩ : S31)), bt499.2.1, bt499.2.2))) else (if bt496.1 = 1 then ((spec_l1Below.f x1000 bt496.2.1 bt496.2.2 9).bind fun bt503 => (some (x4, (x7.set (bt492.1 : Int).toNat (⟨(rd_T31 x7 bt492.1).f0, (rd_T31 x7 bt492.1).f1, (rd_T31 x7 bt492.1).f2, (rd_T31 x7 bt492.1).f3, wrap64 (bt503.1 - 1)⟩ : S31)), bt503.2.1, bt503.2.2))) else (if bt496.1 = 2 then ((spec_l1PickInt.f x1000 bt496.2.1 bt496.2.2 (([(-1), 3, 24] : List Int))).bind fun bt510 => (some (x4, (x7.set (bt492.1 : Int).toNat (⟨(rd_T31 x7 bt492.1).f0, (rd_T31 x7 bt492.1).f1, bt510.1, (rd_T31 x7 bt492.1).f3, (rd_T31 x7 bt492.1).f4⟩ : S31)), bt510.2.1, bt510.2.2))) else ((spec_l1Below.f x1000 bt496.2.1 bt496.2.2 4).bind fun bt514 => (some (x4, (x7.set (bt492.1 : Int).toNat (⟨wrap64 (bt514.1 - 1), (rd_T31 x7 bt492.1).f1, (rd_T31 x7 bt492.1).f2, (rd_T31 x7 bt492.1).f3, (rd_T31 x7 bt492.1).f4⟩ : S31)), bt514.2.1, bt514.2.2))))))) else (none)) else (none))) else (some (x4, x7, x1001, x1002))
def spec_l18DrawTrace.f (k : Nat) (s0_0 : List Int) (s0_1 : Int) (s0_2 : Int) : Option (List Int × (List (S31)) × Int × Int) := (spec_l18DrawRun.f k s0_0 s0_1 s0_2 24).bind fun bt475 => ((spec_Trace.f k bt475.1 bt475.2.1 bt475.2.2.1).bind fun t486 => (if (t486.length : Int) > 0 then ((spec_l1Once.f s0_0 bt475.2.2.2.1 bt475.2.2.2.2 4).bind fun bt489 => (spec_l18DrawTrace.j0 k bt475.1 t486 bt489.1 s0_0 bt489.2.1 bt489.2.2)) else (spec_l18DrawTrace.j0 k bt475.1 t486 false s0_0 bt475.2.2.2.1 bt475.2.2.2.2)))
theorem spec_l18DrawTrace.mono_l : ∀ k, (∀ y0 y1 y2 y3 y4 y5, LeO (spec_l18DrawTrace.j0 k y0 y1 y2 y3 y4 y5) (spec_l18DrawTrace.j0 (k + 1) y0 y1 y2 y3 y4 y5))
 | 0 => fun _ _ _ _ _ _ r h => by simp [spec_l18DrawTrace.j0] at h
 | k + 1 => by
  have ih0 := spec_l18DrawTrace.mono_l k
  ·intros
   unfold spec_l18DrawTrace.j0
   have mo0 := @spec_Trace.mono
   have mo1 := @spec_l18DrawRun.mono
   exact zL
theorem spec_l18DrawTrace.mono : ∀ a0 a1 a2 k, LeO (spec_l18DrawTrace.f k a0 a1 a2) (spec_l18DrawTrace.f (k + 1) a0 a1 a2) := by
 intro a0 a1 a2 k
 have ih0 := spec_l18DrawTrace.mono_l k
 unfold spec_l18DrawTrace.f
 have mo0 := @spec_Trace.mono
 have mo1 := @spec_l18DrawRun.mono
 exact zL
theorem spec_l18DrawTrace.calls (k : Nat) (g : Nat) (s0_0 : List Int) (s0_1 : Int) (s0_2 : Int) (r1 : List Int) (r2 : List (S31)) (r3 : Int) (r4 : Int) (w0 w : World) (hI : IsS64 w0 w g s0_0 s0_1 s0_2) (hB : Below w0.heap.size w0 w) (h : spec_l18DrawTrace.f k s0_0 s0_1 s0_2 = some (r1, r2, r3, r4)) :
  Calls Tryd.prog 16 #[.pointer (some ⟨g, 0, none⟩)] w fun e w' => ∃ v0_ v1_ : Value, e = .returned (.tuple #[v0_, v1_]) ∧ Kd.R (Kd.int .i64) 3 w' w.heap.size (fun _ => True) v0_ r1 ∧ Kd.R k31 31 w' w.heap.size (fun _ => True) v1_ r2 ∧ IsS64 w0 w' g s0_0 r3 r4 ∧ Below w0.heap.size w0 w' ∧ KeepBut w w' g none := by
 have HI0 := zM hI
 have HK := zM (KeepBut.refl w g none)
 have HL := zM hB.size
 clear hI
 have HW0 := zM hB.size
 have HB := zM hB
 clear hB
 unfold spec_l18DrawTrace.f at h
 have H := h
 clear h
 replace H := zO H
 obtain ⟨⟨t475, t478, t481, t484, t485⟩, A2, H⟩ := H
 try dsimp only at H
 replace H := zO H
 obtain ⟨t486, A3, H⟩ := H
 have HC4 := zM H
 clear H
 go_enter Tryd.func16, Tryd.ntmps16
 go_upto_region 3 with (first | ((with_reducible refine gate_callee (f := 31) rfl ?_); refine goesL_ (some 11) rfl rfl Tryd.func31 (by kernel_rfl) rfl #[.pointer (some ⟨g, 0, none⟩), .int .i64 24] rfl zT ?_; (with_reducible refine (spec_l18DrawRun.calls k g s0_0 s0_1 s0_2 24 t475 t478 t481 t484 t485 w0 _ ?side1 ?side2 A2.1).mono ?_); (case side1 => exact zB0); (case side2 => exact zB1); rintro e w5 ⟨v476, v479, v482, rfl, ho0, ho1, ho2, hi, hb, hk⟩; refine ⟨_, rfl, ?_⟩; have HO477 := zM (Kd.R_lower ho0 (keep_size (w := w) (g := g) (row := none) zB2)); have HO480 := zM (Kd.S_lower ho1 (keep_size (w := w) (g := g) (row := none) zB2)); have HO483 := zM (Kd.R_lower ho2 (keep_size (w := w) (g := g) (row := none) zB2)); replace HK := zM (KeepBut.trans zB2 hk (.inl rfl)); replace HB := zM hb; replace HI0 := zM hi; clear hb hk hi ho0 ho1 ho2; obtain ⟨Ao6, co6, eo6⟩ := Kd.R_slice HO477.1; subst eo6; obtain ⟨Ao7, co7, eo7⟩ := Kd.S_slice HO480.1; subst eo7; obtain ⟨Ao8, co8, eo8⟩ := Kd.R_slice HO483.1; subst eo8) | ((with_reducible refine gate_callee (f := 32) rfl ?_); refine goesL_ (some 18) rfl rfl Tryd.func32 (by kernel_rfl) rfl #[.slice Ao6 t475.length co6, .slice Ao7 t478.length co7, .slice Ao8 t481.length co8] rfl zT ?_; (with_reducible refine (spec_Trace.calls k _ _ t475 (fun k_ => ((some k_ ≠ (.slice Ao6 t475.length co6 : Value).ownBlock ∧ some k_ ≠ (.slice Ao8 t481.length co8 : Value).ownBlock) ∧ k_ ≠ g)) _ _ t478 _ _ t481 t486 _ ?side1 ?side2 ?side3 ?side4 ?side5 A3.1).mono ?_); (case side1 => exact zC (Kd.R_reads' HO477.1).2.2); (case side2 => exact (Kd.R_reads' HO477.1).2.1); (case side3 => exact Kd.S_V (IsS64.apartS HI0.1 (HO480.1) (by decide))); (case side4 => exact zC (Kd.R_reads' HO483.1).2.2); (case side5 => exact (Kd.R_reads' HO483.1).2.1); rintro e w9 ⟨v487, rfl, ho0, hb⟩; refine ⟨_, rfl, ?_⟩; replace HO477 := zM (Kd.R_below (zR HO477.1) hb); replace HO480 := zM (Kd.S_below (zS HO480.1) hb); replace HO483 := zM (Kd.R_below (zR HO483.1) hb); have HO488 := zM (Kd.R_lower (Kd.R_mono (ok' := fun k_ => True) ho0 (fun _ hk_ => trivial)) (keep_size (w := w) (g := g) (row := none) zB2)); replace HK := zM (KeepBut.trans zB2 (KeepBut.of_below hb g none) (.inl rfl)); replace HB := zM (below_step zB1 hb); replace HI0 := zM (IsS64.below zB0 hb); clear hb ho0))
 (try simp only [Act.put, List.setIfInBounds_toArray, List.set_cons_zero, List.set_cons_succ])
 go_cut [25] (fun v25 wc => ∃ (kq : Nat) (x25_3 : Bool) (x1001_3 : Int) (x1002_3 : Int), v25 = .bool x25_3 ∧ Aside0 (spec_l18DrawTrace.j0 kq t475 t486 x25_3 s0_0 x1001_3 x1002_3 = some (r1, r2, r3, r4)) ∧ Aside0 (kq ≤ k) ∧ Aside0 (Kd.R (Kd.int .i64) 3 wc w.heap.size (fun _ => True) (.slice Ao6 t475.length co6) t475) ∧ Aside0 (Kd.R k31 31 wc w.heap.size (fun _ => True) v487 t486) ∧ Aside0 (IsS64 w0 wc g s0_0 x1001_3 x1002_3) ∧ Aside0 (KeepBut w wc g none) ∧ Aside0 (Below w0.heap.size w0 wc))
 case first =>
  have H := HC4.1
  clear HC4
  by_cases c10 : (t486.length : Int) > 0
  rotate_left
  ·rw [if_neg c10] at H
   have c10b0 := decide_eq_false c10
   have c10b1 : decide (0 < t486.length) = false := decide_eq_false (by omega)
   clear c10
   (first | rw [c10b0] | (simp only [i64_w, i32_w]; rw [c10b0]) | skip)
   have H' := zM H
   clear H
   obtain ⟨Ao14, co14, eo14⟩ := Kd.R_slice HO488.1
   subst eo14
   go_wp2
   go_meet
   case rel => exact ⟨_, (false), (t484), (t485), zJJ, H', ⟨by first | omega | exact Nat.le_refl _⟩, ⟨by refine zrR ?_; exact Kd.R_mono HO477.1 (fun _ hk => trivial)⟩, ⟨zR HO488.1⟩, ⟨zB0⟩, ⟨zB2⟩, ⟨zB1⟩⟩
  rw [if_pos c10] at H
  have c10b0 := decide_eq_true c10
  have c10b1 : decide (0 < t486.length) = true := decide_eq_true (by omega)
  clear c10
  (first | rw [c10b0] | (simp only [i64_w, i32_w]; rw [c10b0]) | skip)
  replace H := zO H
  obtain ⟨⟨t489, t490, t491⟩, A11, H⟩ := H
  try dsimp only at H
  have H' := zM H
  clear H
  obtain ⟨Ao12, co12, eo12⟩ := Kd.R_slice HO488.1
  subst eo12
  go_wp2_with (first | (go_at_call 33; (with_reducible refine (spec_l1Once.calls g s0_0 t484 t485 4 t489 t490 t491 w0 _ ?side1 ?side2 A11.1).mono ?_); (case side1 => exact zB0); (case side2 => exact zB1); rintro e w13 ⟨rfl, hi, hb, hk⟩; have n0_ := zM (Kd.R_mono (Kd.R_keep (IsS64.apart (show IsS64 w0 _ g s0_0 t484 t485 from zB0) (zR HO477.1) (by decide)) hk (fun _ h => h.2)) (fun _ h => h.1)); have n1_ := zM (Kd.S_mono (Kd.S_keep (IsS64.apartS (show IsS64 w0 _ g s0_0 t484 t485 from zB0) (zS HO480.1) (by decide)) hk (fun _ h => h.2)) (fun _ h => h.1)); have n2_ := zM (Kd.R_mono (Kd.R_keep (IsS64.apart (show IsS64 w0 _ g s0_0 t484 t485 from zB0) (zR HO483.1) (by decide)) hk (fun _ h => h.2)) (fun _ h => h.1)); have n3_ := zM (Kd.R_mono (Kd.R_keep (IsS64.apart (show IsS64 w0 _ g s0_0 t484 t485 from zB0) (zR HO488.1) (by decide)) hk (fun _ h => h.2)) (fun _ h => h.1)); have n4_ := zM (KeepBut.trans zB2 hk (.inl rfl)); have n5_ := zM hb; have n6_ := zM hi; clear HO477; clear HO480; clear HO483; clear HO488; clear HK; clear HB; clear HI0; have HO477 := n0_; have HO480 := n1_; have HO483 := n2_; have HO488 := n3_; have HK := n4_; have HB := n5_; have HI0 := n6_; clear n0_ n1_ n2_ n3_ n4_ n5_ n6_; clear hb hk hi))
  go_meet
  case rel => exact ⟨_, (t489), (t490), (t491), zJJ, H', ⟨by first | omega | exact Nat.le_refl _⟩, ⟨by refine zrR ?_; exact Kd.R_mono HO477.1 (fun _ hk => trivial)⟩, ⟨zR HO488.1⟩, ⟨zB0⟩, ⟨zB2⟩, ⟨zB1⟩⟩
 case rest =>
  clear HC4
  obtain ⟨kq, x25_3, x1001_3, x1002_3, rfl, HA, HJ3, HO_4, HO_7, HI0, HK, HB⟩ := hcut
  cases kq with
  | zero => exact absurd HA.1 (by simp [spec_l18DrawTrace.j0])
  | succ kj3 =>
   have H := HA.1
   clear HA
   simp only [spec_l18DrawTrace.j0] at H
   by_cases c15 : x25_3 = true
   rotate_left
   ·replace c15 := Bool.eq_false_iff.mpr c15
    subst c15
    rw [if_neg zF] at H
    simp only [Option.some.injEq, Prod.mk.injEq] at H
    obtain ⟨rfl, rfl, rfl, rfl⟩ := H
    go_wp2
    go_ret2
    exact ⟨_, _, zE, zR HO_4.1, zR HO_7.1, zB0, zB1, zB2⟩
   subst c15
   rw [if_pos rfl] at H
   replace H := zO H
   obtain ⟨⟨t492, t493, t494⟩, A16, H⟩ := H
   try dsimp only at H
   replace H := zIt H
   obtain ⟨c17b0, H⟩ := H
   replace H := zIt H
   obtain ⟨c18b0, H⟩ := H
   replace H := zO H
   obtain ⟨⟨t496, t497, t498⟩, A19, H⟩ := H
   try dsimp only at H
   by_cases c20 : t496 = 0
   ·rw [if_pos c20] at H
    have c20b0 : (t496 == 0) = true := beq_iff_eq.mpr c20
    have c20b1 : (t496 != 0) = false := bne_eq_false_iff_eq.mpr c20
    clear c20
    replace H := zO H
    obtain ⟨⟨t499, t500, t501⟩, A21, H⟩ := H
    try dsimp only at H
    generalize hy502 : ((t486.set (t492 : Int).toNat (⟨(rd_T31 t486 t492).f0, (rd_T31 t486 t492).f1, (rd_T31 t486 t492).f2, wrap64 (t499 - 1), (rd_T31 t486 t492).f4⟩ : S31)) : List (S31)) = y502 at H
    have Ny502 := zM hy502.symm
    clear hy502
    simp only [Option.some.injEq, Prod.mk.injEq] at H
    obtain ⟨rfl, rfl, rfl, rfl⟩ := H
    obtain ⟨Ao23, co23, eo23⟩ := Kd.R_slice HO_7.1
    subst eo23
    go_wp2_with (first | ((with_reducible refine gate_callee (f := 18) rfl ?_); refine goesL_ (some 30) rfl rfl Tryd.func18 (by kernel_rfl) rfl #[.pointer (some ⟨g, 0, none⟩), .int .i64 (t486.length : Int)] rfl zT ?_; (with_reducible refine (spec_l1Below.calls g s0_0 x1001_3 x1002_3 (t486.length : Int) t492 t493 t494 w0 _ ?side1 ?side2 A16.1).mono ?_); (case side1 => exact zB0); (case side2 => exact zB1); rintro e w24 ⟨rfl, hi, hb, hk⟩; refine ⟨_, rfl, ?_⟩; replace HO_4 := zM (Kd.R_mono (Kd.R_keep (IsS64.apart (show IsS64 w0 _ g s0_0 x1001_3 x1002_3 from zB0) (zR HO_4.1) (by decide)) hk (fun _ h => h.2)) (fun _ h => h.1)); replace HO_7 := zM (Kd.R_mono (Kd.R_keep (IsS64.apart (show IsS64 w0 _ g s0_0 x1001_3 x1002_3 from zB0) (zR HO_7.1) (by decide)) hk (fun _ h => h.2)) (fun _ h => h.1)); replace HK := zM (KeepBut.trans zB2 hk (.inl rfl)); replace HB := zM hb; replace HI0 := zM hi; clear hb hk hi; obtain ⟨p495, q495, ad495, e495, hx495_0, hx495_1, hx495_2, hx495_3, hx495_4⟩ := zRd (at_T31 (Kd.R_reads' HO_7.1).2.2 t492); cases e495) | ((with_reducible refine gate_callee (f := 18) rfl ?_); refine goesL_ (some 33) rfl rfl Tryd.func18 (by kernel_rfl) rfl #[.pointer (some ⟨g, 0, none⟩), .int .i64 4] rfl zT ?_; (with_reducible refine (spec_l1Below.calls g s0_0 t493 t494 4 t496 t497 t498 w0 _ ?side1 ?side2 A19.1).mono ?_); (case side1 => exact zB0); (case side2 => exact zB1); rintro e w25 ⟨rfl, hi, hb, hk⟩; refine ⟨_, rfl, ?_⟩; replace HO_4 := zM (Kd.R_mono (Kd.R_keep (IsS64.apart (show IsS64 w0 _ g s0_0 t493 t494 from zB0) (zR HO_4.1) (by decide)) hk (fun _ h => h.2)) (fun _ h => h.1)); replace HO_7 := zM (Kd.R_mono (Kd.R_keep (IsS64.apart (show IsS64 w0 _ g s0_0 t493 t494 from zB0) (zR HO_7.1) (by decide)) hk (fun _ h => h.2)) (fun _ h => h.1)); replace HK := zM (KeepBut.trans zB2 hk (.inl rfl)); replace HB := zM hb; replace HI0 := zM hi; clear hb hk hi) | ((with_reducible refine gate_callee (f := 18) rfl ?_); refine goesL_ (some 44) rfl rfl Tryd.func18 (by kernel_rfl) rfl #[.pointer (some ⟨g, 0, none⟩), .int .i64 9] rfl zT ?_; (with_reducible refine (spec_l1Below.calls g s0_0 t497 t498 9 t499 t500 t501 w0 _ ?side1 ?side2 A21.1).mono ?_); (case side1 => exact zB0); (case side2 => exact zB1); rintro e w26 ⟨rfl, hi, hb, hk⟩; refine ⟨_, rfl, ?_⟩; replace HO_4 := zM (Kd.R_mono (Kd.R_keep (IsS64.apart (show IsS64 w0 _ g s0_0 t497 t498 from zB0) (zR HO_4.1) (by decide)) hk (fun _ h => h.2)) (fun _ h => h.1)); replace HO_7 := zM (Kd.R_mono (Kd.R_keep (IsS64.apart (show IsS64 w0 _ g s0_0 t497 t498 from zB0) (zR HO_7.1) (by decide)) hk (fun _ h => h.2)) (fun _ h => h.1)); replace HK := zM (KeepBut.trans zB2 hk (.inl rfl)); replace HB := zM hb; replace HI0 := zM hi; clear hb hk hi; have p22 : 0 ≤ (t492 : Int) := zA; have q22 : (t492 : Int) < ((t486.length : Int) : Int) := zA; obtain ⟨go22, co22, eo22, gb22, gl22, cl22, HG22⟩ := Kd.R_form HO_7.1 (by omega); (first | cases eo22 | (injection eo22 with ea_ en_ ec_; (first | subst ea_ | (injection ea_ with ea_; subst ea_)); subst ec_; clear en_)); have GB22 := zM gb22; have GG22 := zM HG22; clear gb22 gl22 HG22; (first | simp only [add_plain] at hx495_0 | skip); (first | simp only [add_plain] at hx495_1 | skip); (first | simp only [add_plain] at hx495_2 | skip); (first | simp only [add_plain] at hx495_3 | skip); (first | simp only [add_plain] at hx495_4 | skip); obtain ⟨ce22, hcl22, hM22, hcc22, hfr22⟩ := Kd.R_elem HO_7.1 z31 (t492 : Int) p22 q22; obtain rfl := k31_openM hM22; have hx22_0 : w26.cell? ⟨go22, (t492 : Int).toNat * 5, none⟩ = some (.int .i64 ((rd_T31 t486 t492).f0)) := hcc22 0 _ rfl; have hx22_1 : w26.cell? ⟨go22, (t492 : Int).toNat * 5 + 1, none⟩ = some (.int .i64 ((rd_T31 t486 t492).f1)) := hcc22 1 _ rfl; have hx22_2 : w26.cell? ⟨go22, (t492 : Int).toNat * 5 + 2, none⟩ = some (.int .i64 ((rd_T31 t486 t492).f2)) := hcc22 2 _ rfl; have hx22_3 : w26.cell? ⟨go22, (t492 : Int).toNat * 5 + 3, none⟩ = some (.int .i64 ((rd_T31 t486 t492).f3)) := hcc22 3 _ rfl; have hx22_4 : w26.cell? ⟨go22, (t492 : Int).toNat * 5 + 4, none⟩ = some (.int .i64 ((rd_T31 t486 t492).f4)) := hcc22 4 _ rfl; have hf22_0 : w26.frozen? ⟨go22, (t492 : Int).toNat * 5, none⟩ = false := hfr22 0; have hf22_1 : w26.frozen? ⟨go22, (t492 : Int).toNat * 5 + 1, none⟩ = false := hfr22 1; have hf22_2 : w26.frozen? ⟨go22, (t492 : Int).toNat * 5 + 2, none⟩ = false := hfr22 2; have hf22_3 : w26.frozen? ⟨go22, (t492 : Int).toNat * 5 + 3, none⟩ = false := hfr22 3; have hf22_4 : w26.frozen? ⟨go22, (t492 : Int).toNat * 5 + 4, none⟩ = false := hfr22 4; clear hcl22 hcc22 hfr22 hM22; replace p22 := eq_true p22; replace q22 := eq_true q22; have HX27 := zM (show Kd.R k31 31 w26 w.heap.size (fun _ => True) (.slice (some ⟨go22, 0, none⟩) t486.length co23) t486 from (zR HO_7.1)); obtain ⟨ce27, hcl27, hM27, hcc27, hfr27⟩ := Kd.R_elem HX27.out z31 (t492 : Int) zA (by have h_ : (t492 : Int) < ((t486.length : Int) : Int) := zA; first | exact h_ | (have e_ := (Kd.R_reads' HO_7.1).1; omega) | simpa using h_); obtain rfl := k31_openM hM27; have HP27 := Kd.R_seg HX27.out (t492 : Int) zA (by have h_ : (t492 : Int) < ((t486.length : Int) : Int) := zA; first | exact h_ | (have e_ := (Kd.R_reads' HO_7.1).1; omega) | simpa using h_) (seg := [.int .i64 (wrap64 (t499 - 1))]) (j := 3) hcl27 hcc27 (show 4 ≤ 5 from by decide) (x' := (⟨(rd_T31 t486 t492).f0, (rd_T31 t486 t492).f1, (rd_T31 t486 t492).f2, wrap64 (t499 - 1), (rd_T31 t486 t492).f4⟩ : S31)) (k31_mkM _ _ _ (⟨(rd_T31 t486 t492).f0, (rd_T31 t486 t492).f1, (rd_T31 t486 t492).f2, wrap64 (t499 - 1), (rd_T31 t486 t492).f4⟩ : S31) ) (fun _ hk => hk); have hx27_3 := hcc27 3 _ rfl; (try simp only [show (k31).sz = 5 from rfl, Nat.mul_one, Nat.add_zero] at hx27_3); have hf27_3 := hfr27 3; (try simp only [show (k31).sz = 5 from rfl, Nat.mul_one, Nat.add_zero] at hf27_3); clear hcl27 hcc27 hfr27 hM27) | ((with_reducible refine gate_store (t := 3) (p := 47) rfl ?_); refine store_event (t := 3) (p := 47) (v := ?vo_w28) (w1 := (w26.setCell ⟨go22, (t492 : Int).toNat * 5 + 3, none⟩ (.int .i64 (wrap64 (t499 - 1))))) ?hg ?ho ?hn ?hr ?_; (case ho => rfl); (case hg => rfl); (case hn => rfl); (case hr => exact zHH); intro w28 hw; have hg : w26.grownBy w28 (some go22) := (by rw [hw]; exact HP27.2); have hp_ : Kd.R k31 31 w28 w.heap.size (fun _ => True) (.slice (some ⟨go22, 0, none⟩) t486.length co23) y502 := (by rw [hw, Ny502.1]; exact HP27.1); clear HP27; replace HO_4 := zM (Kd.R_over' (v := (.slice (some ⟨go22, 0, none⟩) t486.length co23)) (zR HO_4.1) (Kd.R_typed HO_7.1) (by decide) hg); replace HI0 := zM (IsS64.grown (show IsS64 w0 _ g s0_0 t500 t501 from zB0) hg (IsS64.own_ne HI0.1 HO_7.1 (by decide))); replace HB := zM ((by rw [hw]; exact below_set (HB.1) (Nat.le_trans HL.1 GB22.1) : Below w0.heap.size w0 w28)); replace HK := zM (KeepBut.trans zB2 (KeepBut.of_grown hg g) (Kd.R_base2 HO_7.1)); replace HO_7 := zM hp_; clear hg hw hp_))
    go_ret2
    exact ⟨_, _, zE, zR HO_4.1, zR HO_7.1, zB0, zB1, zB2⟩
   rw [if_neg c20] at H
   have c20b0 : (t496 == 0) = false := beq_eq_false_iff_ne.mpr c20
   have c20b1 : (t496 != 0) = true := bne_iff_ne.mpr c20
   by_cases c29 : t496 = 1
   ·rw [if_pos c29] at H
    have c29b0 : (t496 == 1) = true := beq_iff_eq.mpr c29
    have c29b1 : (t496 != 1) = false := bne_eq_false_iff_eq.mpr c29
    clear c29
    replace H := zO H
    obtain ⟨⟨t503, t504, t505⟩, A30, H⟩ := H
    try dsimp only at H
    generalize hy506 : ((t486.set (t492 : Int).toNat (⟨(rd_T31 t486 t492).f0, (rd_T31 t486 t492).f1, (rd_T31 t486 t492).f2, (rd_T31 t486 t492).f3, wrap64 (t503 - 1)⟩ : S31)) : List (S31)) = y506 at H
    have Ny506 := zM hy506.symm
    clear hy506
    simp only [Option.some.injEq, Prod.mk.injEq] at H
    obtain ⟨rfl, rfl, rfl, rfl⟩ := H
    obtain ⟨Ao32, co32, eo32⟩ := Kd.R_slice HO_7.1
    subst eo32
    go_wp2_with (first | ((with_reducible refine gate_callee (f := 18) rfl ?_); refine goesL_ (some 30) rfl rfl Tryd.func18 (by kernel_rfl) rfl #[.pointer (some ⟨g, 0, none⟩), .int .i64 (t486.length : Int)] rfl zT ?_; (with_reducible refine (spec_l1Below.calls g s0_0 x1001_3 x1002_3 (t486.length : Int) t492 t493 t494 w0 _ ?side1 ?side2 A16.1).mono ?_); (case side1 => exact zB0); (case side2 => exact zB1); rintro e w33 ⟨rfl, hi, hb, hk⟩; refine ⟨_, rfl, ?_⟩; replace HO_4 := zM (Kd.R_mono (Kd.R_keep (IsS64.apart (show IsS64 w0 _ g s0_0 x1001_3 x1002_3 from zB0) (zR HO_4.1) (by decide)) hk (fun _ h => h.2)) (fun _ h => h.1)); replace HO_7 := zM (Kd.R_mono (Kd.R_keep (IsS64.apart (show IsS64 w0 _ g s0_0 x1001_3 x1002_3 from zB0) (zR HO_7.1) (by decide)) hk (fun _ h => h.2)) (fun _ h => h.1)); replace HK := zM (KeepBut.trans zB2 hk (.inl rfl)); replace HB := zM hb; replace HI0 := zM hi; clear hb hk hi; obtain ⟨p495, q495, ad495, e495, hx495_0, hx495_1, hx495_2, hx495_3, hx495_4⟩ := zRd (at_T31 (Kd.R_reads' HO_7.1).2.2 t492); cases e495) | ((with_reducible refine gate_callee (f := 18) rfl ?_); refine goesL_ (some 33) rfl rfl Tryd.func18 (by kernel_rfl) rfl #[.pointer (some ⟨g, 0, none⟩), .int .i64 4] rfl zT ?_; (with_reducible refine (spec_l1Below.calls g s0_0 t493 t494 4 t496 t497 t498 w0 _ ?side1 ?side2 A19.1).mono ?_); (case side1 => exact zB0); (case side2 => exact zB1); rintro e w34 ⟨rfl, hi, hb, hk⟩; refine ⟨_, rfl, ?_⟩; replace HO_4 := zM (Kd.R_mono (Kd.R_keep (IsS64.apart (show IsS64 w0 _ g s0_0 t493 t494 from zB0) (zR HO_4.1) (by decide)) hk (fun _ h => h.2)) (fun _ h => h.1)); replace HO_7 := zM (Kd.R_mono (Kd.R_keep (IsS64.apart (show IsS64 w0 _ g s0_0 t493 t494 from zB0) (zR HO_7.1) (by decide)) hk (fun _ h => h.2)) (fun _ h => h.1)); replace HK := zM (KeepBut.trans zB2 hk (.inl rfl)); replace HB := zM hb; replace HI0 := zM hi; clear hb hk hi) | ((with_reducible refine gate_callee (f := 18) rfl ?_); refine goesL_ (some 52) rfl rfl Tryd.func18 (by kernel_rfl) rfl #[.pointer (some ⟨g, 0, none⟩), .int .i64 9] rfl zT ?_; (with_reducible refine (spec_l1Below.calls g s0_0 t497 t498 9 t503 t504 t505 w0 _ ?side1 ?side2 A30.1).mono ?_); (case side1 => exact zB0); (case side2 => exact zB1); rintro e w35 ⟨rfl, hi, hb, hk⟩; refine ⟨_, rfl, ?_⟩; replace HO_4 := zM (Kd.R_mono (Kd.R_keep (IsS64.apart (show IsS64 w0 _ g s0_0 t497 t498 from zB0) (zR HO_4.1) (by decide)) hk (fun _ h => h.2)) (fun _ h => h.1)); replace HO_7 := zM (Kd.R_mono (Kd.R_keep (IsS64.apart (show IsS64 w0 _ g s0_0 t497 t498 from zB0) (zR HO_7.1) (by decide)) hk (fun _ h => h.2)) (fun _ h => h.1)); replace HK := zM (KeepBut.trans zB2 hk (.inl rfl)); replace HB := zM hb; replace HI0 := zM hi; clear hb hk hi; have p31 : 0 ≤ (t492 : Int) := zA; have q31 : (t492 : Int) < ((t486.length : Int) : Int) := zA; obtain ⟨go31, co31, eo31, gb31, gl31, cl31, HG31⟩ := Kd.R_form HO_7.1 (by omega); (first | cases eo31 | (injection eo31 with ea_ en_ ec_; (first | subst ea_ | (injection ea_ with ea_; subst ea_)); subst ec_; clear en_)); have GB31 := zM gb31; have GG31 := zM HG31; clear gb31 gl31 HG31; (first | simp only [add_plain] at hx495_0 | skip); (first | simp only [add_plain] at hx495_1 | skip); (first | simp only [add_plain] at hx495_2 | skip); (first | simp only [add_plain] at hx495_3 | skip); (first | simp only [add_plain] at hx495_4 | skip); obtain ⟨ce31, hcl31, hM31, hcc31, hfr31⟩ := Kd.R_elem HO_7.1 z31 (t492 : Int) p31 q31; obtain rfl := k31_openM hM31; have hx31_0 : w35.cell? ⟨go31, (t492 : Int).toNat * 5, none⟩ = some (.int .i64 ((rd_T31 t486 t492).f0)) := hcc31 0 _ rfl; have hx31_1 : w35.cell? ⟨go31, (t492 : Int).toNat * 5 + 1, none⟩ = some (.int .i64 ((rd_T31 t486 t492).f1)) := hcc31 1 _ rfl; have hx31_2 : w35.cell? ⟨go31, (t492 : Int).toNat * 5 + 2, none⟩ = some (.int .i64 ((rd_T31 t486 t492).f2)) := hcc31 2 _ rfl; have hx31_3 : w35.cell? ⟨go31, (t492 : Int).toNat * 5 + 3, none⟩ = some (.int .i64 ((rd_T31 t486 t492).f3)) := hcc31 3 _ rfl; have hx31_4 : w35.cell? ⟨go31, (t492 : Int).toNat * 5 + 4, none⟩ = some (.int .i64 ((rd_T31 t486 t492).f4)) := hcc31 4 _ rfl; have hf31_0 : w35.frozen? ⟨go31, (t492 : Int).toNat * 5, none⟩ = false := hfr31 0; have hf31_1 : w35.frozen? ⟨go31, (t492 : Int).toNat * 5 + 1, none⟩ = false := hfr31 1; have hf31_2 : w35.frozen? ⟨go31, (t492 : Int).toNat * 5 + 2, none⟩ = false := hfr31 2; have hf31_3 : w35.frozen? ⟨go31, (t492 : Int).toNat * 5 + 3, none⟩ = false := hfr31 3; have hf31_4 : w35.frozen? ⟨go31, (t492 : Int).toNat * 5 + 4, none⟩ = false := hfr31 4; clear hcl31 hcc31 hfr31 hM31; replace p31 := eq_true p31; replace q31 := eq_true q31; have HX36 := zM (show Kd.R k31 31 w35 w.heap.size (fun _ => True) (.slice (some ⟨go31, 0, none⟩) t486.length co32) t486 from (zR HO_7.1)); obtain ⟨ce36, hcl36, hM36, hcc36, hfr36⟩ := Kd.R_elem HX36.out z31 (t492 : Int) zA (by have h_ : (t492 : Int) < ((t486.length : Int) : Int) := zA; first | exact h_ | (have e_ := (Kd.R_reads' HO_7.1).1; omega) | simpa using h_); obtain rfl := k31_openM hM36; have HP36 := Kd.R_seg HX36.out (t492 : Int) zA (by have h_ : (t492 : Int) < ((t486.length : Int) : Int) := zA; first | exact h_ | (have e_ := (Kd.R_reads' HO_7.1).1; omega) | simpa using h_) (seg := [.int .i64 (wrap64 (t503 - 1))]) (j := 4) hcl36 hcc36 (show 5 ≤ 5 from by decide) (x' := (⟨(rd_T31 t486 t492).f0, (rd_T31 t486 t492).f1, (rd_T31 t486 t492).f2, (rd_T31 t486 t492).f3, wrap64 (t503 - 1)⟩ : S31)) (k31_mkM _ _ _ (⟨(rd_T31 t486 t492).f0, (rd_T31 t486 t492).f1, (rd_T31 t486 t492).f2, (rd_T31 t486 t492).f3, wrap64 (t503 - 1)⟩ : S31) ) (fun _ hk => hk); have hx36_4 := hcc36 4 _ rfl; (try simp only [show (k31).sz = 5 from rfl, Nat.mul_one, Nat.add_zero] at hx36_4); have hf36_4 := hfr36 4; (try simp only [show (k31).sz = 5 from rfl, Nat.mul_one, Nat.add_zero] at hf36_4); clear hcl36 hcc36 hfr36 hM36) | ((with_reducible refine gate_store (t := 3) (p := 55) rfl ?_); refine store_event (t := 3) (p := 55) (v := ?vo_w37) (w1 := (w35.setCell ⟨go31, (t492 : Int).toNat * 5 + 4, none⟩ (.int .i64 (wrap64 (t503 - 1))))) ?hg ?ho ?hn ?hr ?_; (case ho => rfl); (case hg => rfl); (case hn => rfl); (case hr => exact zHH); intro w37 hw; have hg : w35.grownBy w37 (some go31) := (by rw [hw]; exact HP36.2); have hp_ : Kd.R k31 31 w37 w.heap.size (fun _ => True) (.slice (some ⟨go31, 0, none⟩) t486.length co32) y506 := (by rw [hw, Ny506.1]; exact HP36.1); clear HP36; replace HO_4 := zM (Kd.R_over' (v := (.slice (some ⟨go31, 0, none⟩) t486.length co32)) (zR HO_4.1) (Kd.R_typed HO_7.1) (by decide) hg); replace HI0 := zM (IsS64.grown (show IsS64 w0 _ g s0_0 t504 t505 from zB0) hg (IsS64.own_ne HI0.1 HO_7.1 (by decide))); replace HB := zM ((by rw [hw]; exact below_set (HB.1) (Nat.le_trans HL.1 GB31.1) : Below w0.heap.size w0 w37)); replace HK := zM (KeepBut.trans zB2 (KeepBut.of_grown hg g) (Kd.R_base2 HO_7.1)); replace HO_7 := zM hp_; clear hg hw hp_))
    go_ret2
    exact ⟨_, _, zE, zR HO_4.1, zR HO_7.1, zB0, zB1, zB2⟩
   rw [if_neg c29] at H
   have c29b0 : (t496 == 1) = false := beq_eq_false_iff_ne.mpr c29
   have c29b1 : (t496 != 1) = true := bne_iff_ne.mpr c29
   by_cases c38 : t496 = 2
   rotate_left
   ·rw [if_neg c38] at H
    have c38b0 : (t496 == 2) = false := beq_eq_false_iff_ne.mpr c38
    have c38b1 : (t496 != 2) = true := bne_iff_ne.mpr c38
    replace H := zO H
    obtain ⟨⟨t514, t515, t516⟩, A50, H⟩ := H
    try dsimp only at H
    generalize hy517 : ((t486.set (t492 : Int).toNat (⟨wrap64 (t514 - 1), (rd_T31 t486 t492).f1, (rd_T31 t486 t492).f2, (rd_T31 t486 t492).f3, (rd_T31 t486 t492).f4⟩ : S31)) : List (S31)) = y517 at H
    have Ny517 := zM hy517.symm
    clear hy517
    simp only [Option.some.injEq, Prod.mk.injEq] at H
    obtain ⟨rfl, rfl, rfl, rfl⟩ := H
    obtain ⟨Ao52, co52, eo52⟩ := Kd.R_slice HO_7.1
    subst eo52
    go_wp2_with (first | ((with_reducible refine gate_callee (f := 18) rfl ?_); refine goesL_ (some 30) rfl rfl Tryd.func18 (by kernel_rfl) rfl #[.pointer (some ⟨g, 0, none⟩), .int .i64 (t486.length : Int)] rfl zT ?_; (with_reducible refine (spec_l1Below.calls g s0_0 x1001_3 x1002_3 (t486.length : Int) t492 t493 t494 w0 _ ?side1 ?side2 A16.1).mono ?_); (case side1 => exact zB0); (case side2 => exact zB1); rintro e w53 ⟨rfl, hi, hb, hk⟩; refine ⟨_, rfl, ?_⟩; replace HO_4 := zM (Kd.R_mono (Kd.R_keep (IsS64.apart (show IsS64 w0 _ g s0_0 x1001_3 x1002_3 from zB0) (zR HO_4.1) (by decide)) hk (fun _ h => h.2)) (fun _ h => h.1)); replace HO_7 := zM (Kd.R_mono (Kd.R_keep (IsS64.apart (show IsS64 w0 _ g s0_0 x1001_3 x1002_3 from zB0) (zR HO_7.1) (by decide)) hk (fun _ h => h.2)) (fun _ h => h.1)); replace HK := zM (KeepBut.trans zB2 hk (.inl rfl)); replace HB := zM hb; replace HI0 := zM hi; clear hb hk hi; obtain ⟨p495, q495, ad495, e495, hx495_0, hx495_1, hx495_2, hx495_3, hx495_4⟩ := zRd (at_T31 (Kd.R_reads' HO_7.1).2.2 t492); cases e495) | ((with_reducible refine gate_callee (f := 18) rfl ?_); refine goesL_ (some 33) rfl rfl Tryd.func18 (by kernel_rfl) rfl #[.pointer (some ⟨g, 0, none⟩), .int .i64 4] rfl zT ?_; (with_reducible refine (spec_l1Below.calls g s0_0 t493 t494 4 t496 t497 t498 w0 _ ?side1 ?side2 A19.1).mono ?_); (case side1 => exact zB0); (case side2 => exact zB1); rintro e w54 ⟨rfl, hi, hb, hk⟩; refine ⟨_, rfl, ?_⟩; replace HO_4 := zM (Kd.R_mono (Kd.R_keep (IsS64.apart (show IsS64 w0 _ g s0_0 t493 t494 from zB0) (zR HO_4.1) (by decide)) hk (fun _ h => h.2)) (fun _ h => h.1)); replace HO_7 := zM (Kd.R_mono (Kd.R_keep (IsS64.apart (show IsS64 w0 _ g s0_0 t493 t494 from zB0) (zR HO_7.1) (by decide)) hk (fun _ h => h.2)) (fun _ h => h.1)); replace HK := zM (KeepBut.trans zB2 hk (.inl rfl)); replace HB := zM hb; replace HI0 := zM hi; clear hb hk hi) | ((with_reducible refine gate_callee (f := 18) rfl ?_); refine goesL_ (some 36) rfl rfl Tryd.func18 (by kernel_rfl) rfl #[.pointer (some ⟨g, 0, none⟩), .int .i64 4] rfl zT ?_; (with_reducible refine (spec_l1Below.calls g s0_0 t497 t498 4 t514 t515 t516 w0 _ ?side1 ?side2 A50.1).mono ?_); (case side1 => exact zB0); (case side2 => exact zB1); rintro e w55 ⟨rfl, hi, hb, hk⟩; refine ⟨_, rfl, ?_⟩; replace HO_4 := zM (Kd.R_mono (Kd.R_keep (IsS64.apart (show IsS64 w0 _ g s0_0 t497 t498 from zB0) (zR HO_4.1) (by decide)) hk (fun _ h => h.2)) (fun _ h => h.1)); replace HO_7 := zM (Kd.R_mono (Kd.R_keep (IsS64.apart (show IsS64 w0 _ g s0_0 t497 t498 from zB0) (zR HO_7.1) (by decide)) hk (fun _ h => h.2)) (fun _ h => h.1)); replace HK := zM (KeepBut.trans zB2 hk (.inl rfl)); replace HB := zM hb; replace HI0 := zM hi; clear hb hk hi; have p51 : 0 ≤ (t492 : Int) := zA; have q51 : (t492 : Int) < ((t486.length : Int) : Int) := zA; obtain ⟨go51, co51, eo51, gb51, gl51, cl51, HG51⟩ := Kd.R_form HO_7.1 (by omega); (first | cases eo51 | (injection eo51 with ea_ en_ ec_; (first | subst ea_ | (injection ea_ with ea_; subst ea_)); subst ec_; clear en_)); have GB51 := zM gb51; have GG51 := zM HG51; clear gb51 gl51 HG51; (first | simp only [add_plain] at hx495_0 | skip); (first | simp only [add_plain] at hx495_1 | skip); (first | simp only [add_plain] at hx495_2 | skip); (first | simp only [add_plain] at hx495_3 | skip); (first | simp only [add_plain] at hx495_4 | skip); obtain ⟨ce51, hcl51, hM51, hcc51, hfr51⟩ := Kd.R_elem HO_7.1 z31 (t492 : Int) p51 q51; obtain rfl := k31_openM hM51; have hx51_0 : w55.cell? ⟨go51, (t492 : Int).toNat * 5, none⟩ = some (.int .i64 ((rd_T31 t486 t492).f0)) := hcc51 0 _ rfl; have hx51_1 : w55.cell? ⟨go51, (t492 : Int).toNat * 5 + 1, none⟩ = some (.int .i64 ((rd_T31 t486 t492).f1)) := hcc51 1 _ rfl; have hx51_2 : w55.cell? ⟨go51, (t492 : Int).toNat * 5 + 2, none⟩ = some (.int .i64 ((rd_T31 t486 t492).f2)) := hcc51 2 _ rfl; have hx51_3 : w55.cell? ⟨go51, (t492 : Int).toNat * 5 + 3, none⟩ = some (.int .i64 ((rd_T31 t486 t492).f3)) := hcc51 3 _ rfl; have hx51_4 : w55.cell? ⟨go51, (t492 : Int).toNat * 5 + 4, none⟩ = some (.int .i64 ((rd_T31 t486 t492).f4)) := hcc51 4 _ rfl; have hf51_0 : w55.frozen? ⟨go51, (t492 : Int).toNat * 5, none⟩ = false := hfr51 0; have hf51_1 : w55.frozen? ⟨go51, (t492 : Int).toNat * 5 + 1, none⟩ = false := hfr51 1; have hf51_2 : w55.frozen? ⟨go51, (t492 : Int).toNat * 5 + 2, none⟩ = false := hfr51 2; have hf51_3 : w55.frozen? ⟨go51, (t492 : Int).toNat * 5 + 3, none⟩ = false := hfr51 3; have hf51_4 : w55.frozen? ⟨go51, (t492 : Int).toNat * 5 + 4, none⟩ = false := hfr51 4; clear hcl51 hcc51 hfr51 hM51; replace p51 := eq_true p51; replace q51 := eq_true q51; have HX56 := zM (show Kd.R k31 31 w55 w.heap.size (fun _ => True) (.slice (some ⟨go51, 0, none⟩) t486.length co52) t486 from (zR HO_7.1)); obtain ⟨ce56, hcl56, hM56, hcc56, hfr56⟩ := Kd.R_elem HX56.out z31 (t492 : Int) zA (by have h_ : (t492 : Int) < ((t486.length : Int) : Int) := zA; first | exact h_ | (have e_ := (Kd.R_reads' HO_7.1).1; omega) | simpa using h_); obtain rfl := k31_openM hM56; have HP56 := Kd.R_seg HX56.out (t492 : Int) zA (by have h_ : (t492 : Int) < ((t486.length : Int) : Int) := zA; first | exact h_ | (have e_ := (Kd.R_reads' HO_7.1).1; omega) | simpa using h_) (seg := [.int .i64 (wrap64 (t514 - 1))]) (j := 0) hcl56 hcc56 (show 1 ≤ 5 from by decide) (x' := (⟨wrap64 (t514 - 1), (rd_T31 t486 t492).f1, (rd_T31 t486 t492).f2, (rd_T31 t486 t492).f3, (rd_T31 t486 t492).f4⟩ : S31)) (k31_mkM _ _ _ (⟨wrap64 (t514 - 1), (rd_T31 t486 t492).f1, (rd_T31 t486 t492).f2, (rd_T31 t486 t492).f3, (rd_T31 t486 t492).f4⟩ : S31) ) (fun _ hk => hk); have hx56_0 := hcc56 0 _ rfl; (try simp only [show (k31).sz = 5 from rfl, Nat.mul_one, Nat.add_zero] at hx56_0); have hf56_0 := hfr56 0; (try simp only [show (k31).sz = 5 from rfl, Nat.mul_one, Nat.add_zero] at hf56_0); clear hcl56 hcc56 hfr56 hM56) | ((with_reducible refine gate_store (t := 3) (p := 39) rfl ?_); refine store_event (t := 3) (p := 39) (v := ?vo_w57) (w1 := (w55.setCell ⟨go51, (t492 : Int).toNat * 5, none⟩ (.int .i64 (wrap64 (t514 - 1))))) ?hg ?ho ?hn ?hr ?_; (case ho => rfl); (case hg => rfl); (case hn => rfl); (case hr => exact zHH); intro w57 hw; have hg : w55.grownBy w57 (some go51) := (by rw [hw]; exact HP56.2); have hp_ : Kd.R k31 31 w57 w.heap.size (fun _ => True) (.slice (some ⟨go51, 0, none⟩) t486.length co52) y517 := (by rw [hw, Ny517.1]; exact HP56.1); clear HP56; replace HO_4 := zM (Kd.R_over' (v := (.slice (some ⟨go51, 0, none⟩) t486.length co52)) (zR HO_4.1) (Kd.R_typed HO_7.1) (by decide) hg); replace HI0 := zM (IsS64.grown (show IsS64 w0 _ g s0_0 t515 t516 from zB0) hg (IsS64.own_ne HI0.1 HO_7.1 (by decide))); replace HB := zM ((by rw [hw]; exact below_set (HB.1) (Nat.le_trans HL.1 GB51.1) : Below w0.heap.size w0 w57)); replace HK := zM (KeepBut.trans zB2 (KeepBut.of_grown hg g) (Kd.R_base2 HO_7.1)); replace HO_7 := zM hp_; clear hg hw hp_))
    go_ret2
    exact ⟨_, _, zE, zR HO_4.1, zR HO_7.1, zB0, zB1, zB2⟩
   rw [if_pos c38] at H
   have c38b0 : (t496 == 2) = true := beq_iff_eq.mpr c38
   have c38b1 : (t496 != 2) = false := bne_eq_false_iff_eq.mpr c38
   clear c38
   generalize hy507 : ((([(-1), 3, 24] : List Int)) : List Int) = y507 at H
   have Ny507 := zM hy507.symm
   clear hy507
   replace H := zO H
   obtain ⟨⟨t510, t511, t512⟩, A39, H⟩ := H
   try dsimp only at H
   generalize hy513 : ((t486.set (t492 : Int).toNat (⟨(rd_T31 t486 t492).f0, (rd_T31 t486 t492).f1, t510, (rd_T31 t486 t492).f3, (rd_T31 t486 t492).f4⟩ : S31)) : List (S31)) = y513 at H
   have Ny513 := zM hy513.symm
   clear hy513
   simp only [Option.some.injEq, Prod.mk.injEq] at H
   obtain ⟨rfl, rfl, rfl, rfl⟩ := H
   obtain ⟨Ao41, co41, eo41⟩ := Kd.R_slice HO_7.1
   subst eo41
   go_wp2_with (first | ((with_reducible refine gate_callee (f := 18) rfl ?_); refine goesL_ (some 30) rfl rfl Tryd.func18 (by kernel_rfl) rfl #[.pointer (some ⟨g, 0, none⟩), .int .i64 (t486.length : Int)] rfl zT ?_; (with_reducible refine (spec_l1Below.calls g s0_0 x1001_3 x1002_3 (t486.length : Int) t492 t493 t494 w0 _ ?side1 ?side2 A16.1).mono ?_); (case side1 => exact zB0); (case side2 => exact zB1); rintro e w42 ⟨rfl, hi, hb, hk⟩; refine ⟨_, rfl, ?_⟩; replace HO_4 := zM (Kd.R_mono (Kd.R_keep (IsS64.apart (show IsS64 w0 _ g s0_0 x1001_3 x1002_3 from zB0) (zR HO_4.1) (by decide)) hk (fun _ h => h.2)) (fun _ h => h.1)); replace HO_7 := zM (Kd.R_mono (Kd.R_keep (IsS64.apart (show IsS64 w0 _ g s0_0 x1001_3 x1002_3 from zB0) (zR HO_7.1) (by decide)) hk (fun _ h => h.2)) (fun _ h => h.1)); replace HK := zM (KeepBut.trans zB2 hk (.inl rfl)); replace HB := zM hb; replace HI0 := zM hi; clear hb hk hi; obtain ⟨p495, q495, ad495, e495, hx495_0, hx495_1, hx495_2, hx495_3, hx495_4⟩ := zRd (at_T31 (Kd.R_reads' HO_7.1).2.2 t492); cases e495) | ((with_reducible refine gate_callee (f := 18) rfl ?_); refine goesL_ (some 33) rfl rfl Tryd.func18 (by kernel_rfl) rfl #[.pointer (some ⟨g, 0, none⟩), .int .i64 4] rfl zT ?_; (with_reducible refine (spec_l1Below.calls g s0_0 t493 t494 4 t496 t497 t498 w0 _ ?side1 ?side2 A19.1).mono ?_); (case side1 => exact zB0); (case side2 => exact zB1); rintro e w43 ⟨rfl, hi, hb, hk⟩; refine ⟨_, rfl, ?_⟩; replace HO_4 := zM (Kd.R_mono (Kd.R_keep (IsS64.apart (show IsS64 w0 _ g s0_0 t493 t494 from zB0) (zR HO_4.1) (by decide)) hk (fun _ h => h.2)) (fun _ h => h.1)); replace HO_7 := zM (Kd.R_mono (Kd.R_keep (IsS64.apart (show IsS64 w0 _ g s0_0 t493 t494 from zB0) (zR HO_7.1) (by decide)) hk (fun _ h => h.2)) (fun _ h => h.1)); replace HK := zM (KeepBut.trans zB2 hk (.inl rfl)); replace HB := zM hb; replace HI0 := zM hi; clear hb hk hi) | ((with_reducible refine gate_dst (N := 60) rfl ?_); refine Kd.R_lit (Kd.int .i64) _ 3 ?hg (N := 60) ?hd (xs := ([(-1), 3, 24] : List Int)) (inner := [.int .i64 (-1), .int .i64 3, .int .i64 24]) (ok := fun _ => True) (okp := fun _ => True) ?hr ?hp (fun _ hk => hk) trivial (Below.refl _ _) (Nat.le_refl _) (by simp) ?_; (case hd => rfl); (case hg => rfl); (case hr => exact zHH); (case hp => exact (Reps.one (show Kd.M (Kd.int .i64) _ _ _ (-1) [.int .i64 (-1)] from rfl) (Reps.one (show Kd.M (Kd.int .i64) _ _ _ 3 [.int .i64 3] from rfl) (Reps.one (show Kd.M (Kd.int .i64) _ _ _ 24 [.int .i64 24] from rfl) (Reps.none _ _))))); intro v508 w44 ho45 hb hg_ hnew_; clear hg_ hnew_; (first | rw [← Ny507.1] at ho45 | (simp only [Int.reduceToNat] at ho45; rw [← Ny507.1] at ho45)); replace HO_7 := zM (Kd.R_below (zR HO_7.1) hb); have HO509 := zM (Kd.R_lower (Kd.R_new' ho45 (Kd.R_lt (zR HO_4.1))) (keep_size (w := w) (g := g) (row := none) zB2)); replace HO_4 := zM (Kd.R_elder' (zR HO_4.1) (Kd.R_base ho45) hb); replace HK := zM (KeepBut.trans zB2 (KeepBut.of_below hb g none) (.inl rfl)); replace HB := zM (below_step zB1 hb); replace HI0 := zM (IsS64.below zB0 hb); clear hb ho45; obtain ⟨Ao46, co46, eo46⟩ := Kd.R_slice HO509.1; subst eo46) | ((with_reducible refine gate_callee (f := 34) rfl ?_); refine goesL_ (some 61) rfl rfl Tryd.func34 (by kernel_rfl) rfl #[.pointer (some ⟨g, 0, none⟩), .slice Ao46 y507.length co46] rfl zT ?_; (with_reducible refine (spec_l1PickInt.calls g s0_0 t497 t498 _ _ y507 t510 t511 t512 w0 _ ?side1 ?side2 ?side3 ?side4 ?side5 A39.1).mono ?_); (case side1 => exact zB0); (case side2 => exact zB1); (case side3 => exact zC (Kd.R_reads' HO509.1).2.2); (case side4 => exact (Kd.R_reads' HO509.1).2.1); (case side5 => exact far_slice (IsS64.own_ne HI0.1 HO509.1 (by decide))); rintro e w47 ⟨rfl, hi, hb, hk⟩; refine ⟨_, rfl, ?_⟩; replace HO_4 := zM (Kd.R_mono (Kd.R_keep (IsS64.apart (show IsS64 w0 _ g s0_0 t497 t498 from zB0) (zR HO_4.1) (by decide)) hk (fun _ h => h.2)) (fun _ h => h.1)); replace HO_7 := zM (Kd.R_mono (Kd.R_keep (IsS64.apart (show IsS64 w0 _ g s0_0 t497 t498 from zB0) (zR HO_7.1) (by decide)) hk (fun _ h => h.2)) (fun _ h => h.1)); replace HO509 := zM (Kd.R_mono (Kd.R_keep (IsS64.apart (show IsS64 w0 _ g s0_0 t497 t498 from zB0) (zR HO509.1) (by decide)) hk (fun _ h => h.2)) (fun _ h => h.1)); replace HK := zM (KeepBut.trans zB2 hk (.inl rfl)); replace HB := zM hb; replace HI0 := zM hi; clear hb hk hi; have p40 : 0 ≤ (t492 : Int) := zA; have q40 : (t492 : Int) < ((t486.length : Int) : Int) := zA; obtain ⟨go40, co40, eo40, gb40, gl40, cl40, HG40⟩ := Kd.R_form HO_7.1 (by omega); (first | cases eo40 | (injection eo40 with ea_ en_ ec_; (first | subst ea_ | (injection ea_ with ea_; subst ea_)); subst ec_; clear en_)); have GB40 := zM gb40; have GG40 := zM HG40; clear gb40 gl40 HG40; (first | simp only [add_plain] at hx495_0 | skip); (first | simp only [add_plain] at hx495_1 | skip); (first | simp only [add_plain] at hx495_2 | skip); (first | simp only [add_plain] at hx495_3 | skip); (first | simp only [add_plain] at hx495_4 | skip); obtain ⟨ce40, hcl40, hM40, hcc40, hfr40⟩ := Kd.R_elem HO_7.1 z31 (t492 : Int) p40 q40; obtain rfl := k31_openM hM40; have hx40_0 : w47.cell? ⟨go40, (t492 : Int).toNat * 5, none⟩ = some (.int .i64 ((rd_T31 t486 t492).f0)) := hcc40 0 _ rfl; have hx40_1 : w47.cell? ⟨go40, (t492 : Int).toNat * 5 + 1, none⟩ = some (.int .i64 ((rd_T31 t486 t492).f1)) := hcc40 1 _ rfl; have hx40_2 : w47.cell? ⟨go40, (t492 : Int).toNat * 5 + 2, none⟩ = some (.int .i64 ((rd_T31 t486 t492).f2)) := hcc40 2 _ rfl; have hx40_3 : w47.cell? ⟨go40, (t492 : Int).toNat * 5 + 3, none⟩ = some (.int .i64 ((rd_T31 t486 t492).f3)) := hcc40 3 _ rfl; have hx40_4 : w47.cell? ⟨go40, (t492 : Int).toNat * 5 + 4, none⟩ = some (.int .i64 ((rd_T31 t486 t492).f4)) := hcc40 4 _ rfl; have hf40_0 : w47.frozen? ⟨go40, (t492 : Int).toNat * 5, none⟩ = false := hfr40 0; have hf40_1 : w47.frozen? ⟨go40, (t492 : Int).toNat * 5 + 1, none⟩ = false := hfr40 1; have hf40_2 : w47.frozen? ⟨go40, (t492 : Int).toNat * 5 + 2, none⟩ = false := hfr40 2; have hf40_3 : w47.frozen? ⟨go40, (t492 : Int).toNat * 5 + 3, none⟩ = false := hfr40 3; have hf40_4 : w47.frozen? ⟨go40, (t492 : Int).toNat * 5 + 4, none⟩ = false := hfr40 4; clear hcl40 hcc40 hfr40 hM40; replace p40 := eq_true p40; replace q40 := eq_true q40; have HX48 := zM (show Kd.R k31 31 w47 w.heap.size (fun _ => True) (.slice (some ⟨go40, 0, none⟩) t486.length co41) t486 from (zR HO_7.1)); obtain ⟨ce48, hcl48, hM48, hcc48, hfr48⟩ := Kd.R_elem HX48.out z31 (t492 : Int) zA (by have h_ : (t492 : Int) < ((t486.length : Int) : Int) := zA; first | exact h_ | (have e_ := (Kd.R_reads' HO_7.1).1; omega) | simpa using h_); obtain rfl := k31_openM hM48; have HP48 := Kd.R_seg HX48.out (t492 : Int) zA (by have h_ : (t492 : Int) < ((t486.length : Int) : Int) := zA; first | exact h_ | (have e_ := (Kd.R_reads' HO_7.1).1; omega) | simpa using h_) (seg := [.int .i64 t510]) (j := 2) hcl48 hcc48 (show 3 ≤ 5 from by decide) (x' := (⟨(rd_T31 t486 t492).f0, (rd_T31 t486 t492).f1, t510, (rd_T31 t486 t492).f3, (rd_T31 t486 t492).f4⟩ : S31)) (k31_mkM _ _ _ (⟨(rd_T31 t486 t492).f0, (rd_T31 t486 t492).f1, t510, (rd_T31 t486 t492).f3, (rd_T31 t486 t492).f4⟩ : S31) ) (fun _ hk => hk); have hx48_2 := hcc48 2 _ rfl; (try simp only [show (k31).sz = 5 from rfl, Nat.mul_one, Nat.add_zero] at hx48_2); have hf48_2 := hfr48 2; (try simp only [show (k31).sz = 5 from rfl, Nat.mul_one, Nat.add_zero] at hf48_2); clear hcl48 hcc48 hfr48 hM48) | ((with_reducible refine gate_store (t := 3) (p := 63) rfl ?_); refine store_event (t := 3) (p := 63) (v := ?vo_w49) (w1 := (w47.setCell ⟨go40, (t492 : Int).toNat * 5 + 2, none⟩ (.int .i64 t510))) ?hg ?ho ?hn ?hr ?_; (case ho => rfl); (case hg => rfl); (case hn => rfl); (case hr => exact zHH); intro w49 hw; have hg : w47.grownBy w49 (some go40) := (by rw [hw]; exact HP48.2); have hp_ : Kd.R k31 31 w49 w.heap.size (fun _ => True) (.slice (some ⟨go40, 0, none⟩) t486.length co41) y513 := (by rw [hw, Ny513.1]; exact HP48.1); clear HP48; replace HO_4 := zM (Kd.R_over' (v := (.slice (some ⟨go40, 0, none⟩) t486.length co41)) (zR HO_4.1) (Kd.R_typed HO_7.1) (by decide) hg); replace HI0 := zM (IsS64.grown (show IsS64 w0 _ g s0_0 t511 t512 from zB0) hg (IsS64.own_ne HI0.1 HO_7.1 (by decide))); replace HO509 := zM (Kd.R_over' (v := (.slice (some ⟨go40, 0, none⟩) t486.length co41)) (zR HO509.1) (Kd.R_typed HO_7.1) (by decide) hg); replace HB := zM ((by rw [hw]; exact below_set (HB.1) (Nat.le_trans HL.1 GB40.1) : Below w0.heap.size w0 w49)); replace HK := zM (KeepBut.trans zB2 (KeepBut.of_grown hg g) (Kd.R_base2 HO_7.1)); replace HO_7 := zM hp_; clear hg hw hp_))
   go_ret2
   exact ⟨_, _, zE, by refine zrR ?_; exact Kd.R_mono HO_4.1 (fun _ hk => trivial), zR HO_7.1, zB0, zB1, zB2⟩

/-! ### spec_l1New: function 17 -/
def spec_l1New.l0 : Nat → List Int → Int → Int → Option (List Int × Int × Int)
 | 0, _, _, _ => none
 | k + 1, x0, x3, x4 => if x4 < (x0.length : Int) then (if x4 < 4000 then (if 0 ≤ x4 then (spec_l1New.l0 k x0 (Go.bits .and .i64 (wrap64 ((wrap64 ((wrap64 (x3 * 131)) + (wrap64 (rd x0 x4)))) + 7)) 1073741823) (wrap64 (x4 + 1))) else (none)) else (some (x0, 0, x3))) else (some (x0, 0, x3))
def spec_l1New.f (k : Nat) (l0 : List Int) : Option (List Int × Int × Int) := spec_l1New.l0 k l0 (wrap64 (20404 + (l0.length : Int))) 0
theorem spec_l1New.mono_l : ∀ k, (∀ y0 y1 y2, LeO (spec_l1New.l0 k y0 y1 y2) (spec_l1New.l0 (k + 1) y0 y1 y2))
 | 0 => fun _ _ _ r h => by simp [spec_l1New.l0] at h
 | k + 1 => by
  have ih0 := spec_l1New.mono_l k
  ·intros
   unfold spec_l1New.l0
   exact zL
theorem spec_l1New.mono : ∀ a0 k, LeO (spec_l1New.f k a0) (spec_l1New.f (k + 1) a0) := by
 intro a0 k
 have ih0 := spec_l1New.mono_l k
 unfold spec_l1New.f
 exact zL
theorem spec_l1New.calls (k : Nat) (A0 : Option Addr) (c0 : Nat) (l0 : List Int) (r1 : List Int) (r2 : Int) (r3 : Int) (w0 w : World) (hB : Below w0.heap.size w0 w) (hr0 : Kd.C (Kd.int .u8) w0 A0 l0.length l0) (hc0 : l0.length ≤ c0) (h : spec_l1New.f k l0 = some (r1, r2, r3)) :
  Calls Tryd.prog 17 #[.slice A0 l0.length c0] w fun e w' => ∃ g_ : Nat, e = .returned (.pointer (some ⟨g_, 0, none⟩)) ∧ IsS64 w0 w' g_ r1 r2 r3 ∧ Below w0.heap.size w0 w' ∧ Below w.heap.size w w' := by
 have hu64 := Tryd.underlying64
 have HR0 := zM hr0
 have HC0 := zM hc0
 clear hr0 hc0
 have HBW := zM (Below.refl w.heap.size w)
 have HW0 := zM hB.size
 have HB := zM hB
 clear hB
 unfold spec_l1New.f at h
 have H := h
 clear h
 have H' := zM H
 clear H
 go_enter Tryd.func17, Tryd.ntmps17
 go_wp2
 go_loopg [3, 4] k (fun kq v3 v4 w' => ∃ (x3_1 : Int) (x4_1 : Int), v3 = .int .i64 x3_1 ∧ v4 = .int .i64 x4_1 ∧ Aside0 (spec_l1New.l0 kq l0 x3_1 x4_1 = some (r1, r2, r3)) ∧ Aside0 (kq ≤ k) ∧ Aside0 (Below w0.heap.size w0 w') ∧ Aside0 (Below w.heap.size w w'))
 case atStart => exact ⟨(wrap64 (20404 + (l0.length : Int))), (0), zJJ, zJJ, H', ⟨Nat.le_refl _⟩, ⟨zB3⟩, ⟨zB53⟩⟩
 case round =>
  clear H'
  obtain ⟨x3_1, x4_1, rfl, rfl, HA, HK1, HB, HBW⟩ := hrel
  cases gk with
  | zero => exact absurd HA.1 (by simp [spec_l1New.l0])
  | succ k1 =>
   have H := HA.1
   clear HA
   simp only [spec_l1New.l0] at H
   by_cases c2 : x4_1 < (l0.length : Int)
   rotate_left
   ·rw [if_neg c2] at H
    have c2b0 := decide_eq_false c2
    clear c2
    simp only [Option.some.injEq, Prod.mk.injEq] at H
    obtain ⟨rfl, rfl, rfl⟩ := H
    go_wp2_with (first | ((with_reducible refine zBx 31 64 #[.slice A0 l0.length c0, .int .i64 0, .int .i64 x3_1] ?_); intro gb520 hg w6 hbox hb; replace HB := zM (below_step zB3 hb); have BK520 := zM hbox; have GW520 := zM (zW hg (below_size zB53)); have GE520 := zM ((Nat.le_trans HW0.1 (zW hg (below_size zB53)) : w0.heap.size ≤ gb520)); replace HBW := zM (below_step HBW.out hb); clear hb hbox hg))
    go_ret
    exact ⟨_, rfl, (show IsS64 w0 _ gb520 l0 0 x3_1 from ⟨_, _, zK BK520.1, GE520.1, HR0.1⟩), zB3, zB53⟩
   rw [if_pos c2] at H
   have c2b0 := decide_eq_true c2
   clear c2
   by_cases c3 : x4_1 < 4000
   ·rw [if_pos c3] at H
    have c3b0 := decide_eq_true c3
    clear c3
    replace H := zIt H
    obtain ⟨c4b0, H⟩ := H
    have H' := zM H
    clear H
    obtain ⟨p518, q518, ad518, e518, hx518_0⟩ := zRd (Kd.at_int HR0.1 x4_1)
    cases e518
    replace hx518_0 := pw_cell_below HB.1 hx518_0
    go_wp2
    go_roundg k1
    case measure => have := HK1.1; omega
    case rel => exact ⟨(Go.bits .and .i64 (wrap64 ((wrap64 ((wrap64 (x3_1 * 131)) + (wrap64 (rd l0 x4_1)))) + 7)) 1073741823), (wrap64 (x4_1 + 1)), zJJ, zJJ, H', ⟨by have := HK1.1; omega⟩, ⟨zB3⟩, ⟨zB53⟩⟩
   rw [if_neg c3] at H
   have c3b0 := decide_eq_false c3
   clear c3
   simp only [Option.some.injEq, Prod.mk.injEq] at H
   obtain ⟨rfl, rfl, rfl⟩ := H
   go_wp2_with (first | ((with_reducible refine zBx 31 64 #[.slice A0 l0.length c0, .int .i64 0, .int .i64 x3_1] ?_); intro gb519 hg w5 hbox hb; replace HB := zM (below_step zB3 hb); have BK519 := zM hbox; have GW519 := zM (zW hg (below_size zB53)); have GE519 := zM ((Nat.le_trans HW0.1 (zW hg (below_size zB53)) : w0.heap.size ≤ gb519)); replace HBW := zM (below_step HBW.out hb); clear hb hbox hg))
   go_ret
   exact ⟨_, rfl, (show IsS64 w0 _ gb519 l0 0 x3_1 from ⟨_, _, zK BK519.1, GE519.1, HR0.1⟩), zB3, zB53⟩

/-! ### spec_DrawTraceText: function 5 -/
def spec_DrawTraceText.f (k : Nat) (l0 : List Int) : Option ((List (S31))) := (spec_l1New.f k l0).bind fun bt521 => ((spec_l18DrawTrace.f k bt521.1 bt521.2.1 bt521.2.2).bind fun bt525 => (some bt525.2.1))
theorem spec_DrawTraceText.mono : ∀ a0 k, LeO (spec_DrawTraceText.f k a0) (spec_DrawTraceText.f (k + 1) a0) := by
 intro a0 k
 unfold spec_DrawTraceText.f
 have mo0 := @spec_l18DrawTrace.mono
 have mo1 := @spec_l1New.mono
 exact zL
theorem spec_DrawTraceText.calls (k : Nat) (A0 : Option Addr) (c0 : Nat) (l0 : List Int) (r : List (S31)) (w : World) (hr0 : Kd.C (Kd.int .u8) w A0 l0.length l0) (hc0 : l0.length ≤ c0) (h : spec_DrawTraceText.f k l0 = some r) :
  Calls Tryd.prog 5 #[.slice A0 l0.length c0] w fun e w' => ∃ v0_ : Value, e = .returned (v0_) ∧ Kd.R k31 31 w' w.heap.size (fun _ => True) v0_ r ∧ Below w.heap.size w w' := by
 have HR0 := zM hr0
 have HC0 := zM hc0
 clear hr0 hc0
 have HB := zM (Below.refl w.heap.size w)
 unfold spec_DrawTraceText.f at h
 have H := h
 clear h
 replace H := zO H
 obtain ⟨⟨t521, t522, t523⟩, A2, H⟩ := H
 try dsimp only at H
 replace H := zO H
 obtain ⟨⟨t525, t528, t531, t532⟩, A3, H⟩ := H
 try dsimp only at H
 obtain rfl := Option.some.inj H
 go_enter Tryd.func5, Tryd.ntmps5
 go_wp2_with (first | ((with_reducible refine gate_callee (f := 17) rfl ?_); refine goesL_ (some 7) rfl rfl Tryd.func17 (by kernel_rfl) rfl #[.slice A0 l0.length c0] rfl zT ?_; (with_reducible refine (spec_l1New.calls k _ _ l0 t521 t522 t523 w _ ?side1 ?side2 ?side3 A2.1).mono ?_); (case side1 => exact zB3); (case side2 => exact HR0.1); (case side3 => exact HC0.1); rintro e w4 ⟨g524, rfl, hi, hb, hb2⟩; refine ⟨_, rfl, ?_⟩; replace HB := zM hb; have HI524 := zM hi; clear hb hb2 hi) | ((with_reducible refine gate_callee (f := 16) rfl ?_); refine goesL_ (some 8) rfl rfl Tryd.func16 (by kernel_rfl) rfl #[.pointer (some ⟨g524, 0, none⟩)] rfl zT ?_; (with_reducible refine (spec_l18DrawTrace.calls k g524 t521 t522 t523 t525 t528 t531 t532 w _ ?side1 ?side2 A3.1).mono ?_); (case side1 => exact zB58); (case side2 => exact zB59); rintro e w5 ⟨v526, v529, rfl, ho0, ho1, hi, hb, hk⟩; refine ⟨_, rfl, ?_⟩; have HO527 := zM (Kd.R_lower ho0 (below_size zB59)); have HO530 := zM (Kd.R_lower ho1 (below_size zB59)); replace HB := zM hb; replace HI524 := zM hi; clear hb hk hi ho0 ho1))
 go_ret
 exact ⟨_, zE, zR HO530.1, zB59⟩

-- NOT PRINTED: function 72 (abi_NoEscape)

-- NOT PRINTED: function 55 (strings_Builder_copyCheck)

-- NOT PRINTED: function 73 (bytealg_MakeNoZero)

-- NOT PRINTED: function 56 (strings_Builder_grow)

-- NOT PRINTED: function 42 (strings_Builder_Grow)

-- NOT PRINTED: function 43 (strings_Builder_WriteString)

-- NOT PRINTED: function 44 (strings_Builder_String)

/-! ### strings_Join: function 29 -/
def sh.lays156_ren : Go.Shelf.Ren := ⟨fun | 156 => 29 | 165 => 42 | 166 => 43 | 169 => 44 | 240 => 55 | 241 => 56 | 276 => 72 | 277 => 73 | n => n, fun | 31 => 46 | 9 => 9 | 3 => 3 | 4 => 4 | 0 => 0 | 20 => 20 | 72 => 71 | 76 => 75 | 70 => 69 | 37 => 22 | 75 => 74 | 127 => 90 | 164 => 107 | 5 => 5 | 80 => 77 | n => n, fun | n => n⟩
theorem sh.lays156 : Go.Proofs.Lays.n156 Tryd.prog sh.lays156_ren := {
 mixed := by kernel_rfl
 f156 := Tryd.func29.trans (congrArg some (by kernel_rfl))
 f165 := Tryd.func42.trans (congrArg some (by kernel_rfl))
 f166 := Tryd.func43.trans (congrArg some (by kernel_rfl))
 f169 := Tryd.func44.trans (congrArg some (by kernel_rfl))
 f240 := Tryd.func55.trans (congrArg some (by kernel_rfl))
 f241 := Tryd.func56.trans (congrArg some (by kernel_rfl))
 f276 := Tryd.func72.trans (congrArg some (by kernel_rfl))
 f277 := Tryd.func73.trans (congrArg some (by kernel_rfl))
 t0 := Tryd.underlying0
 a0 := Tryd.isAgg0
 z0 := Tryd.sizeOf0
 v0 := Tryd.zeroValue0
 t3 := Tryd.underlying3
 a3 := Tryd.isAgg3
 z3 := Tryd.sizeOf3
 v3 := Tryd.zeroValue3
 t4 := Tryd.underlying4
 a4 := Tryd.isAgg4
 z4 := Tryd.sizeOf4
 v4 := Tryd.zeroValue4
 t9 := Tryd.underlying9
 a9 := Tryd.isAgg9
 z9 := Tryd.sizeOf9
 v9 := Tryd.zeroValue9
 t20 := Tryd.underlying20
 a20 := Tryd.isAgg20
 z20 := Tryd.sizeOf20
 v20 := Tryd.zeroValue20
 t31 := Tryd.underlying46
 a31 := Tryd.isAgg46
 z31 := Tryd.sizeOf46
 v31 := Tryd.zeroValue46
 t37 := Tryd.underlying22
 a37 := Tryd.isAgg22
 z37 := Tryd.sizeOf22
 v37 := Tryd.zeroValue22
 t70 := Tryd.underlying69
 a70 := Tryd.isAgg69
 z70 := Tryd.sizeOf69
 v70 := Tryd.zeroValue69
 t72 := Tryd.underlying71
 a72 := Tryd.isAgg71
 z72 := Tryd.sizeOf71
 v72 := Tryd.zeroValue71
 t75 := Tryd.underlying74
 a75 := Tryd.isAgg74
 z75 := Tryd.sizeOf74
 v75 := Tryd.zeroValue74
 t76 := Tryd.underlying75
 a76 := Tryd.isAgg75
 z76 := Tryd.sizeOf75
 v76 := Tryd.zeroValue75
 t127 := Tryd.underlying90
 a127 := Tryd.isAgg90
 z127 := Tryd.sizeOf90
 v127 := Tryd.zeroValue90
 t164 := Tryd.underlying107
 a164 := Tryd.isAgg107
 z164 := Tryd.sizeOf107
 v164 := Tryd.zeroValue107 }
theorem sh.Builder_Extra_156 : Builder.Extra Tryd.prog sh.lays156_ren := {
 sizeBuilder := by kernel_rfl
 liesBuilder := by kernel_rfl
 t5 := Tryd.underlying5
 a5 := Tryd.isAgg5
 z5 := Tryd.sizeOf5
 v5 := Tryd.zeroValue5
 infoByte := by kernel_rfl
 cellsByte := by kernel_rfl
 sizeByte := by kernel_rfl
 neB5 := by decide }
open Go.RowKit in
theorem sh.strings_Join_none (a : Option Addr) (c : Nat) (sep : ByteArray) (w : World) :
  Calls Tryd.prog 29 #[.slice a 0 c, .string sep] w fun e w' => e = .returned (.string ⟨#[]⟩) ∧ w' = w := Any.strings_Join_none sh.lays156 sh.Builder_Extra_156 a c sep w
open Go.RowKit in
theorem sh.strings_Join (bk o c : Nat) (xs : List ByteArray) (sep : ByteArray) (w : World) (hcells : ∀ (j : Nat) x, xs[j]? = some x → w.cell? ⟨bk, o + j, none⟩ = some (.string x)) (hbk : bk < w.heap.size) (hN : xs.length ≤ 140737488355328) (hcap : xs.length ≤ c) (hlen : (Lib.join (xs.map (·.data.toList)) sep.data.toList).length ≤ 140737488355328) :
  Calls Tryd.prog 29 #[.slice (some ⟨bk, o, none⟩) xs.length c, .string sep] w fun e w' => e = .returned (.string ⟨(Lib.join (xs.map (·.data.toList)) sep.data.toList).toArray⟩) ∧ Below w.heap.size w w' := Any.strings_Join sh.lays156 sh.Builder_Extra_156 bk o c xs sep w hcells hbk hN hcap hlen
def joinB (l : List ByteArray) (s : ByteArray) : ByteArray := ⟨(Lib.join (l.map (·.data.toList)) s.data.toList).toArray⟩
def strings_Join.f (l0 : List ByteArray) (a1 : ByteArray) : Option ByteArray := if l0.length ≤ 140737488355328 ∧ (joinB l0 a1).size ≤ 140737488355328 then some (joinB l0 a1) else none
theorem strings_Join.calls (A0 : Option Addr) (c0 : Nat) (l0 : List ByteArray) (a1 : ByteArray) (r : ByteArray) (w : World) (hr0 : Kd.C Kd.string w A0 l0.length l0) (hc0 : l0.length ≤ c0) (h : strings_Join.f l0 a1 = some r) :
  Calls Tryd.prog 29 #[.slice A0 l0.length c0, .string a1] w fun e w' => e = .returned (.string r) ∧ Below w.heap.size w w' := by
 unfold strings_Join.f at h
 by_cases hl : l0.length ≤ 140737488355328 ∧ (joinB l0 a1).size ≤ 140737488355328
 rotate_left
 ·rw [if_neg hl] at h
  exact absurd h (by simp)
 rw [if_pos hl] at h
 obtain rfl := Option.some.inj h
 by_cases h0 : l0.length = 0
 ·obtain rfl := List.eq_nil_of_length_eq_zero h0
  exact (sh.strings_Join_none A0 c0 a1 w).mono fun e w' ⟨he, hw⟩ => ⟨he, hw ▸ Below.refl _ _⟩
 obtain ⟨ad, rfl, hc⟩ := Kd.at_string hr0 0 (by omega) (by omega)
 obtain ⟨b, o, sp⟩ := ad
 have hsp : sp = none := by
  cases sp with
  | none => rfl
  | some x =>
   have e0 : (⟨b, o, some x⟩ : Addr).add (0 : Int).toNat = ⟨b, o, some x⟩ := rfl
   rw [e0] at hc
   unfold World.cell? at hc
   split at hc <;> simp at hc
 subst hsp
 have e0 : (⟨b, o, none⟩ : Addr).add (0 : Int).toNat = ⟨b, o, none⟩ := rfl
 rw [e0] at hc
 exact sh.strings_Join b o c0 l0 a1 w (fun j x hx => by
  have hj : j < l0.length := (List.getElem?_eq_some_iff.1 hx).1
  obtain ⟨ad, e, hc⟩ := Kd.at_string hr0 (j : Int) (by omega) (by omega)
  obtain rfl := Option.some.inj e
  have ea : (⟨b, o, none⟩ : Addr).add (j : Int).toNat = ⟨b, o + j, none⟩ := by unfold Addr.add; split <;> simp_all
  rw [ea] at hc
  rw [hc]
  simp [rdOf, hx]) (World.block_lt_of_cell? w _ hc) hl.1 hc0 hl.2

end Go.Proofs.YtaakcbgpmabaaaaDoor.PFnStories
