-- made by wip/tools/myprint.py out of the seat's translation
import Derived.Test.YtgbjengnkbomoaaPFnRacesx0
import Derived.Test.YtgbjengnkbomoaaPFnRacesx4
import Derived.Test.YtgbjengnkbomoaaPFnRacesx6
import Derived.Test.YtgbjengnkbomoaaPFnRacesx7
namespace Go.Proofs.Ytgbjengnkbomoaa.PFnRaces
open Go.RowKit Go.Proofs.YtgbjengnkbomoaaW.PrintWords Go.Proofs.YtgbjengnkbomoaaW.PrintLast Go.Proofs.YtgbjengnkbomoaaW.PrintMore
attribute [local go_sem] max2_int min2_int max_two min_two max_three min_three max_four min_four   -- for this text's walks alone
set_option linter.unusedVariables false
set_option linter.unusedSimpArgs false
set_option maxHeartbeats 8000000
set_option maxRecDepth 100000

/-! ### spec_Trace: function 28 -/
mutual
def spec_Trace.l0 : Nat → List Int → List (S31) → List Int → List (S49) → Int → Option ((List (S31)))
 | 0, _, _, _, _, _ => none
 | k + 1, x2, x7, x8, x9, x10 => if x10 < (x2.length : Int) then (spec_Trace.j1 k x2 x7 x8 x9 x10 (decide ((x2.length : Int) ≤ 2000))) else (spec_Trace.j1 k x2 x7 x8 x9 x10 false)
def spec_Trace.j1 : Nat → List Int → List (S31) → List Int → List (S49) → Int → Bool → Option ((List (S31)))
 | 0, _, _, _, _, _, _ => none
 | k + 1, x2, x7, x8, x9, x10, x31 => if x31 = true then (if 0 ≤ x10 then (if x10 < (x2.length : Int) then ((spec_l1In.f (rd x2 x10) 0 (wrap64 ((x9.length : Int) - 1))).bind fun t309 => (if t309 = true then (if 0 ≤ (rd x2 x10) then (if (rd x2 x10) < (x9.length : Int) then ((spec_EventOf.f k x8 ((rd_T49 x9 (rd x2 x10)).f0) ((rd_T49 x9 (rd x2 x10)).f1) ((rd_T49 x9 (rd x2 x10)).f2) (rd x2 x10)).bind fun bt311 => (if bt311.2.2.2.2.2 = true then (if x7.length < 3518437208883 then ((spec_FlatStep.f k x8 ((rd_T49 x9 (rd x2 x10)).f0) ((rd_T49 x9 (rd x2 x10)).f1) ((rd_T49 x9 (rd x2 x10)).f2)).bind fun bt322 => (spec_Trace.l0 k x2 (x7 ++ [(⟨bt311.1, bt311.2.1, bt311.2.2.1, bt311.2.2.2.1, bt311.2.2.2.2.1⟩ : S31)]) bt322.1 (x9.set ((rd x2 x10) : Int).toNat (⟨bt322.2.1, bt322.2.2.1, bt322.2.2.2⟩ : S49)) (wrap64 (x10 + 1)))) else (none)) else ((spec_FlatStep.f k x8 ((rd_T49 x9 (rd x2 x10)).f0) ((rd_T49 x9 (rd x2 x10)).f1) ((rd_T49 x9 (rd x2 x10)).f2)).bind fun bt333 => (spec_Trace.l0 k x2 x7 bt333.1 (x9.set ((rd x2 x10) : Int).toNat (⟨bt333.2.1, bt333.2.2.1, bt333.2.2.2⟩ : S49)) (wrap64 (x10 + 1)))))) else (none)) else (none)) else (spec_Trace.l0 k x2 x7 x8 x9 (wrap64 (x10 + 1))))) else (none)) else (none)) else (some x7)
end
def spec_Trace.f (k : Nat) (l0 : List Int) (l1 : List (S49)) (l2 : List Int) : Option ((List (S31))) := (some (([] : List Int) : List Int)).bind fun y296 => (if y296.length + l0.length < 17592186044416 then ((some (([] : List (S49)) : List (S49))).bind fun y302 => (if y302.length + l1.length < 3518437208883 then (spec_Trace.l0 k l2 (([] : List (S31))) (y296 ++ l0) (y302 ++ l1) 0) else (none))) else (none))
theorem spec_Trace.mono_l : ∀ k, (∀ y0 y1 y2 y3 y4, LeO (spec_Trace.l0 k y0 y1 y2 y3 y4) (spec_Trace.l0 (k + 1) y0 y1 y2 y3 y4)) ∧ (∀ y0 y1 y2 y3 y4 y5, LeO (spec_Trace.j1 k y0 y1 y2 y3 y4 y5) (spec_Trace.j1 (k + 1) y0 y1 y2 y3 y4 y5))
 | 0 => ⟨fun _ _ _ _ _ r h => by simp [spec_Trace.l0] at h, fun _ _ _ _ _ _ r h => by simp [spec_Trace.j1] at h⟩
 | k + 1 => by
  obtain ⟨ih0, ih1⟩ := spec_Trace.mono_l k
  refine ⟨?_, ?_⟩
  ·intros
   unfold spec_Trace.l0
   have mo0 := @spec_EventOf.mono
   have mo1 := @spec_FlatStep.mono
   exact zL
  ·intros
   unfold spec_Trace.j1
   have mo0 := @spec_EventOf.mono
   have mo1 := @spec_FlatStep.mono
   exact zL
theorem spec_Trace.mono : ∀ a0 a1 a2 k, LeO (spec_Trace.f k a0 a1 a2) (spec_Trace.f (k + 1) a0 a1 a2) := by
 intro a0 a1 a2 k
 obtain ⟨ih0, ih1⟩ := spec_Trace.mono_l k
 unfold spec_Trace.f
 have mo0 := @spec_EventOf.mono
 have mo1 := @spec_FlatStep.mono
 exact zL
theorem spec_Trace.calls (k : Nat) (A0 : Option Addr) (c0 : Nat) (l0 : List Int) (P1_ : Nat → Prop) (A1 : Option Addr) (c1 : Nat) (l1 : List (S49)) (A2 : Option Addr) (c2 : Nat) (l2 : List Int) (r : List (S31)) (w : World) (hr0 : Kd.C (Kd.int .i64) w A0 l0.length l0) (hc0 : l0.length ≤ c0) (hs1 : Kd.V k49 49 w w.heap.size (fun k_ => P1_ k_) (.slice A1 l1.length c1) l1) (hr2 : Kd.C (Kd.int .i64) w A2 l2.length l2) (hc2 : l2.length ≤ c2) (h : spec_Trace.f k l0 l1 l2 = some r) :
  Calls Try.prog 28 #[.slice A0 l0.length c0, .slice A1 l1.length c1, .slice A2 l2.length c2] w fun e w' => ∃ v0_ : Value, e = .returned (v0_) ∧ Kd.R k31 31 w' w.heap.size (fun k_ => (w.heap.size ≤ k_)) v0_ r ∧ Below w.heap.size w w' := by
 have hu49 := Try.underlying49
 have hu31 := Try.underlying31
 have HR0 := zM hr0
 have HC0 := zM hc0
 clear hr0 hc0
 have HO1 := zM (show Kd.V k49 49 w w.heap.size (fun k_ => (P1_ k_ ∨ w.heap.size ≤ k_)) (.slice A1 l1.length c1) l1 from Kd.V_mono hs1 (fun k_ hk => .inl hk))
 have HR2 := zM hr2
 have HC2 := zM hc2
 clear hr2 hc2
 have HB := zM (Below.refl w.heap.size w)
 unfold spec_Trace.f at h
 have H := h
 clear h
 generalize hy293 : ((([] : List (S31))) : List (S31)) = y293 at H
 have Ny293 := zM hy293.symm
 clear hy293
 replace H := zY H
 obtain ⟨y296, Ny296, H⟩ := H
 replace H := zIn H
 obtain ⟨LMc4, H⟩ := H
 generalize hy299 : ((y296 ++ l0) : List Int) = y299 at H
 have Ny299 := zM hy299.symm
 clear hy299
 replace H := zY H
 obtain ⟨y302, Ny302, H⟩ := H
 replace H := zIn H
 obtain ⟨LMc5, H⟩ := H
 generalize hy305 : ((y302 ++ l1) : List (S49)) = y305 at H
 have Ny305 := zM hy305.symm
 clear hy305
 have H' := zM H
 clear H
 go_enter Try.func28, Try.ntmps28
 go_wp2_with (first | ((with_reducible refine gate_dst (N := 16) rfl ?_); (try (refine gate_guard (by rfl) ?_; dsimp only)); refine Kd.R_lit k31 _ 31 ?hg (N := 16) ?hd (xs := ([] : List (S31))) (inner := []) (ok := fun _ => True) (okp := fun _ => True) ?hr ?hp (fun _ hk => hk) trivial (Below.refl _ _) (Nat.le_refl _) (by simp) ?_; (case hd => rfl); (case hg => rfl); (case hr => exact zHH); (case hp => exact (Reps.none _ _)); intro v294 w6 ho7 hb hg_ hnew_; clear hg_ hnew_; (first | rw [← Ny293.1] at ho7 | (simp only [Int.reduceToNat] at ho7; rw [← Ny293.1] at ho7)); replace HO1 := zM (Kd.V_elder' (by refine zrV ?_; exact HO1.1) (Kd.R_base ho7) hb); have HO295 := zM (Kd.R_lower (Kd.R_newM (M := fun k_ => (w.heap.size ≤ k_)) ho7 (below_size zB1) (fun k_ h_ => h_)) (below_size zB1)); replace HB := zM (below_step zB1 hb); clear hb ho7) | ((with_reducible refine gate_dst (N := 17) rfl ?_); (try (refine gate_guard (by rfl) ?_; dsimp only)); refine Kd.R_lit (Kd.int .i64) _ 3 ?hg (N := 17) ?hd (xs := ([] : List Int)) (inner := []) (ok := fun _ => True) (okp := fun _ => True) ?hr ?hp (fun _ hk => hk) trivial (Below.refl _ _) (Nat.le_refl _) (by simp) ?_; (case hd => rfl); (case hg => rfl); (case hr => exact zHH); (case hp => exact (Reps.none _ _)); intro v297 w8 ho9 hb hg_ hnew_; clear hg_ hnew_; (first | rw [← Ny296.1] at ho9 | (simp only [Int.reduceToNat] at ho9; rw [← Ny296.1] at ho9)); replace HO1 := zM (Kd.V_elder' (by refine zrV ?_; exact HO1.1) (Kd.R_base ho9) hb); replace HO295 := zM (Kd.R_below (zR HO295.1) hb); have HO298 := zM (Kd.R_lower (Kd.R_newM (M := fun k_ => (w.heap.size ≤ k_)) ho9 (below_size zB1) (fun k_ h_ => h_)) (below_size zB1)); replace HB := zM (below_step zB1 hb); clear hb ho9) | ((with_reducible refine gate_builtin (b := .append) (xs := #[.tmp 17, .tmp 18]) rfl ?_); (try (refine gate_guard (by rfl) ?_; dsimp only)); at_builtin; refine Kd.R_append_rows (Kd.int .i64) (w0 := w) w.heap.size rfl (.tmp 17) (.tmp 18) 29 3 (.int .i64 0) 8 rfl Try.underlying29 info3 rfl (by decide) (by omega) v297 y296 l0 _ _ _ (fun k_ => (w.heap.size ≤ k_)) (fun _ => False) rfl rfl ?aO ?aR (fun _ _ h => h) (fun _ h => h.elim) ?aF ?aB ?aS ?aL ?_; (case aR => exact zC (Kd.C_below HR0.1 HB.1)); (case aB => exact zB1); (case aF => exact (fun k_ hk => (Nat.le_trans (below_size zB1) hk))); (case aO => exact (by refine zrR ?_; exact Kd.R_mono HO298.1 (fun _ hk => hk.1))); (case aS => exact (below_size zB1)); (case aL => have := LMc4.out; omega); intro v300 w10 ho hb hg hat; rw [← Ny299.1] at ho; replace HO1 := zM (Kd.V_afterv (ok := (fun k_ => (P1_ k_ ∨ w.heap.size ≤ k_) ∧ some k_ ≠ (v294 : Value).ownBlock)) (by refine zrV ?_; exact HO1.1) hg hat); replace HO295 := zM (Kd.R_over' (zR HO295.1) (Kd.R_typed (zR HO298.1)) (by decide) hg); replace HB := zM hb; have HO301 := zM ho; clear HO298; clear ho hb hg hat) | ((with_reducible refine gate_dst (N := 20) rfl ?_); (try (refine gate_guard (by rfl) ?_; dsimp only)); refine Kd.N_lit k49 _ 49 ?hg (N' := 20) ?hd (xs := ([] : List (S49))) (inner := []) (ok := (fun k_ => (P1_ k_ ∨ w.heap.size ≤ k_) ∧ some k_ ≠ (v294 : Value).ownBlock ∧ some k_ ≠ (v300 : Value).ownBlock)) (okp := (fun k_ => (P1_ k_ ∨ w.heap.size ≤ k_) ∧ some k_ ≠ (v294 : Value).ownBlock ∧ some k_ ≠ (v300 : Value).ownBlock)) ?hr ?hp (fun _ hk => hk) ((show ∀ k_, w10.heap.size ≤ k_ → (fun k_ => (P1_ k_ ∨ w.heap.size ≤ k_) ∧ some k_ ≠ (v294 : Value).ownBlock ∧ some k_ ≠ (v300 : Value).ownBlock) k_ from fun k_ hk => ⟨(.inr (Nat.le_trans (below_size zB1) hk)), Kd.fresh' (Kd.R_lt (zR HO295.1)) k_ hk, Kd.fresh' (Kd.R_lt (zR HO301.1)) k_ hk⟩) _ (Nat.le_refl _)) (Below.refl _ _) (Nat.le_refl _) (by simp) ?_; (case hd => rfl); (case hg => rfl); (case hr => exact zHH); (case hp => exact (Reps.none _ _)); intro v303 w11 ho12 hb hg_ hnew_; clear hg_ hnew_; (first | rw [← Ny302.1] at ho12 | (simp only [Int.reduceToNat] at ho12; rw [← Ny302.1] at ho12)); replace HO1 := zM (Kd.V_elder' (by refine zrV ?_; exact HO1.1) (Kd.N_base ho12) hb); replace HO295 := zM (Kd.R_below (zR HO295.1) hb); replace HO301 := zM (Kd.R_below (zR HO301.1) hb); have HO304 := zM (Kd.N_lower ho12 (below_size zB1)); replace HB := zM (below_step zB1 hb); clear hb ho12) | ((with_reducible refine gate_builtin (b := .append) (xs := #[.tmp 20, .tmp 21]) rfl ?_); (try (refine gate_guard (by rfl) ?_; dsimp only)); at_builtin; refine Kd.N_append_rows k49 (w0 := w) w.heap.size rfl (.tmp 20) (.tmp 21) 51 49 (.agg #[(.slice none 0 0), (.int .i64 0), (.int .i64 0)]) 40 rfl Try.underlying51 info49 rfl (by decide) (by omega) v303 y302 l1 _ _ _ (fun k_ => (P1_ k_ ∨ w.heap.size ≤ k_) ∧ some k_ ≠ (v294 : Value).ownBlock ∧ some k_ ≠ (v300 : Value).ownBlock) (fun k_ => ((fun k_ => (P1_ k_ ∨ w.heap.size ≤ k_) ∧ some k_ ≠ (v294 : Value).ownBlock ∧ some k_ ≠ (v300 : Value).ownBlock)) k_ ∧ some k_ ≠ (v303 : Value).ownBlock) rfl rfl ?aO ?aR (fun _ hk => hk) ?aF ?aB ?aS ?aL ?_; (case aR => exact (by skip; exact Kd.V_F (Kd.V_mono (ok' := (fun k_ => ((fun k_ => (P1_ k_ ∨ w.heap.size ≤ k_) ∧ some k_ ≠ (v294 : Value).ownBlock ∧ some k_ ≠ (v300 : Value).ownBlock)) k_ ∧ some k_ ≠ (v303 : Value).ownBlock)) (HO1.1) (fun k_ hk => ⟨⟨hk.1.1.1, ⟨hk.1.1.2, hk.1.2⟩⟩, hk.2⟩)))); (case aB => exact zB1); (case aF => exact (fun k_ hk => ⟨(.inr (Nat.le_trans (below_size zB1) hk)), Kd.fresh' (Kd.R_lt (zR HO295.1)) k_ hk, Kd.fresh' (Kd.R_lt (zR HO301.1)) k_ hk⟩)); (case aO => exact (by refine zrN ?_; exact HO304.1)); (case aS => exact (below_size zB1)); (case aL => have := LMc5.out; omega); intro v306 w13 ho hb hg hat; rw [← Ny305.1] at ho; replace HO1 := zM (Kd.V_afterv (ok := (fun k_ => (P1_ k_ ∨ w.heap.size ≤ k_) ∧ some k_ ≠ (v294 : Value).ownBlock ∧ some k_ ≠ (v300 : Value).ownBlock)) (by refine zrV ?_; exact Kd.V_mono HO1.1 (fun _ hk => ⟨⟨hk.1.1.1, ⟨hk.1.1.2, hk.1.2⟩⟩, hk.2⟩)) hg hat); replace HO295 := zM (Kd.R_over' (zR HO295.1) (Kd.N_typed (by refine zrN ?_; exact HO304.1)) (by decide) hg); replace HO301 := zM (Kd.R_over' (zR HO301.1) (Kd.N_typed (by refine zrN ?_; exact HO304.1)) (by decide) hg); replace HB := zM hb; have HO307 := zM ho; clear HO304; clear ho hb hg hat))
 go_loopg [7, 8, 10] k (fun kq v7 v8 v10 w' => ∃ (x7_1 : List (S31)) (x8_1 : List Int) (x9_1 : List (S49)) (x10_1 : Int), v10 = .int .i64 x10_1 ∧ Aside0 (spec_Trace.l0 kq l2 x7_1 x8_1 x9_1 x10_1 = some r) ∧ Aside0 (kq ≤ k) ∧ Aside0 (Kd.R k31 31 w' w.heap.size (fun k_ => (w.heap.size ≤ k_)) v7 x7_1) ∧ Aside0 (Kd.R (Kd.int .i64) 3 w' w.heap.size (fun k_ => (w.heap.size ≤ k_)) v8 x8_1) ∧ Aside0 (Kd.N k49 49 w' w.heap.size (fun k_ => (P1_ k_ ∨ w.heap.size ≤ k_) ∧ some k_ ≠ (v7 : Value).ownBlock ∧ some k_ ≠ (v8 : Value).ownBlock) v306 x9_1) ∧ Aside0 (Below w.heap.size w w'))
 case atStart => exact ⟨(y293), (y299), (y305), (0), zJJ, H', ⟨Nat.le_refl _⟩, ⟨by refine zrR ?_; exact Kd.R_mono HO295.1 (fun _ hk => hk.1)⟩, ⟨zR HO301.1⟩, ⟨by refine zrN ?_; exact HO307.1⟩, ⟨zB1⟩⟩
 case round =>
  clear H'
  obtain ⟨x7_1, x8_1, x9_1, x10_1, rfl, HA, HK1, HO_7, HO_8, HO_9, HB⟩ := hrel
  cases gk with
  | zero => exact absurd HA.1 (by simp [spec_Trace.l0])
  | succ k1 =>
   have H := HA.1
   clear HA
   simp only [spec_Trace.l0] at H
   have HC14 := zM H
   clear H
   go_upto_region 5 with (fail)
   go_cut [31] (fun v31 wc => ∃ (kq : Nat) (x31_13 : Bool), v31 = .bool x31_13 ∧ Aside0 (spec_Trace.j1 kq l2 x7_1 x8_1 x9_1 x10_1 x31_13 = some r) ∧ Aside0 (kq ≤ k1) ∧ Aside0 (Kd.R k31 31 wc w.heap.size (fun k_ => (w.heap.size ≤ k_)) u7 x7_1) ∧ Aside0 (Kd.R (Kd.int .i64) 3 wc w.heap.size (fun k_ => (w.heap.size ≤ k_)) u8 x8_1) ∧ Aside0 (Kd.N k49 49 wc w.heap.size (fun k_ => (P1_ k_ ∨ w.heap.size ≤ k_) ∧ some k_ ≠ (u7 : Value).ownBlock ∧ some k_ ≠ (u8 : Value).ownBlock) v306 x9_1) ∧ Aside0 (Below w.heap.size w wc))
   case first =>
    have H := HC14.1
    clear HC14
    by_cases c15 : x10_1 < (l2.length : Int)
    rotate_left
    ·rw [if_neg c15] at H
     have c15b0 := decide_eq_false c15
     clear c15
     (first | rw [c15b0] | (simp only [i64_w, i32_w]; rw [c15b0]) | skip)
     have H' := zM H
     clear H
     go_wp2
     go_meet
     case rel => exact ⟨_, (false), zJJ, H', ⟨by have := HK1.1; first | omega | exact Nat.le_refl _⟩, ⟨zR HO_7.1⟩, ⟨zR HO_8.1⟩, ⟨by refine zrN ?_; exact HO_9.1⟩, ⟨zB1⟩⟩
    rw [if_pos c15] at H
    have c15b0 := decide_eq_true c15
    clear c15
    (first | rw [c15b0] | (simp only [i64_w, i32_w]; rw [c15b0]) | skip)
    have H' := zM H
    clear H
    go_wp2
    go_meet
    case rel => exact ⟨_, (decide ((l2.length : Int) ≤ 2000)), zJJ, H', ⟨by have := HK1.1; first | omega | exact Nat.le_refl _⟩, ⟨zR HO_7.1⟩, ⟨zR HO_8.1⟩, ⟨by refine zrN ?_; exact HO_9.1⟩, ⟨zB1⟩⟩
   case rest =>
    clear HC14
    obtain ⟨kq, x31_13, rfl, HA, HJ13, HO_7, HO_8, HO_9, HB⟩ := hcut
    cases kq with
    | zero => exact absurd HA.1 (by simp [spec_Trace.j1])
    | succ kj13 =>
     have H := HA.1
     clear HA
     simp only [spec_Trace.j1] at H
     by_cases c16 : x31_13 = true
     rotate_left
     ·replace c16 := Bool.eq_false_iff.mpr c16
      subst c16
      rw [if_neg zF] at H
      obtain rfl := Option.some.inj H
      go_wp2
      go_ret
      exact ⟨_, zE, zR HO_7.1, zB1⟩
     subst c16
     rw [if_pos rfl] at H
     replace H := zIt H
     obtain ⟨c17b0, H⟩ := H
     replace H := zIt H
     obtain ⟨c18b0, H⟩ := H
     replace H := zO H
     obtain ⟨t309, A19, H⟩ := H
     by_cases c20 : t309 = true
     rotate_left
     ·replace c20 := Bool.eq_false_iff.mpr c20
      subst c20
      rw [if_neg zF] at H
      have H' := zM H
      clear H
      obtain ⟨p308, q308, ad308, e308, hx308_0⟩ := zRd (Kd.at_int HR2.1 x10_1)
      cases e308
      replace hx308_0 := zHx HB.1 hx308_0
      obtain ⟨Ao60, co60, eo60⟩ := Kd.N_slice HO_9.1
      subst eo60
      go_wp2_with (first | ((with_reducible refine zG Try.func44 42 #[.int .i64 (rd l2 x10_1), .int .i64 0, .int .i64 (wrap64 ((x9_1.length : Int) - 1))] ?_); (with_reducible refine (spec_l1In.calls (rd l2 x10_1) 0 (wrap64 ((x9_1.length : Int) - 1)) false _ A19.1).mono ?_); rintro e w' ⟨rfl, ⟨nd, rfl⟩⟩; refine ⟨_, rfl, ?_⟩))
      go_roundg kj13
      case measure => have := HK1.1; have := HJ13.1; omega
      case rel => exact ⟨(x7_1), (x8_1), (x9_1), (wrap64 (x10_1 + 1)), zJJ, H', ⟨by have := HK1.1; have := HJ13.1; omega⟩, ⟨zR HO_7.1⟩, ⟨zR HO_8.1⟩, ⟨by refine zrN ?_; exact HO_9.1⟩, ⟨zB1⟩⟩
     subst c20
     rw [if_pos rfl] at H
     replace H := zIt H
     obtain ⟨c21b0, H⟩ := H
     replace H := zIt H
     obtain ⟨c22b0, H⟩ := H
     replace H := zO H
     obtain ⟨⟨t311, t312, t313, t314, t315, t316⟩, A23, H⟩ := H
     try dsimp only at H
     by_cases c24 : t316 = true
     rotate_left
     ·replace c24 := Bool.eq_false_iff.mpr c24
      subst c24
      rw [if_neg zF] at H
      replace H := zO H
      obtain ⟨⟨t333, t336, t339, t340⟩, A43, H⟩ := H
      try dsimp only at H
      generalize hy342 : ((x9_1.set ((rd l2 x10_1) : Int).toNat (⟨t336, t339, t340⟩ : S49)) : List (S49)) = y342 at H
      have Ny342 := zM hy342.symm
      clear hy342
      have H' := zM H
      clear H
      obtain ⟨p308, q308, ad308, e308, hx308_0⟩ := zRd (Kd.at_int HR2.1 x10_1)
      cases e308
      replace hx308_0 := zHx HB.1 hx308_0
      obtain ⟨Ao45, co45, eo45⟩ := Kd.N_slice HO_9.1
      subst eo45
      go_wp2_with (first | ((with_reducible refine zG Try.func44 42 #[.int .i64 (rd l2 x10_1), .int .i64 0, .int .i64 (wrap64 ((x9_1.length : Int) - 1))] ?_); (with_reducible refine (spec_l1In.calls (rd l2 x10_1) 0 (wrap64 ((x9_1.length : Int) - 1)) true _ A19.1).mono ?_); rintro e w' ⟨rfl, ⟨nd, rfl⟩⟩; refine ⟨_, rfl, ?_⟩; (try (rw [drewN_self wc]; generalize hq_ : World.drewN wc _ = wc; have n0_ : Aside0 (Kd.R k31 31 wc w.heap.size (fun k_ => (w.heap.size ≤ k_)) u7 x7_1) := ⟨by rw [← hq_]; exact (zR HO_7.1)⟩; have n1_ : Aside0 (Kd.R (Kd.int .i64) 3 wc w.heap.size (fun k_ => (w.heap.size ≤ k_)) u8 x8_1) := ⟨by rw [← hq_]; exact (zR HO_8.1)⟩; have n2_ : Aside0 (Kd.N k49 49 wc w.heap.size (fun k_ => (P1_ k_ ∨ w.heap.size ≤ k_) ∧ some k_ ≠ (u7 : Value).ownBlock ∧ some k_ ≠ (u8 : Value).ownBlock) (.slice Ao45 x9_1.length co45) x9_1) := ⟨by rw [← hq_]; exact (by refine zrN ?_; exact HO_9.1)⟩; have n3_ : Aside0 (Below w.heap.size w wc) := ⟨by rw [← hq_]; exact zB1⟩; clear HO_7 HO_8 HO_9 HB hq_; have HO_7 := n0_; have HO_8 := n1_; have HO_9 := n2_; have HB := n3_; clear n0_ n1_ n2_ n3_)); have p310 : 0 ≤ ((rd l2 x10_1) : Int) := zA; have q310 : (rd l2 x10_1) < (x9_1.length : Int) := zA; obtain ⟨ad310, A310_0, c310_0, e310, hx310_0, hx310_1, hx310_2, hl310_0, hi310_0⟩ := at_T49 (Kd.N_reads' HO_9.1).2.2 (rd l2 x10_1) p310 q310; cases e310; obtain ⟨ce310, hce310, hMe310, hcc310⟩ := Kd.N_get HO_9.1 z49 (rd l2 x10_1) p310 (by first | exact q310 | exact zA | (have e_ := (Kd.N_reads' HO_9.1).1; omega)); obtain ⟨ua310_0, uc310_0, rfl, ul310_0, ge310_0⟩ := k49_openF hMe310; have hv310_0 := hcc310 0 _ rfl; rw [Nat.add_zero] at hv310_0; replace hv310_0 := Option.some.inj (hv310_0.symm.trans hx310_0); injection hv310_0 with hva_ hvn_ hvc_; rw [hva_] at ge310_0; rw [hvc_] at ul310_0; have HL310_0 := zM (show Kd.V (Kd.int .i64) 3 _ w.heap.size _ _ ((rd_T49 x9_1 (rd l2 x10_1)).f0) from Kd.V_mk ul310_0 ge310_0); clear hva_ hvn_ hvc_ ge310_0 ul310_0; clear hcc310 hce310; have HR310_0 := zM hi310_0; have HC310_0 := zM hl310_0; clear hi310_0 hl310_0; replace p310 := eq_true p310; replace q310 := eq_true q310; obtain ⟨Ao46, co46, eo46⟩ := Kd.R_slice HO_8.1; subst eo46) | ((with_reducible refine zG Try.func56 51 #[.slice Ao46 x8_1.length co46, .agg #[.slice A310_0 ((rd_T49 x9_1 (rd l2 x10_1)).f0).length c310_0, .int .i64 ((rd_T49 x9_1 (rd l2 x10_1)).f1), .int .i64 ((rd_T49 x9_1 (rd l2 x10_1)).f2)], .int .i64 (rd l2 x10_1)] ?_); (with_reducible refine (spec_EventOf.calls kj13 _ _ x8_1 _ _ ((rd_T49 x9_1 (rd l2 x10_1)).f0) ((rd_T49 x9_1 (rd l2 x10_1)).f1) ((rd_T49 x9_1 (rd l2 x10_1)).f2) (rd l2 x10_1) t311 t312 t313 t314 t315 false _ ?side1 ?side2 ?side3 ?side4 A23.1).mono ?_); (case side1 => exact zC (Kd.R_reads' HO_8.1).2.2); (case side2 => exact (Kd.R_reads' HO_8.1).2.1); (case side3 => exact zC HR310_0.1); (case side4 => exact HC310_0.1); rintro e w47 ⟨rfl, hb⟩; refine ⟨_, rfl, ?_⟩; replace HO_7 := zM (Kd.R_below (zR HO_7.1) hb); replace HO_8 := zM (Kd.R_below (zR HO_8.1) hb); replace HO_9 := zM (Kd.N_below (by refine zrN ?_; exact HO_9.1) hb); replace HL310_0 := zM (Kd.V_below (by refine zrV ?_; exact HL310_0.1) hb); replace HR310_0 := zM (Kd.C_below (zC HR310_0.1) hb); replace HB := zM (below_step zB1 hb); clear hb) | ((with_reducible refine gate_dst (N := 12) rfl ?_); (try (refine gate_guard (by rfl) ?_; dsimp only)); (with_reducible refine zBx 12 31 #[.int .i64 0, .int .i64 0, .int .i64 0, .int .i64 0, .int .i64 0] ?_); intro gb317 hg w48 hbox hb; replace HO_7 := zM (Kd.R_below (Kd.R_elderB (zR HO_7.1) gb317 (Nat.le_of_eq hg.symm)) hb); replace HO_8 := zM (Kd.R_below (zR HO_8.1) hb); replace HO_9 := zM (Kd.N_below (Kd.N_elderB (by refine zrN ?_; exact HO_9.1) gb317 (Nat.le_of_eq hg.symm)) hb); replace HL310_0 := zM (Kd.V_below (Kd.V_elderB (by refine zrV ?_; exact HL310_0.1) gb317 (Nat.le_of_eq hg.symm)) hb); replace HR310_0 := zM (Kd.C_below (zC HR310_0.1) hb); have BK317 := zM hbox; have GW317 := zM (zW hg (below_size zB1)); have GE317 := zM (zW hg (below_size zB1)); replace HB := zM (below_step zB1 hb); clear hb hbox hg; have hcz49 := zc_5 (w := w48) BK317.1) | ((with_reducible refine gate_store (t := 31) (p := 12) rfl ?_); refine store_event (t := 31) (p := 12) (v := ?vo_w50) (w1 := (((((w48.setCell ⟨gb317, 0, none⟩ (.int .i64 t311)).setCell ⟨gb317, 1, none⟩ (.int .i64 t312)).setCell ⟨gb317, 2, none⟩ (.int .i64 t313)).setCell ⟨gb317, 3, none⟩ (.int .i64 t314)).setCell ⟨gb317, 4, none⟩ (.int .i64 t315))) ?hg ?ho ?hn ?hr ?_; (case ho => rfl); (case hg => rfl); (case hn => rfl); (case hr => exact zHH); intro w50 hw; have n0_ : Aside0 (Kd.R k31 31 w50 w.heap.size (fun k_ => (w.heap.size ≤ k_) ∧ k_ ≠ gb317) u7 x7_1) := ⟨(by rw [hw]; exact (by refine zrR ?_; exact Kd.R_mono (zfR (zfR (zfR (zfR (zfR (Kd.R_mono HO_7.1 (fun k_ hk => (⟨hk, hk.2⟩ : _ ∧ k_ ≠ gb317)))))))) (fun _ hk => ⟨hk.1.1, hk.1.2⟩)))⟩; have n1_ : Aside0 (Kd.R (Kd.int .i64) 3 w50 w.heap.size (fun k_ => (w.heap.size ≤ k_)) (.slice Ao46 x8_1.length co46) x8_1) := ⟨(by rw [hw]; exact (by refine zrR ?_; exact Kd.R_mono (zfR (zfR (zfR (zfR (zfR (Kd.R_types HO_8.1 BK317.1 (by decide))))))) (fun _ hk => hk.1)))⟩; have n2_ : Aside0 (Kd.N k49 49 w50 w.heap.size (fun k_ => (P1_ k_ ∨ w.heap.size ≤ k_) ∧ some k_ ≠ (u7 : Value).ownBlock ∧ some k_ ≠ (.slice Ao46 x8_1.length co46 : Value).ownBlock ∧ k_ ≠ gb317) (.slice (some ad310) x9_1.length co45) x9_1) := ⟨(by rw [hw]; exact (by refine zrN ?_; exact Kd.N_mono (zfN (zfN (zfN (zfN (zfN (Kd.N_mono HO_9.1 (fun k_ hk => (⟨hk, hk.2⟩ : _ ∧ k_ ≠ gb317)))))))) (fun _ hk => ⟨hk.1.1.1, ⟨hk.1.1.2.1, ⟨hk.1.1.2.2, hk.1.2⟩⟩⟩)))⟩; have n3_ : Aside0 (Kd.V (Kd.int .i64) 3 w50 w.heap.size (fun k_ => (P1_ k_ ∨ w.heap.size ≤ k_) ∧ some k_ ≠ (u7 : Value).ownBlock ∧ some k_ ≠ (.slice Ao46 x8_1.length co46 : Value).ownBlock ∧ some k_ ≠ (.slice (some ad310) x9_1.length co45 : Value).ownBlock ∧ k_ ≠ gb317) (.slice A310_0 ((rd_T49 x9_1 (rd l2 x10_1)).f0).length c310_0) ((rd_T49 x9_1 (rd l2 x10_1)).f0)) := ⟨(by rw [hw]; exact (by refine zrV ?_; exact Kd.V_mono (zfV (zfV (zfV (zfV (zfV (Kd.V_mono HL310_0.1 (fun k_ hk => (⟨hk, hk.2⟩ : _ ∧ k_ ≠ gb317)))))))) (fun _ hk => ⟨hk.1.1.1.1, ⟨hk.1.1.1.2.1, ⟨hk.1.1.1.2.2, ⟨hk.1.1.2, hk.1.2⟩⟩⟩⟩)))⟩; have n4_ : Aside0 (w50.heap[gb317]? = some (.cells #[.int .i64 t311, .int .i64 t312, .int .i64 t313, .int .i64 t314, .int .i64 t315] 31 (0, 0))) := ⟨(by rw [hw]; exact (by exact zp5 (zK BK317.1)))⟩; have n5_ : Aside0 (Below w.heap.size w w50) := ⟨(by rw [hw]; exact zB1)⟩; clear hw; clear HO_7; clear HO_8; clear HO_9; clear HL310_0; clear BK317; clear HB; have HO_7 := n0_; have HO_8 := n1_; have HO_9 := n2_; have HL310_0 := n3_; have BK317 := n4_; have HB := n5_; clear n0_ n1_ n2_ n3_ n4_ n5_; have p332 : 0 ≤ ((rd l2 x10_1) : Int) := zA; have q332 : (rd l2 x10_1) < (x9_1.length : Int) := zA; obtain ⟨ad332, A332_0, c332_0, e332, hx332_0, hx332_1, hx332_2, hl332_0, hi332_0⟩ := at_T49 (Kd.N_reads' HO_9.1).2.2 (rd l2 x10_1) p332 q332; obtain rfl : ad310 = ad332 := (by injection e332); obtain ⟨ce332, hce332, hMe332, hcc332⟩ := Kd.N_get HO_9.1 z49 (rd l2 x10_1) p332 (by first | exact q332 | exact zA | (have e_ := (Kd.N_reads' HO_9.1).1; omega)); obtain ⟨ua332_0, uc332_0, rfl, ul332_0, ge332_0⟩ := k49_openF hMe332; have hv332_0 := hcc332 0 _ rfl; rw [Nat.add_zero] at hv332_0; replace hv332_0 := Option.some.inj (hv332_0.symm.trans hx332_0); injection hv332_0 with hva_ hvn_ hvc_; rw [hva_] at ge332_0; rw [hvc_] at ul332_0; have HL332_0 := zM (show Kd.V (Kd.int .i64) 3 _ w.heap.size _ _ ((rd_T49 x9_1 (rd l2 x10_1)).f0) from Kd.V_mk ul332_0 ge332_0); clear hva_ hvn_ hvc_ ge332_0 ul332_0; clear hcc332 hce332; have HR332_0 := zM hi332_0; have HC332_0 := zM hl332_0; clear hi332_0 hl332_0; replace p332 := eq_true p332; replace q332 := eq_true q332) | ((with_reducible refine zG Try.func57 65 #[.slice Ao46 x8_1.length co46, .agg #[.slice A332_0 ((rd_T49 x9_1 (rd l2 x10_1)).f0).length c332_0, .int .i64 ((rd_T49 x9_1 (rd l2 x10_1)).f1), .int .i64 ((rd_T49 x9_1 (rd l2 x10_1)).f2)]] ?_); (with_reducible refine (spec_FlatStep.calls kj13 _ _ x8_1 _ _ ((rd_T49 x9_1 (rd l2 x10_1)).f0) ((rd_T49 x9_1 (rd l2 x10_1)).f1) ((rd_T49 x9_1 (rd l2 x10_1)).f2) t333 t336 t339 t340 _ ?side1 ?side2 ?side3 ?side4 A43.1).mono ?_); (case side1 => exact zC (Kd.R_reads' HO_8.1).2.2); (case side2 => exact (Kd.R_reads' HO_8.1).2.1); (case side3 => exact zC HR332_0.1); (case side4 => exact HC332_0.1); rintro e w51 ⟨v334, v337, rfl, ho0, ho1, hb⟩; refine ⟨_, rfl, ?_⟩; have n0_ := zM (Kd.R_below (zR HO_7.1) hb); have n1_ := zM (Kd.R_mono (Kd.R_told (Kd.R_told (Kd.R_old (zR HO_8.1) hb) (Kd.R_base ho0)) (Kd.R_base ho1)) (fun _ h_ => h_.1)); have n2_ := zM (Kd.N_mono (Kd.N_told (Kd.N_told (Kd.N_old (by refine zrN ?_; exact HO_9.1) hb) (Kd.R_base ho0)) (Kd.R_base ho1)) (fun _ h_ => h_.1)); have n3_ := zM (Kd.V_mono (Kd.V_told (Kd.V_told (Kd.V_old (by refine zrV ?_; exact HL310_0.1) hb) (Kd.R_base ho0)) (Kd.R_base ho1)) (fun _ h_ => h_.1)); have n4_ := zM (Kd.V_mono (Kd.V_told (Kd.V_told (Kd.V_old (by refine zrV ?_; exact HL332_0.1) hb) (Kd.R_base ho0)) (Kd.R_base ho1)) (fun _ h_ => h_.1)); have n5_ := zM (Kd.R_lower (Kd.R_new' (Kd.R_newM (M := fun k_ => (w.heap.size ≤ k_)) ho0 (below_size zB1) (fun k_ h_ => h_)) (Kd.R_lt (zR HO_8.1))) (below_size zB1)); have n6_ := zM (Kd.R_lower (Kd.R_new' (Kd.R_newM (M := fun k_ => (w.heap.size ≤ k_)) ho1 (below_size zB1) (fun k_ h_ => h_)) (Kd.R_lt (zR HO_8.1))) (below_size zB1)); have n8_ := zM (zb BK317.1 hb); have n9_ := zM (Kd.C_below (zC HR332_0.1) hb); have n10_ := zM (below_step zB1 hb); clear HO_7; clear HO_8; clear HO_9; clear HL310_0; clear HL332_0; clear BK317; clear HR332_0; clear HB; have HO_7 := n0_; have HO_8 := n1_; have HO_9 := n2_; have HL310_0 := n3_; have HL332_0 := n4_; have HO335 := n5_; have HO338 := n6_; have BK317 := n8_; have HR332_0 := n9_; have HB := n10_; clear n0_ n1_ n2_ n3_ n4_ n5_ n6_ n8_ n9_ n10_; clear hb ho0 ho1) | ((with_reducible refine gate_dst (N := 15) rfl ?_); (try (refine gate_guard (by rfl) ?_; dsimp only)); (with_reducible refine zBx 15 49 #[.slice none 0 0, .int .i64 0, .int .i64 0] ?_); intro gb341 hg w52 hbox hb; have n0_ := zM (Kd.R_below (zR HO_7.1) hb); have n1_ := zM (Kd.R_below (zR HO_8.1) hb); have n2_ := zM (Kd.N_below (Kd.N_elderB (by refine zrN ?_; exact HO_9.1) gb341 (Nat.le_of_eq hg.symm)) hb); have n3_ := zM (Kd.V_below (Kd.V_elderB (by refine zrV ?_; exact HL310_0.1) gb341 (Nat.le_of_eq hg.symm)) hb); have n4_ := zM (Kd.V_below (Kd.V_elderB (by refine zrV ?_; exact HL332_0.1) gb341 (Nat.le_of_eq hg.symm)) hb); have n5_ := zM (Kd.R_below (zR HO335.1) hb); have n6_ := zM (Kd.R_below (zR HO338.1) hb); have n8_ := zM (zb BK317.1 hb); have n9_ := zM (Kd.C_below (zC HR332_0.1) hb); have n10_ := zM (below_step zB1 hb); have n11_ := zM hbox; have n12_ := zM (zW hg (below_size zB1)); have n13_ := zM (zW hg (below_size zB1)); have n14_ := zM ((zn BK317.1 hg : gb317 ≠ gb341)); have n15_ := zM ((zm BK317.1 hg : gb341 ≠ gb317)); clear HO_7; clear HO_8; clear HO_9; clear HL310_0; clear HL332_0; clear HO335; clear HO338; clear BK317; clear HR332_0; clear HB; have HO_7 := n0_; have HO_8 := n1_; have HO_9 := n2_; have HL310_0 := n3_; have HL332_0 := n4_; have HO335 := n5_; have HO338 := n6_; have BK317 := n8_; have HR332_0 := n9_; have HB := n10_; have BK341 := n11_; have GW341 := n12_; have GE341 := n13_; have NB317_341 := n14_; have NB341_317 := n15_; clear n0_ n1_ n2_ n3_ n4_ n5_ n6_ n8_ n9_ n10_ n11_ n12_ n13_ n14_ n15_; clear hb hbox hg; obtain ⟨Ao53, co53, eo53⟩ := Kd.R_slice HO338.1; subst eo53; have hnb54 := NB341_317.1; have hnc54 := NB317_341.1; have hcz55 := zc_3 (w := w52) BK341.1) | ((with_reducible refine gate_store (t := 49) (p := 15) rfl ?_); refine store_event (t := 49) (p := 15) (v := ?vo_w56) (w1 := (((w52.setCell ⟨gb341, 0, none⟩ (.slice Ao53 t336.length co53)).setCell ⟨gb341, 1, none⟩ (.int .i64 t339)).setCell ⟨gb341, 2, none⟩ (.int .i64 t340))) ?hg ?ho ?hn ?hr ?_; (case ho => rfl); (case hg => rfl); (case hn => rfl); (case hr => exact zHH); intro w56 hw; have n0_ : Aside0 (Kd.R k31 31 w56 w.heap.size (fun k_ => (w.heap.size ≤ k_) ∧ k_ ≠ gb317) u7 x7_1) := ⟨(by rw [hw]; exact (by refine zrR ?_; exact Kd.R_mono (zfR (zfR (zfR (Kd.R_types HO_7.1 BK341.1 (by decide))))) (fun _ hk => ⟨hk.1.1, hk.1.2⟩)))⟩; have n1_ : Aside0 (Kd.R (Kd.int .i64) 3 w56 w.heap.size (fun k_ => (w.heap.size ≤ k_) ∧ some k_ ≠ (v334 : Value).ownBlock ∧ some k_ ≠ (.slice Ao53 t336.length co53 : Value).ownBlock) (.slice Ao46 x8_1.length co46) x8_1) := ⟨(by rw [hw]; exact (by refine zrR ?_; exact Kd.R_mono (zfR (zfR (zfR (Kd.R_types HO_8.1 BK341.1 (by decide))))) (fun _ hk => ⟨hk.1.1.1, ⟨hk.1.1.2, hk.1.2⟩⟩)))⟩; have n2_ : Aside0 (Kd.N k49 49 w56 w.heap.size (fun k_ => (P1_ k_ ∨ w.heap.size ≤ k_) ∧ some k_ ≠ (u7 : Value).ownBlock ∧ some k_ ≠ (.slice Ao46 x8_1.length co46 : Value).ownBlock ∧ some k_ ≠ (v334 : Value).ownBlock ∧ some k_ ≠ (.slice Ao53 t336.length co53 : Value).ownBlock ∧ k_ ≠ gb317 ∧ k_ ≠ gb341) (.slice (some ad310) x9_1.length co45) x9_1) := ⟨(by rw [hw]; exact (by refine zrN ?_; exact Kd.N_mono (zfN (zfN (zfN (Kd.N_mono HO_9.1 (fun k_ hk => (⟨hk, hk.2⟩ : _ ∧ k_ ≠ gb341)))))) (fun _ hk => ⟨hk.1.1.1.1.1, ⟨hk.1.1.1.1.2.1, ⟨hk.1.1.1.1.2.2.1, ⟨hk.1.1.1.2, ⟨hk.1.1.2, ⟨hk.1.1.1.1.2.2.2, hk.1.2⟩⟩⟩⟩⟩⟩)))⟩; have n3_ : Aside0 (Kd.V (Kd.int .i64) 3 w56 w.heap.size (fun k_ => (P1_ k_ ∨ w.heap.size ≤ k_) ∧ some k_ ≠ (u7 : Value).ownBlock ∧ some k_ ≠ (.slice Ao46 x8_1.length co46 : Value).ownBlock ∧ some k_ ≠ (.slice (some ad310) x9_1.length co45 : Value).ownBlock ∧ some k_ ≠ (v334 : Value).ownBlock ∧ some k_ ≠ (.slice Ao53 t336.length co53 : Value).ownBlock ∧ k_ ≠ gb317 ∧ k_ ≠ gb341) (.slice A310_0 ((rd_T49 x9_1 (rd l2 x10_1)).f0).length c310_0) ((rd_T49 x9_1 (rd l2 x10_1)).f0)) := ⟨(by rw [hw]; exact (by refine zrV ?_; exact Kd.V_mono (zfV (zfV (zfV (Kd.V_mono HL310_0.1 (fun k_ hk => (⟨hk, hk.2⟩ : _ ∧ k_ ≠ gb341)))))) (fun _ hk => ⟨hk.1.1.1.1.1, ⟨hk.1.1.1.1.2.1, ⟨hk.1.1.1.1.2.2.1, ⟨hk.1.1.1.1.2.2.2.1, ⟨hk.1.1.1.2, ⟨hk.1.1.2, ⟨hk.1.1.1.1.2.2.2.2, hk.1.2⟩⟩⟩⟩⟩⟩⟩)))⟩; have n4_ : Aside0 (Kd.V (Kd.int .i64) 3 w56 w.heap.size (fun k_ => (P1_ k_ ∨ w.heap.size ≤ k_) ∧ some k_ ≠ (u7 : Value).ownBlock ∧ some k_ ≠ (.slice Ao46 x8_1.length co46 : Value).ownBlock ∧ some k_ ≠ (.slice (some ad310) x9_1.length co45 : Value).ownBlock ∧ some k_ ≠ (v334 : Value).ownBlock ∧ some k_ ≠ (.slice Ao53 t336.length co53 : Value).ownBlock ∧ k_ ≠ gb317 ∧ k_ ≠ gb341) (.slice A332_0 ((rd_T49 x9_1 (rd l2 x10_1)).f0).length c332_0) ((rd_T49 x9_1 (rd l2 x10_1)).f0)) := ⟨(by rw [hw]; exact (by refine zrV ?_; exact Kd.V_mono (zfV (zfV (zfV (Kd.V_mono HL332_0.1 (fun k_ hk => (⟨hk, hk.2⟩ : _ ∧ k_ ≠ gb341)))))) (fun _ hk => ⟨hk.1.1.1.1.1.1, ⟨hk.1.1.1.1.1.2.1, ⟨hk.1.1.1.1.1.2.2.1, ⟨hk.1.1.1.1.2, ⟨hk.1.1.1.2, ⟨hk.1.1.2, ⟨hk.1.1.1.1.1.2.2.2, hk.1.2⟩⟩⟩⟩⟩⟩⟩)))⟩; have n5_ : Aside0 (Kd.R (Kd.int .i64) 3 w56 w.heap.size (fun k_ => (w.heap.size ≤ k_) ∧ some k_ ≠ (.slice Ao46 x8_1.length co46 : Value).ownBlock ∧ some k_ ≠ (.slice Ao53 t336.length co53 : Value).ownBlock) v334 t333) := ⟨(by rw [hw]; exact (by refine zrR ?_; exact Kd.R_mono (zfR (zfR (zfR (Kd.R_types HO335.1 BK341.1 (by decide))))) (fun _ hk => ⟨hk.1.1.1, ⟨hk.1.2, hk.1.1.2⟩⟩)))⟩; have n6_ : Aside0 (Kd.R (Kd.int .i64) 3 w56 w.heap.size (fun k_ => (w.heap.size ≤ k_) ∧ some k_ ≠ (.slice Ao46 x8_1.length co46 : Value).ownBlock ∧ some k_ ≠ (v334 : Value).ownBlock) (.slice Ao53 t336.length co53) t336) := ⟨(by rw [hw]; exact (by refine zrR ?_; exact Kd.R_mono (zfR (zfR (zfR (Kd.R_types HO338.1 BK341.1 (by decide))))) (fun _ hk => ⟨hk.1.1.1, ⟨hk.1.2, hk.1.1.2⟩⟩)))⟩; have n7_ : Aside0 (w56.heap[gb317]? = some (.cells #[.int .i64 t311, .int .i64 t312, .int .i64 t313, .int .i64 t314, .int .i64 t315] 31 (0, 0))) := ⟨(by rw [hw]; exact zPq)⟩; have n8_ : Aside0 (w56.heap[gb341]? = some (.cells #[.slice Ao53 t336.length co53, .int .i64 t339, .int .i64 t340] 49 (0, 0))) := ⟨(by rw [hw]; exact (by exact zp3 (zK BK341.1)))⟩; have n9_ : Aside0 (Below w.heap.size w w56) := ⟨(by rw [hw]; exact zB1)⟩; clear hw; clear HO_7; clear HO_8; clear HO_9; clear HL310_0; clear HL332_0; clear HO335; clear HO338; clear BK317; clear BK341; clear HB; have HO_7 := n0_; have HO_8 := n1_; have HO_9 := n2_; have HL310_0 := n3_; have HL332_0 := n4_; have HO335 := n5_; have HO338 := n6_; have BK317 := n7_; have BK341 := n8_; have HB := n9_; clear n0_ n1_ n2_ n3_ n4_ n5_ n6_ n7_ n8_ n9_; have hcz57 := zc_3 (w := w56) BK341.1; have p44 : 0 ≤ ((rd l2 x10_1) : Int) := zA; have q44 : ((rd l2 x10_1) : Int) < ((x9_1.length : Int) : Int) := zA; obtain ⟨go44, co44, eo44, gb44, gl44, cl44, HG44⟩ := Kd.N_form HO_9.1 (by omega); (first | cases eo44 | (injection eo44 with ea_ en_ ec_; (first | subst ea_ | (injection ea_ with ea_; subst ea_)); subst ec_; clear en_)); have GB44 := zM gb44; have GG44 := zM HG44; clear gb44 gl44 HG44; (first | simp only [add_plain] at hx310_0 | skip); (first | simp only [add_plain] at hx310_1 | skip); (first | simp only [add_plain] at hx310_2 | skip); (first | simp only [add_plain] at hx332_0 | skip); (first | simp only [add_plain] at hx332_1 | skip); (first | simp only [add_plain] at hx332_2 | skip); obtain ⟨ce44, hcl44, hM44, hcc44, hfr44⟩ := Kd.N_elem HO_9.1 z49 ((rd l2 x10_1) : Int) p44 q44; obtain ⟨ua44_0, uc44_0, rfl, ul44_0, ge44_0⟩ := k49_openF hM44; have hx44_0 : w56.cell? ⟨go44, ((rd l2 x10_1) : Int).toNat * 3, none⟩ = some (.slice ua44_0 ((rd_T49 x9_1 (rd l2 x10_1)).f0).length uc44_0) := hcc44 0 _ rfl; have hx44_1 : w56.cell? ⟨go44, ((rd l2 x10_1) : Int).toNat * 3 + 1, none⟩ = some (.int .i64 ((rd_T49 x9_1 (rd l2 x10_1)).f1)) := hcc44 1 _ rfl; have hx44_2 : w56.cell? ⟨go44, ((rd l2 x10_1) : Int).toNat * 3 + 2, none⟩ = some (.int .i64 ((rd_T49 x9_1 (rd l2 x10_1)).f2)) := hcc44 2 _ rfl; have hf44_0 : w56.frozen? ⟨go44, ((rd l2 x10_1) : Int).toNat * 3, none⟩ = false := hfr44 0; have hf44_1 : w56.frozen? ⟨go44, ((rd l2 x10_1) : Int).toNat * 3 + 1, none⟩ = false := hfr44 1; have hf44_2 : w56.frozen? ⟨go44, ((rd l2 x10_1) : Int).toNat * 3 + 2, none⟩ = false := hfr44 2; clear hcl44 hcc44 hfr44 hM44; replace p44 := eq_true p44; replace q44 := eq_true q44; have HX58 := zM (show Kd.N k49 49 w56 w.heap.size (fun k_ => (P1_ k_ ∨ w.heap.size ≤ k_) ∧ some k_ ≠ (u7 : Value).ownBlock ∧ some k_ ≠ (.slice Ao46 x8_1.length co46 : Value).ownBlock ∧ some k_ ≠ (v334 : Value).ownBlock ∧ k_ ≠ gb317 ∧ k_ ≠ gb341) (.slice (some ⟨go44, 0, none⟩) x9_1.length co45) x9_1 from (by refine zrN ?_; exact Kd.N_mono HO_9.1 (fun _ hk => ⟨hk.1, ⟨hk.2.1, ⟨hk.2.2.1, ⟨hk.2.2.2.1, ⟨hk.2.2.2.2.2.1, hk.2.2.2.2.2.2⟩⟩⟩⟩⟩))); obtain ⟨ce58, hcl58, hM58, hcc58, hfr58⟩ := Kd.N_elem HX58.out z49 ((rd l2 x10_1) : Int) zA (by have h_ : ((rd l2 x10_1) : Int) < ((x9_1.length : Int) : Int) := zA; first | exact h_ | (have e_ := (Kd.N_reads' HO_9.1).1; omega) | simpa using h_); obtain ⟨ua58_0, uc58_0, rfl, ul58_0, ge58_0⟩ := k49_openF hM58; have HP58 := Kd.N_seg HX58.out ((rd l2 x10_1) : Int) zA (by have h_ : ((rd l2 x10_1) : Int) < ((x9_1.length : Int) : Int) := zA; first | exact h_ | (have e_ := (Kd.N_reads' HO_9.1).1; omega) | simpa using h_) (seg := [.slice Ao53 t336.length co53, .int .i64 t339, .int .i64 t340]) (j := 0) hcl58 hcc58 (show 3 ≤ 3 from by decide) (x' := (⟨t336, t339, t340⟩ : S49)) (k49_mkF _ _ (⟨t336, t339, t340⟩ : S49) (Kd.R_reads' (Kd.R_mono (ok' := (fun k_ => ((fun k_ => (P1_ k_ ∨ w.heap.size ≤ k_) ∧ some k_ ≠ (u7 : Value).ownBlock ∧ some k_ ≠ (.slice Ao46 x8_1.length co46 : Value).ownBlock ∧ some k_ ≠ (v334 : Value).ownBlock ∧ k_ ≠ gb317 ∧ k_ ≠ gb341)) k_ ∧ k_ ≠ go44)) (Kd.R_types (Kd.R_types (Kd.R_apart' (Kd.R_apart' (HO338.1) (Kd.R_typed HO_7.1) (by decide)) (Kd.N_typed HO_9.1) (by decide)) BK317.1 (by decide)) BK341.1 (by decide)) (fun k_ hk => ⟨⟨(.inr (hk.1.1.1.1.1)), ⟨hk.1.1.1.2, ⟨hk.1.1.1.1.2.1, ⟨hk.1.1.1.1.2.2, ⟨hk.1.2, hk.2⟩⟩⟩⟩⟩, fun e_ => (hk.1.1.2) (by rw [e_]; rfl)⟩))).2.1 (Kd.R_F (Kd.R_mono (ok' := (fun k_ => ((fun k_ => (P1_ k_ ∨ w.heap.size ≤ k_) ∧ some k_ ≠ (u7 : Value).ownBlock ∧ some k_ ≠ (.slice Ao46 x8_1.length co46 : Value).ownBlock ∧ some k_ ≠ (v334 : Value).ownBlock ∧ k_ ≠ gb317 ∧ k_ ≠ gb341)) k_ ∧ k_ ≠ go44)) (Kd.R_types (Kd.R_types (Kd.R_apart' (Kd.R_apart' (HO338.1) (Kd.R_typed HO_7.1) (by decide)) (Kd.N_typed HO_9.1) (by decide)) BK317.1 (by decide)) BK341.1 (by decide)) (fun k_ hk => ⟨⟨(.inr (hk.1.1.1.1.1)), ⟨hk.1.1.1.2, ⟨hk.1.1.1.1.2.1, ⟨hk.1.1.1.1.2.2, ⟨hk.1.2, hk.2⟩⟩⟩⟩⟩, fun e_ => (hk.1.1.2) (by rw [e_]; rfl)⟩)))) (fun _ hk => hk); have hx58_0 := hcc58 0 _ rfl; (try simp only [show (k49).sz = 3 from rfl, Nat.mul_one, Nat.add_zero] at hx58_0); have hf58_0 := hfr58 0; (try simp only [show (k49).sz = 3 from rfl, Nat.mul_one, Nat.add_zero] at hf58_0); have hx58_1 := hcc58 1 _ rfl; (try simp only [show (k49).sz = 3 from rfl, Nat.mul_one, Nat.add_zero] at hx58_1); have hf58_1 := hfr58 1; (try simp only [show (k49).sz = 3 from rfl, Nat.mul_one, Nat.add_zero] at hf58_1); have hx58_2 := hcc58 2 _ rfl; (try simp only [show (k49).sz = 3 from rfl, Nat.mul_one, Nat.add_zero] at hx58_2); have hf58_2 := hfr58 2; (try simp only [show (k49).sz = 3 from rfl, Nat.mul_one, Nat.add_zero] at hf58_2); clear hcl58 hcc58 hfr58 hM58) | ((with_reducible refine gate_store (t := 49) (p := 72) rfl ?_); refine store_event (t := 49) (p := 72) (v := ?vo_w59) (w1 := (((w56.setCell ⟨go44, ((rd l2 x10_1) : Int).toNat * 3, none⟩ (.slice Ao53 t336.length co53)).setCell ⟨go44, ((rd l2 x10_1) : Int).toNat * 3 + 1, none⟩ (.int .i64 t339)).setCell ⟨go44, ((rd l2 x10_1) : Int).toNat * 3 + 2, none⟩ (.int .i64 t340))) ?hg ?ho ?hn ?hr ?_; (case ho => rfl); (case hg => rfl); (case hn => rfl); (case hr => exact zHH); intro w59 hw; have hg : w56.grownBy w59 (some go44) := (by rw [hw]; exact HP58.2); have hp_ : Kd.N k49 49 w59 w.heap.size (fun k_ => (P1_ k_ ∨ w.heap.size ≤ k_) ∧ some k_ ≠ (u7 : Value).ownBlock ∧ some k_ ≠ (.slice Ao46 x8_1.length co46 : Value).ownBlock ∧ some k_ ≠ (v334 : Value).ownBlock ∧ k_ ≠ gb317 ∧ k_ ≠ gb341) (.slice (some ⟨go44, 0, none⟩) x9_1.length co45) y342 := (by rw [hw, Ny342.1]; exact HP58.1); clear HP58; replace HO_7 := zM (Kd.R_over' (v := (.slice (some ⟨go44, 0, none⟩) x9_1.length co45)) (zR HO_7.1) (Kd.N_typed HO_9.1) (by decide) hg); replace HO_8 := zM (Kd.R_over' (v := (.slice (some ⟨go44, 0, none⟩) x9_1.length co45)) (zR HO_8.1) (Kd.N_typed HO_9.1) (by decide) hg); replace HL310_0 := zM (Kd.V_afterv (v := (.slice (some ⟨go44, 0, none⟩) x9_1.length co45)) (v1 := (.slice (some ⟨go44, 0, none⟩) x9_1.length co45)) (ok := (fun k_ => (P1_ k_ ∨ w.heap.size ≤ k_) ∧ some k_ ≠ (u7 : Value).ownBlock ∧ some k_ ≠ (.slice Ao46 x8_1.length co46 : Value).ownBlock ∧ some k_ ≠ (v334 : Value).ownBlock ∧ some k_ ≠ (.slice Ao53 t336.length co53 : Value).ownBlock ∧ k_ ≠ gb317 ∧ k_ ≠ gb341)) (by refine zrV ?_; exact Kd.V_mono HL310_0.1 (fun _ hk => ⟨⟨hk.1, ⟨hk.2.1, ⟨hk.2.2.1, ⟨hk.2.2.2.2.1, ⟨hk.2.2.2.2.2.1, ⟨hk.2.2.2.2.2.2.1, hk.2.2.2.2.2.2.2⟩⟩⟩⟩⟩⟩, hk.2.2.2.1⟩)) hg (.inl rfl)); replace BK317 := zM (zg BK317.1 hg (Kd.N_ne HO_9.1 BK317.1 (by decide))); replace HL332_0 := zM (Kd.V_afterv (v := (.slice (some ⟨go44, 0, none⟩) x9_1.length co45)) (v1 := (.slice (some ⟨go44, 0, none⟩) x9_1.length co45)) (ok := (fun k_ => (P1_ k_ ∨ w.heap.size ≤ k_) ∧ some k_ ≠ (u7 : Value).ownBlock ∧ some k_ ≠ (.slice Ao46 x8_1.length co46 : Value).ownBlock ∧ some k_ ≠ (v334 : Value).ownBlock ∧ some k_ ≠ (.slice Ao53 t336.length co53 : Value).ownBlock ∧ k_ ≠ gb317 ∧ k_ ≠ gb341)) (by refine zrV ?_; exact Kd.V_mono HL332_0.1 (fun _ hk => ⟨⟨hk.1, ⟨hk.2.1, ⟨hk.2.2.1, ⟨hk.2.2.2.2.1, ⟨hk.2.2.2.2.2.1, ⟨hk.2.2.2.2.2.2.1, hk.2.2.2.2.2.2.2⟩⟩⟩⟩⟩⟩, hk.2.2.2.1⟩)) hg (.inl rfl)); replace HO335 := zM (Kd.R_over' (v := (.slice (some ⟨go44, 0, none⟩) x9_1.length co45)) (zR HO335.1) (Kd.N_typed HO_9.1) (by decide) hg); replace BK341 := zM (zg BK341.1 hg (Kd.N_away HO_9.1 (fun _ hk => hk.2.2.2.2.2.2))); replace HO_9 := zM hp_; replace HB := zM ((by rw [hw]; exact below_set (below_set (below_set (HB.1) GB44.1) GB44.1) GB44.1 : Below w.heap.size w w59)); clear HO338; clear hg hw hp_))
      go_roundg kj13
      case measure => have := HK1.1; have := HJ13.1; omega
      case rel => exact ⟨(x7_1), (t333), (y342), (wrap64 (x10_1 + 1)), zJJ, H', ⟨by have := HK1.1; have := HJ13.1; omega⟩, ⟨by refine zrR ?_; exact Kd.R_mono HO_7.1 (fun _ hk => hk.1)⟩, ⟨by refine zrR ?_; exact Kd.R_mono HO335.1 (fun _ hk => hk.1)⟩, ⟨by refine zrN ?_; exact Kd.N_mono HO_9.1 (fun _ hk => ⟨hk.1, ⟨hk.2.1, hk.2.2.2.1⟩⟩)⟩, ⟨zB1⟩⟩
     subst c24
     rw [if_pos rfl] at H
     replace H := zIn H
     obtain ⟨LMc25, H⟩ := H
     generalize hy318 : ((x7_1 ++ [(⟨t311, t312, t313, t314, t315⟩ : S31)]) : List (S31)) = y318 at H
     have Ny318 := zM hy318.symm
     clear hy318
     replace H := zO H
     obtain ⟨⟨t322, t325, t328, t329⟩, A26, H⟩ := H
     try dsimp only at H
     generalize hy331 : ((x9_1.set ((rd l2 x10_1) : Int).toNat (⟨t325, t328, t329⟩ : S49)) : List (S49)) = y331 at H
     have Ny331 := zM hy331.symm
     clear hy331
     have H' := zM H
     clear H
     obtain ⟨p308, q308, ad308, e308, hx308_0⟩ := zRd (Kd.at_int HR2.1 x10_1)
     cases e308
     replace hx308_0 := zHx HB.1 hx308_0
     obtain ⟨Ao28, co28, eo28⟩ := Kd.N_slice HO_9.1
     subst eo28
     go_wp2_with (first | ((with_reducible refine zG Try.func44 42 #[.int .i64 (rd l2 x10_1), .int .i64 0, .int .i64 (wrap64 ((x9_1.length : Int) - 1))] ?_); (with_reducible refine (spec_l1In.calls (rd l2 x10_1) 0 (wrap64 ((x9_1.length : Int) - 1)) true _ A19.1).mono ?_); rintro e w' ⟨rfl, ⟨nd, rfl⟩⟩; refine ⟨_, rfl, ?_⟩; (try (rw [drewN_self wc]; generalize hq_ : World.drewN wc _ = wc; have n0_ : Aside0 (Kd.R k31 31 wc w.heap.size (fun k_ => (w.heap.size ≤ k_)) u7 x7_1) := ⟨by rw [← hq_]; exact (zR HO_7.1)⟩; have n1_ : Aside0 (Kd.R (Kd.int .i64) 3 wc w.heap.size (fun k_ => (w.heap.size ≤ k_)) u8 x8_1) := ⟨by rw [← hq_]; exact (zR HO_8.1)⟩; have n2_ : Aside0 (Kd.N k49 49 wc w.heap.size (fun k_ => (P1_ k_ ∨ w.heap.size ≤ k_) ∧ some k_ ≠ (u7 : Value).ownBlock ∧ some k_ ≠ (u8 : Value).ownBlock) (.slice Ao28 x9_1.length co28) x9_1) := ⟨by rw [← hq_]; exact (by refine zrN ?_; exact HO_9.1)⟩; have n3_ : Aside0 (Below w.heap.size w wc) := ⟨by rw [← hq_]; exact zB1⟩; clear HO_7 HO_8 HO_9 HB hq_; have HO_7 := n0_; have HO_8 := n1_; have HO_9 := n2_; have HB := n3_; clear n0_ n1_ n2_ n3_)); have p310 : 0 ≤ ((rd l2 x10_1) : Int) := zA; have q310 : (rd l2 x10_1) < (x9_1.length : Int) := zA; obtain ⟨ad310, A310_0, c310_0, e310, hx310_0, hx310_1, hx310_2, hl310_0, hi310_0⟩ := at_T49 (Kd.N_reads' HO_9.1).2.2 (rd l2 x10_1) p310 q310; cases e310; obtain ⟨ce310, hce310, hMe310, hcc310⟩ := Kd.N_get HO_9.1 z49 (rd l2 x10_1) p310 (by first | exact q310 | exact zA | (have e_ := (Kd.N_reads' HO_9.1).1; omega)); obtain ⟨ua310_0, uc310_0, rfl, ul310_0, ge310_0⟩ := k49_openF hMe310; have hv310_0 := hcc310 0 _ rfl; rw [Nat.add_zero] at hv310_0; replace hv310_0 := Option.some.inj (hv310_0.symm.trans hx310_0); injection hv310_0 with hva_ hvn_ hvc_; rw [hva_] at ge310_0; rw [hvc_] at ul310_0; have HL310_0 := zM (show Kd.V (Kd.int .i64) 3 _ w.heap.size _ _ ((rd_T49 x9_1 (rd l2 x10_1)).f0) from Kd.V_mk ul310_0 ge310_0); clear hva_ hvn_ hvc_ ge310_0 ul310_0; clear hcc310 hce310; have HR310_0 := zM hi310_0; have HC310_0 := zM hl310_0; clear hi310_0 hl310_0; replace p310 := eq_true p310; replace q310 := eq_true q310; obtain ⟨Ao29, co29, eo29⟩ := Kd.R_slice HO_8.1; subst eo29) | ((with_reducible refine zG Try.func56 51 #[.slice Ao29 x8_1.length co29, .agg #[.slice A310_0 ((rd_T49 x9_1 (rd l2 x10_1)).f0).length c310_0, .int .i64 ((rd_T49 x9_1 (rd l2 x10_1)).f1), .int .i64 ((rd_T49 x9_1 (rd l2 x10_1)).f2)], .int .i64 (rd l2 x10_1)] ?_); (with_reducible refine (spec_EventOf.calls kj13 _ _ x8_1 _ _ ((rd_T49 x9_1 (rd l2 x10_1)).f0) ((rd_T49 x9_1 (rd l2 x10_1)).f1) ((rd_T49 x9_1 (rd l2 x10_1)).f2) (rd l2 x10_1) t311 t312 t313 t314 t315 true _ ?side1 ?side2 ?side3 ?side4 A23.1).mono ?_); (case side1 => exact zC (Kd.R_reads' HO_8.1).2.2); (case side2 => exact (Kd.R_reads' HO_8.1).2.1); (case side3 => exact zC HR310_0.1); (case side4 => exact HC310_0.1); rintro e w30 ⟨rfl, hb⟩; refine ⟨_, rfl, ?_⟩; have n0_ := zM (Kd.R_below (zR HO_7.1) hb); have n1_ := zM (Kd.R_below (zR HO_8.1) hb); have n2_ := zM (Kd.N_below (by refine zrN ?_; exact HO_9.1) hb); have n3_ := zM (Kd.V_below (by refine zrV ?_; exact HL310_0.1) hb); have n5_ := zM (below_step zB1 hb); clear HO_7; clear HO_8; clear HO_9; clear HL310_0; clear HB; have HO_7 := n0_; have HO_8 := n1_; have HO_9 := n2_; have HL310_0 := n3_; have HB := n5_; clear n0_ n1_ n2_ n3_ n5_; clear hb) | ((with_reducible refine gate_dst (N := 12) rfl ?_); (try (refine gate_guard (by rfl) ?_; dsimp only)); (with_reducible refine zBx 12 31 #[.int .i64 0, .int .i64 0, .int .i64 0, .int .i64 0, .int .i64 0] ?_); intro gb317 hg w31 hbox hb; have n0_ := zM (Kd.R_below (Kd.R_elderB (zR HO_7.1) gb317 (Nat.le_of_eq hg.symm)) hb); have n1_ := zM (Kd.R_below (zR HO_8.1) hb); have n2_ := zM (Kd.N_below (Kd.N_elderB (by refine zrN ?_; exact HO_9.1) gb317 (Nat.le_of_eq hg.symm)) hb); have n3_ := zM (Kd.V_below (Kd.V_elderB (by refine zrV ?_; exact HL310_0.1) gb317 (Nat.le_of_eq hg.symm)) hb); have n5_ := zM (below_step zB1 hb); have n6_ := zM hbox; have n7_ := zM (zW hg (below_size zB1)); have n8_ := zM (zW hg (below_size zB1)); clear HO_7; clear HO_8; clear HO_9; clear HL310_0; clear HB; have HO_7 := n0_; have HO_8 := n1_; have HO_9 := n2_; have HL310_0 := n3_; have HB := n5_; have BK317 := n6_; have GW317 := n7_; have GE317 := n8_; clear n0_ n1_ n2_ n3_ n5_ n6_ n7_ n8_; clear hb hbox hg; have hcz32 := zc_5 (w := w31) BK317.1) | ((with_reducible refine gate_builtin (b := .append) (xs := #[.tmp 55, .tmp 57]) rfl ?_); (try (refine gate_guard (by rfl) ?_; dsimp only)); at_builtin; refine Kd.R_append k31 (w0 := w) w.heap.size rfl (.tmp 55) (.tmp 57) 24 31 (.agg #[(.int .i64 0), (.int .i64 0), (.int .i64 0), (.int .i64 0), (.int .i64 0)]) 40 rfl Try.underlying24 info31 rfl (by decide) (by omega) u7 x7_1 (⟨t311, t312, t313, t314, t315⟩ : S31) [.int .i64 t311, .int .i64 t312, .int .i64 t313, .int .i64 t314, .int .i64 t315] (fun k_ => (w.heap.size ≤ k_) ∧ k_ ≠ gb317) (fun _ => False) rfl (by first | (go_simp; done) | (go_simp; rfl)) ?aP (fun _ hk => hk.elim) ?aF ?aO ?aB ?aS ?aL ?_; (case aP => exact k31_mkM _ _ _ (⟨t311, t312, t313, t314, t315⟩ : S31)); (case aB => exact zB1); (case aF => exact (fun k_ hk => ⟨(Nat.le_trans (below_size zB1) hk), Kd.freshB (g := gb317) (o := .cells #[.int .i64 t311, .int .i64 t312, .int .i64 t313, .int .i64 t314, .int .i64 t315] 31 (0, 0)) (by exact zp5 (zK BK317.1)) k_ hk⟩)); (case aO => exact (by refine zrR ?_; exact Kd.R_mono (zfR (zfR (zfR (zfR (zfR (Kd.R_mono HO_7.1 (fun k_ hk => (⟨hk, hk.2⟩ : _ ∧ k_ ≠ gb317)))))))) (fun _ hk => ⟨hk.1.1, hk.1.2⟩))); (case aS => exact (below_size zB1)); (case aL => have := LMc25.out; omega); intro v319 w33 ho hb hg hat; rw [← Ny318.1] at ho; replace HO_8 := zM (Kd.R_over' (by refine zrR ?_; exact (Kd.R_mono (zfR (zfR (zfR (zfR (zfR (Kd.R_types HO_8.1 BK317.1 (by decide))))))) (fun _ h_ => h_.1))) (Kd.R_typed (by refine zrR ?_; exact (Kd.R_mono (zfR (zfR (zfR (zfR (zfR (Kd.R_mono HO_7.1 (fun k_ hk => (⟨hk, hk.2⟩ : _ ∧ k_ ≠ gb317)))))))) (fun _ h_ => h_.1)))) (by decide) hg); replace HO_9 := zM (Kd.N_afterv (ok := (fun k_ => (P1_ k_ ∨ w.heap.size ≤ k_) ∧ some k_ ≠ (.slice Ao29 x8_1.length co29 : Value).ownBlock ∧ k_ ≠ gb317)) (by refine zrN ?_; exact Kd.N_mono (zfN (zfN (zfN (zfN (zfN (Kd.N_mono HO_9.1 (fun k_ hk => (⟨hk, hk.2⟩ : _ ∧ k_ ≠ gb317)))))))) (fun _ hk => ⟨⟨hk.1.1.1, ⟨hk.1.1.2.2, hk.1.2⟩⟩, hk.1.1.2.1⟩)) hg hat); replace HL310_0 := zM (Kd.V_afterv (ok := (fun k_ => (P1_ k_ ∨ w.heap.size ≤ k_) ∧ some k_ ≠ (.slice Ao29 x8_1.length co29 : Value).ownBlock ∧ some k_ ≠ (.slice (some ad310) x9_1.length co28 : Value).ownBlock ∧ k_ ≠ gb317)) (by refine zrV ?_; exact Kd.V_mono (zfV (zfV (zfV (zfV (zfV (Kd.V_mono HL310_0.1 (fun k_ hk => (⟨hk, hk.2⟩ : _ ∧ k_ ≠ gb317)))))))) (fun _ hk => ⟨⟨hk.1.1.1.1, ⟨hk.1.1.1.2.2, ⟨hk.1.1.2, hk.1.2⟩⟩⟩, hk.1.1.1.2.1⟩)) hg hat); replace BK317 := zM (blk_grown (g := gb317) (o := .cells #[.int .i64 t311, .int .i64 t312, .int .i64 t313, .int .i64 t314, .int .i64 t315] 31 (0, 0)) (by exact zp5 (zK BK317.1)) hg (Kd.R_away HO_7.1 (fun _ hk => hk.2))); replace HB := zM hb; have HO320 := zM ho; clear HO_7; clear ho hb hg hat; have p321 : 0 ≤ ((rd l2 x10_1) : Int) := zA; have q321 : (rd l2 x10_1) < (x9_1.length : Int) := zA; obtain ⟨ad321, A321_0, c321_0, e321, hx321_0, hx321_1, hx321_2, hl321_0, hi321_0⟩ := at_T49 (Kd.N_reads' HO_9.1).2.2 (rd l2 x10_1) p321 q321; obtain rfl : ad310 = ad321 := (by injection e321); obtain ⟨ce321, hce321, hMe321, hcc321⟩ := Kd.N_get HO_9.1 z49 (rd l2 x10_1) p321 (by first | exact q321 | exact zA | (have e_ := (Kd.N_reads' HO_9.1).1; omega)); obtain ⟨ua321_0, uc321_0, rfl, ul321_0, ge321_0⟩ := k49_openF hMe321; have hv321_0 := hcc321 0 _ rfl; rw [Nat.add_zero] at hv321_0; replace hv321_0 := Option.some.inj (hv321_0.symm.trans hx321_0); injection hv321_0 with hva_ hvn_ hvc_; rw [hva_] at ge321_0; rw [hvc_] at ul321_0; have HL321_0 := zM (show Kd.V (Kd.int .i64) 3 _ w.heap.size _ _ ((rd_T49 x9_1 (rd l2 x10_1)).f0) from Kd.V_mk ul321_0 ge321_0); clear hva_ hvn_ hvc_ ge321_0 ul321_0; clear hcc321 hce321; have HR321_0 := zM hi321_0; have HC321_0 := zM hl321_0; clear hi321_0 hl321_0; replace p321 := eq_true p321; replace q321 := eq_true q321) | ((with_reducible refine zG Try.func57 65 #[.slice Ao29 x8_1.length co29, .agg #[.slice A321_0 ((rd_T49 x9_1 (rd l2 x10_1)).f0).length c321_0, .int .i64 ((rd_T49 x9_1 (rd l2 x10_1)).f1), .int .i64 ((rd_T49 x9_1 (rd l2 x10_1)).f2)]] ?_); (with_reducible refine (spec_FlatStep.calls kj13 _ _ x8_1 _ _ ((rd_T49 x9_1 (rd l2 x10_1)).f0) ((rd_T49 x9_1 (rd l2 x10_1)).f1) ((rd_T49 x9_1 (rd l2 x10_1)).f2) t322 t325 t328 t329 _ ?side1 ?side2 ?side3 ?side4 A26.1).mono ?_); (case side1 => exact zC (Kd.R_reads' HO_8.1).2.2); (case side2 => exact (Kd.R_reads' HO_8.1).2.1); (case side3 => exact zC HR321_0.1); (case side4 => exact HC321_0.1); rintro e w34 ⟨v323, v326, rfl, ho0, ho1, hb⟩; refine ⟨_, rfl, ?_⟩; replace HO_9 := zM (Kd.N_mono (Kd.N_told (Kd.N_told (Kd.N_old (by refine zrN ?_; exact HO_9.1) hb) (Kd.R_base ho0)) (Kd.R_base ho1)) (fun _ h_ => h_.1)); replace HL310_0 := zM (Kd.V_mono (Kd.V_told (Kd.V_told (Kd.V_old (by refine zrV ?_; exact HL310_0.1) hb) (Kd.R_base ho0)) (Kd.R_base ho1)) (fun _ h_ => h_.1)); replace HO320 := zM (Kd.R_below (zR HO320.1) hb); replace HL321_0 := zM (Kd.V_mono (Kd.V_told (Kd.V_told (Kd.V_old (by refine zrV ?_; exact HL321_0.1) hb) (Kd.R_base ho0)) (Kd.R_base ho1)) (fun _ h_ => h_.1)); have HO324 := zM (Kd.R_lower (Kd.R_new' (Kd.R_newM (M := fun k_ => (w.heap.size ≤ k_)) ho0 (below_size zB1) (fun k_ h_ => h_)) (Kd.R_lt (zR HO_8.1))) (below_size zB1)); have HO327 := zM (Kd.R_lower (Kd.R_new' (Kd.R_newM (M := fun k_ => (w.heap.size ≤ k_)) ho1 (below_size zB1) (fun k_ h_ => h_)) (Kd.R_lt (zR HO_8.1))) (below_size zB1)); replace HO_8 := zM (Kd.R_mono (Kd.R_told (Kd.R_told (Kd.R_old (zR HO_8.1) hb) (Kd.R_base ho0)) (Kd.R_base ho1)) (fun _ h_ => h_.1)); replace BK317 := zM (zb BK317.1 hb); replace HR321_0 := zM (Kd.C_below (zC HR321_0.1) hb); replace HB := zM (below_step zB1 hb); clear hb ho0 ho1) | ((with_reducible refine gate_dst (N := 15) rfl ?_); (try (refine gate_guard (by rfl) ?_; dsimp only)); (with_reducible refine zBx 15 49 #[.slice none 0 0, .int .i64 0, .int .i64 0] ?_); intro gb330 hg w35 hbox hb; replace HO_8 := zM (Kd.R_below (zR HO_8.1) hb); replace HO_9 := zM (Kd.N_below (Kd.N_elderB (by refine zrN ?_; exact HO_9.1) gb330 (Nat.le_of_eq hg.symm)) hb); replace HL310_0 := zM (Kd.V_below (Kd.V_elderB (by refine zrV ?_; exact HL310_0.1) gb330 (Nat.le_of_eq hg.symm)) hb); replace HO320 := zM (Kd.R_below (zR HO320.1) hb); replace HL321_0 := zM (Kd.V_below (Kd.V_elderB (by refine zrV ?_; exact HL321_0.1) gb330 (Nat.le_of_eq hg.symm)) hb); replace HO324 := zM (Kd.R_below (zR HO324.1) hb); replace HO327 := zM (Kd.R_below (zR HO327.1) hb); replace HR321_0 := zM (Kd.C_below (zC HR321_0.1) hb); have BK330 := zM hbox; have GW330 := zM (zW hg (below_size zB1)); have GE330 := zM (zW hg (below_size zB1)); replace HB := zM (below_step zB1 hb); have NB317_330 := zM ((zn BK317.1 hg : gb317 ≠ gb330)); have NB330_317 := zM ((zm BK317.1 hg : gb330 ≠ gb317)); replace BK317 := zM (zb BK317.1 hb); clear hb hbox hg; obtain ⟨Ao36, co36, eo36⟩ := Kd.R_slice HO327.1; subst eo36; have hnb37 := NB330_317.1; have hnc37 := NB317_330.1; have hcz38 := zc_3 (w := w35) BK330.1) | ((with_reducible refine gate_store (t := 49) (p := 15) rfl ?_); refine store_event (t := 49) (p := 15) (v := ?vo_w39) (w1 := (((w35.setCell ⟨gb330, 0, none⟩ (.slice Ao36 t325.length co36)).setCell ⟨gb330, 1, none⟩ (.int .i64 t328)).setCell ⟨gb330, 2, none⟩ (.int .i64 t329))) ?hg ?ho ?hn ?hr ?_; (case ho => rfl); (case hg => rfl); (case hn => rfl); (case hr => exact zHH); intro w39 hw; have n0_ : Aside0 (Kd.R (Kd.int .i64) 3 w39 w.heap.size (fun k_ => (w.heap.size ≤ k_) ∧ some k_ ≠ (v323 : Value).ownBlock ∧ some k_ ≠ (.slice Ao36 t325.length co36 : Value).ownBlock) (.slice Ao29 x8_1.length co29) x8_1) := ⟨(by rw [hw]; exact (by refine zrR ?_; exact Kd.R_mono (zfR (zfR (zfR (Kd.R_types HO_8.1 BK330.1 (by decide))))) (fun _ hk => ⟨hk.1.1.1, ⟨hk.1.1.2, hk.1.2⟩⟩)))⟩; have n1_ : Aside0 (Kd.N k49 49 w39 w.heap.size (fun k_ => (P1_ k_ ∨ w.heap.size ≤ k_) ∧ some k_ ≠ (.slice Ao29 x8_1.length co29 : Value).ownBlock ∧ some k_ ≠ (v319 : Value).ownBlock ∧ some k_ ≠ (v323 : Value).ownBlock ∧ some k_ ≠ (.slice Ao36 t325.length co36 : Value).ownBlock ∧ k_ ≠ gb317 ∧ k_ ≠ gb330) (.slice (some ad310) x9_1.length co28) x9_1) := ⟨(by rw [hw]; exact (by refine zrN ?_; exact Kd.N_mono (zfN (zfN (zfN (Kd.N_mono HO_9.1 (fun k_ hk => (⟨hk, hk.2⟩ : _ ∧ k_ ≠ gb330)))))) (fun _ hk => ⟨hk.1.1.1.1.1.1, ⟨hk.1.1.1.1.1.2.1, ⟨hk.1.1.1.1.2, ⟨hk.1.1.1.2, ⟨hk.1.1.2, ⟨hk.1.1.1.1.1.2.2, hk.1.2⟩⟩⟩⟩⟩⟩)))⟩; have n2_ : Aside0 (Kd.V (Kd.int .i64) 3 w39 w.heap.size (fun k_ => (P1_ k_ ∨ w.heap.size ≤ k_) ∧ some k_ ≠ (.slice Ao29 x8_1.length co29 : Value).ownBlock ∧ some k_ ≠ (.slice (some ad310) x9_1.length co28 : Value).ownBlock ∧ some k_ ≠ (v319 : Value).ownBlock ∧ some k_ ≠ (v323 : Value).ownBlock ∧ some k_ ≠ (.slice Ao36 t325.length co36 : Value).ownBlock ∧ k_ ≠ gb317 ∧ k_ ≠ gb330) (.slice A310_0 ((rd_T49 x9_1 (rd l2 x10_1)).f0).length c310_0) ((rd_T49 x9_1 (rd l2 x10_1)).f0)) := ⟨(by rw [hw]; exact (by refine zrV ?_; exact Kd.V_mono (zfV (zfV (zfV (Kd.V_mono HL310_0.1 (fun k_ hk => (⟨hk, hk.2⟩ : _ ∧ k_ ≠ gb330)))))) (fun _ hk => ⟨hk.1.1.1.1.1.1, ⟨hk.1.1.1.1.1.2.1, ⟨hk.1.1.1.1.1.2.2.1, ⟨hk.1.1.1.1.2, ⟨hk.1.1.1.2, ⟨hk.1.1.2, ⟨hk.1.1.1.1.1.2.2.2, hk.1.2⟩⟩⟩⟩⟩⟩⟩)))⟩; have n3_ : Aside0 (Kd.R k31 31 w39 w.heap.size (fun k_ => (w.heap.size ≤ k_) ∧ k_ ≠ gb317) v319 y318) := ⟨(by rw [hw]; exact (by refine zrR ?_; exact Kd.R_mono (zfR (zfR (zfR (Kd.R_types HO320.1 BK330.1 (by decide))))) (fun _ hk => ⟨hk.1.1, hk.1.2⟩)))⟩; have n4_ : Aside0 (Kd.V (Kd.int .i64) 3 w39 w.heap.size (fun k_ => (P1_ k_ ∨ w.heap.size ≤ k_) ∧ some k_ ≠ (.slice Ao29 x8_1.length co29 : Value).ownBlock ∧ some k_ ≠ (.slice (some ad310) x9_1.length co28 : Value).ownBlock ∧ some k_ ≠ (v319 : Value).ownBlock ∧ some k_ ≠ (v323 : Value).ownBlock ∧ some k_ ≠ (.slice Ao36 t325.length co36 : Value).ownBlock ∧ k_ ≠ gb317 ∧ k_ ≠ gb330) (.slice A321_0 ((rd_T49 x9_1 (rd l2 x10_1)).f0).length c321_0) ((rd_T49 x9_1 (rd l2 x10_1)).f0)) := ⟨(by rw [hw]; exact (by refine zrV ?_; exact Kd.V_mono (zfV (zfV (zfV (Kd.V_mono HL321_0.1 (fun k_ hk => (⟨hk, hk.2⟩ : _ ∧ k_ ≠ gb330)))))) (fun _ hk => ⟨hk.1.1.1.1.1.1.1, ⟨hk.1.1.1.1.1.1.2.1, ⟨hk.1.1.1.1.2, ⟨hk.1.1.1.1.1.2, ⟨hk.1.1.1.2, ⟨hk.1.1.2, ⟨hk.1.1.1.1.1.1.2.2, hk.1.2⟩⟩⟩⟩⟩⟩⟩)))⟩; have n5_ : Aside0 (Kd.R (Kd.int .i64) 3 w39 w.heap.size (fun k_ => (w.heap.size ≤ k_) ∧ some k_ ≠ (.slice Ao29 x8_1.length co29 : Value).ownBlock ∧ some k_ ≠ (.slice Ao36 t325.length co36 : Value).ownBlock) v323 t322) := ⟨(by rw [hw]; exact (by refine zrR ?_; exact Kd.R_mono (zfR (zfR (zfR (Kd.R_types HO324.1 BK330.1 (by decide))))) (fun _ hk => ⟨hk.1.1.1, ⟨hk.1.2, hk.1.1.2⟩⟩)))⟩; have n6_ : Aside0 (Kd.R (Kd.int .i64) 3 w39 w.heap.size (fun k_ => (w.heap.size ≤ k_) ∧ some k_ ≠ (.slice Ao29 x8_1.length co29 : Value).ownBlock ∧ some k_ ≠ (v323 : Value).ownBlock) (.slice Ao36 t325.length co36) t325) := ⟨(by rw [hw]; exact (by refine zrR ?_; exact Kd.R_mono (zfR (zfR (zfR (Kd.R_types HO327.1 BK330.1 (by decide))))) (fun _ hk => ⟨hk.1.1.1, ⟨hk.1.2, hk.1.1.2⟩⟩)))⟩; have n7_ : Aside0 (w39.heap[gb317]? = some (.cells #[.int .i64 t311, .int .i64 t312, .int .i64 t313, .int .i64 t314, .int .i64 t315] 31 (0, 0))) := ⟨(by rw [hw]; exact zPq)⟩; have n8_ : Aside0 (w39.heap[gb330]? = some (.cells #[.slice Ao36 t325.length co36, .int .i64 t328, .int .i64 t329] 49 (0, 0))) := ⟨(by rw [hw]; exact (by exact zp3 (zK BK330.1)))⟩; have n9_ : Aside0 (Below w.heap.size w w39) := ⟨(by rw [hw]; exact zB1)⟩; clear hw; clear HO_8; clear HO_9; clear HL310_0; clear HO320; clear HL321_0; clear HO324; clear HO327; clear BK317; clear BK330; clear HB; have HO_8 := n0_; have HO_9 := n1_; have HL310_0 := n2_; have HO320 := n3_; have HL321_0 := n4_; have HO324 := n5_; have HO327 := n6_; have BK317 := n7_; have BK330 := n8_; have HB := n9_; clear n0_ n1_ n2_ n3_ n4_ n5_ n6_ n7_ n8_ n9_; have hcz40 := zc_3 (w := w39) BK330.1; have p27 : 0 ≤ ((rd l2 x10_1) : Int) := zA; have q27 : ((rd l2 x10_1) : Int) < ((x9_1.length : Int) : Int) := zA; obtain ⟨go27, co27, eo27, gb27, gl27, cl27, HG27⟩ := Kd.N_form HO_9.1 (by omega); (first | cases eo27 | (injection eo27 with ea_ en_ ec_; (first | subst ea_ | (injection ea_ with ea_; subst ea_)); subst ec_; clear en_)); have GB27 := zM gb27; have GG27 := zM HG27; clear gb27 gl27 HG27; (first | simp only [add_plain] at hx310_0 | skip); (first | simp only [add_plain] at hx310_1 | skip); (first | simp only [add_plain] at hx310_2 | skip); (first | simp only [add_plain] at hx321_0 | skip); (first | simp only [add_plain] at hx321_1 | skip); (first | simp only [add_plain] at hx321_2 | skip); obtain ⟨ce27, hcl27, hM27, hcc27, hfr27⟩ := Kd.N_elem HO_9.1 z49 ((rd l2 x10_1) : Int) p27 q27; obtain ⟨ua27_0, uc27_0, rfl, ul27_0, ge27_0⟩ := k49_openF hM27; have hx27_0 : w39.cell? ⟨go27, ((rd l2 x10_1) : Int).toNat * 3, none⟩ = some (.slice ua27_0 ((rd_T49 x9_1 (rd l2 x10_1)).f0).length uc27_0) := hcc27 0 _ rfl; have hx27_1 : w39.cell? ⟨go27, ((rd l2 x10_1) : Int).toNat * 3 + 1, none⟩ = some (.int .i64 ((rd_T49 x9_1 (rd l2 x10_1)).f1)) := hcc27 1 _ rfl; have hx27_2 : w39.cell? ⟨go27, ((rd l2 x10_1) : Int).toNat * 3 + 2, none⟩ = some (.int .i64 ((rd_T49 x9_1 (rd l2 x10_1)).f2)) := hcc27 2 _ rfl; have hf27_0 : w39.frozen? ⟨go27, ((rd l2 x10_1) : Int).toNat * 3, none⟩ = false := hfr27 0; have hf27_1 : w39.frozen? ⟨go27, ((rd l2 x10_1) : Int).toNat * 3 + 1, none⟩ = false := hfr27 1; have hf27_2 : w39.frozen? ⟨go27, ((rd l2 x10_1) : Int).toNat * 3 + 2, none⟩ = false := hfr27 2; clear hcl27 hcc27 hfr27 hM27; replace p27 := eq_true p27; replace q27 := eq_true q27; have HX41 := zM (show Kd.N k49 49 w39 w.heap.size (fun k_ => (P1_ k_ ∨ w.heap.size ≤ k_) ∧ some k_ ≠ (.slice Ao29 x8_1.length co29 : Value).ownBlock ∧ some k_ ≠ (v319 : Value).ownBlock ∧ some k_ ≠ (v323 : Value).ownBlock ∧ k_ ≠ gb317 ∧ k_ ≠ gb330) (.slice (some ⟨go27, 0, none⟩) x9_1.length co28) x9_1 from (by refine zrN ?_; exact Kd.N_mono HO_9.1 (fun _ hk => ⟨hk.1, ⟨hk.2.1, ⟨hk.2.2.1, ⟨hk.2.2.2.1, ⟨hk.2.2.2.2.2.1, hk.2.2.2.2.2.2⟩⟩⟩⟩⟩))); obtain ⟨ce41, hcl41, hM41, hcc41, hfr41⟩ := Kd.N_elem HX41.out z49 ((rd l2 x10_1) : Int) zA (by have h_ : ((rd l2 x10_1) : Int) < ((x9_1.length : Int) : Int) := zA; first | exact h_ | (have e_ := (Kd.N_reads' HO_9.1).1; omega) | simpa using h_); obtain ⟨ua41_0, uc41_0, rfl, ul41_0, ge41_0⟩ := k49_openF hM41; have HP41 := Kd.N_seg HX41.out ((rd l2 x10_1) : Int) zA (by have h_ : ((rd l2 x10_1) : Int) < ((x9_1.length : Int) : Int) := zA; first | exact h_ | (have e_ := (Kd.N_reads' HO_9.1).1; omega) | simpa using h_) (seg := [.slice Ao36 t325.length co36, .int .i64 t328, .int .i64 t329]) (j := 0) hcl41 hcc41 (show 3 ≤ 3 from by decide) (x' := (⟨t325, t328, t329⟩ : S49)) (k49_mkF _ _ (⟨t325, t328, t329⟩ : S49) (Kd.R_reads' (Kd.R_mono (ok' := (fun k_ => ((fun k_ => (P1_ k_ ∨ w.heap.size ≤ k_) ∧ some k_ ≠ (.slice Ao29 x8_1.length co29 : Value).ownBlock ∧ some k_ ≠ (v319 : Value).ownBlock ∧ some k_ ≠ (v323 : Value).ownBlock ∧ k_ ≠ gb317 ∧ k_ ≠ gb330)) k_ ∧ k_ ≠ go27)) (Kd.R_types (Kd.R_types (Kd.R_apart' (Kd.R_apart' (HO327.1) (Kd.R_typed HO320.1) (by decide)) (Kd.N_typed HO_9.1) (by decide)) BK317.1 (by decide)) BK330.1 (by decide)) (fun k_ hk => ⟨⟨(.inr (hk.1.1.1.1.1)), ⟨hk.1.1.1.1.2.1, ⟨hk.1.1.1.2, ⟨hk.1.1.1.1.2.2, ⟨hk.1.2, hk.2⟩⟩⟩⟩⟩, fun e_ => (hk.1.1.2) (by rw [e_]; rfl)⟩))).2.1 (Kd.R_F (Kd.R_mono (ok' := (fun k_ => ((fun k_ => (P1_ k_ ∨ w.heap.size ≤ k_) ∧ some k_ ≠ (.slice Ao29 x8_1.length co29 : Value).ownBlock ∧ some k_ ≠ (v319 : Value).ownBlock ∧ some k_ ≠ (v323 : Value).ownBlock ∧ k_ ≠ gb317 ∧ k_ ≠ gb330)) k_ ∧ k_ ≠ go27)) (Kd.R_types (Kd.R_types (Kd.R_apart' (Kd.R_apart' (HO327.1) (Kd.R_typed HO320.1) (by decide)) (Kd.N_typed HO_9.1) (by decide)) BK317.1 (by decide)) BK330.1 (by decide)) (fun k_ hk => ⟨⟨(.inr (hk.1.1.1.1.1)), ⟨hk.1.1.1.1.2.1, ⟨hk.1.1.1.2, ⟨hk.1.1.1.1.2.2, ⟨hk.1.2, hk.2⟩⟩⟩⟩⟩, fun e_ => (hk.1.1.2) (by rw [e_]; rfl)⟩)))) (fun _ hk => hk); have hx41_0 := hcc41 0 _ rfl; (try simp only [show (k49).sz = 3 from rfl, Nat.mul_one, Nat.add_zero] at hx41_0); have hf41_0 := hfr41 0; (try simp only [show (k49).sz = 3 from rfl, Nat.mul_one, Nat.add_zero] at hf41_0); have hx41_1 := hcc41 1 _ rfl; (try simp only [show (k49).sz = 3 from rfl, Nat.mul_one, Nat.add_zero] at hx41_1); have hf41_1 := hfr41 1; (try simp only [show (k49).sz = 3 from rfl, Nat.mul_one, Nat.add_zero] at hf41_1); have hx41_2 := hcc41 2 _ rfl; (try simp only [show (k49).sz = 3 from rfl, Nat.mul_one, Nat.add_zero] at hx41_2); have hf41_2 := hfr41 2; (try simp only [show (k49).sz = 3 from rfl, Nat.mul_one, Nat.add_zero] at hf41_2); clear hcl41 hcc41 hfr41 hM41) | ((with_reducible refine gate_store (t := 49) (p := 72) rfl ?_); refine store_event (t := 49) (p := 72) (v := ?vo_w42) (w1 := (((w39.setCell ⟨go27, ((rd l2 x10_1) : Int).toNat * 3, none⟩ (.slice Ao36 t325.length co36)).setCell ⟨go27, ((rd l2 x10_1) : Int).toNat * 3 + 1, none⟩ (.int .i64 t328)).setCell ⟨go27, ((rd l2 x10_1) : Int).toNat * 3 + 2, none⟩ (.int .i64 t329))) ?hg ?ho ?hn ?hr ?_; (case ho => rfl); (case hg => rfl); (case hn => rfl); (case hr => exact zHH); intro w42 hw; have hg : w39.grownBy w42 (some go27) := (by rw [hw]; exact HP41.2); have hp_ : Kd.N k49 49 w42 w.heap.size (fun k_ => (P1_ k_ ∨ w.heap.size ≤ k_) ∧ some k_ ≠ (.slice Ao29 x8_1.length co29 : Value).ownBlock ∧ some k_ ≠ (v319 : Value).ownBlock ∧ some k_ ≠ (v323 : Value).ownBlock ∧ k_ ≠ gb317 ∧ k_ ≠ gb330) (.slice (some ⟨go27, 0, none⟩) x9_1.length co28) y331 := (by rw [hw, Ny331.1]; exact HP41.1); clear HP41; replace HO_8 := zM (Kd.R_over' (v := (.slice (some ⟨go27, 0, none⟩) x9_1.length co28)) (zR HO_8.1) (Kd.N_typed HO_9.1) (by decide) hg); replace HL310_0 := zM (Kd.V_afterv (v := (.slice (some ⟨go27, 0, none⟩) x9_1.length co28)) (v1 := (.slice (some ⟨go27, 0, none⟩) x9_1.length co28)) (ok := (fun k_ => (P1_ k_ ∨ w.heap.size ≤ k_) ∧ some k_ ≠ (.slice Ao29 x8_1.length co29 : Value).ownBlock ∧ some k_ ≠ (v319 : Value).ownBlock ∧ some k_ ≠ (v323 : Value).ownBlock ∧ some k_ ≠ (.slice Ao36 t325.length co36 : Value).ownBlock ∧ k_ ≠ gb317 ∧ k_ ≠ gb330)) (by refine zrV ?_; exact Kd.V_mono HL310_0.1 (fun _ hk => ⟨⟨hk.1, ⟨hk.2.1, ⟨hk.2.2.2.1, ⟨hk.2.2.2.2.1, ⟨hk.2.2.2.2.2.1, ⟨hk.2.2.2.2.2.2.1, hk.2.2.2.2.2.2.2⟩⟩⟩⟩⟩⟩, hk.2.2.1⟩)) hg (.inl rfl)); replace BK317 := zM (zg BK317.1 hg (Kd.N_ne HO_9.1 BK317.1 (by decide))); replace HO320 := zM (Kd.R_over' (v := (.slice (some ⟨go27, 0, none⟩) x9_1.length co28)) (zR HO320.1) (Kd.N_typed HO_9.1) (by decide) hg); replace HL321_0 := zM (Kd.V_afterv (v := (.slice (some ⟨go27, 0, none⟩) x9_1.length co28)) (v1 := (.slice (some ⟨go27, 0, none⟩) x9_1.length co28)) (ok := (fun k_ => (P1_ k_ ∨ w.heap.size ≤ k_) ∧ some k_ ≠ (.slice Ao29 x8_1.length co29 : Value).ownBlock ∧ some k_ ≠ (v319 : Value).ownBlock ∧ some k_ ≠ (v323 : Value).ownBlock ∧ some k_ ≠ (.slice Ao36 t325.length co36 : Value).ownBlock ∧ k_ ≠ gb317 ∧ k_ ≠ gb330)) (by refine zrV ?_; exact Kd.V_mono HL321_0.1 (fun _ hk => ⟨⟨hk.1, ⟨hk.2.1, ⟨hk.2.2.2.1, ⟨hk.2.2.2.2.1, ⟨hk.2.2.2.2.2.1, ⟨hk.2.2.2.2.2.2.1, hk.2.2.2.2.2.2.2⟩⟩⟩⟩⟩⟩, hk.2.2.1⟩)) hg (.inl rfl)); replace HO324 := zM (Kd.R_over' (v := (.slice (some ⟨go27, 0, none⟩) x9_1.length co28)) (zR HO324.1) (Kd.N_typed HO_9.1) (by decide) hg); replace BK330 := zM (zg BK330.1 hg (Kd.N_away HO_9.1 (fun _ hk => hk.2.2.2.2.2.2))); replace HO_9 := zM hp_; replace HB := zM ((by rw [hw]; exact below_set (below_set (below_set (HB.1) GB27.1) GB27.1) GB27.1 : Below w.heap.size w w42)); clear HO327; clear hg hw hp_))
     go_roundg kj13
     case measure => have := HK1.1; have := HJ13.1; omega
     case rel => exact ⟨(y318), (t322), (y331), (wrap64 (x10_1 + 1)), zJJ, H', ⟨by have := HK1.1; have := HJ13.1; omega⟩, ⟨by refine zrR ?_; exact Kd.R_mono HO320.1 (fun _ hk => hk.1)⟩, ⟨by refine zrR ?_; exact Kd.R_mono HO324.1 (fun _ hk => hk.1)⟩, ⟨by refine zrN ?_; exact Kd.N_mono HO_9.1 (fun _ hk => ⟨hk.1, ⟨hk.2.2.1, hk.2.2.2.1⟩⟩)⟩, ⟨zB1⟩⟩

/-- A state of type 90 at block g of W; what its slices lead to came in by w0. -/
def IsS90 (w0 W : World) (g : Nat) (f0 : List Int) (f1 : Int) (f2 : Int) : Prop := ∃ A0 c0, W.heap[g]? = some (.cells #[.slice A0 f0.length c0, .int .i64 f1, .int .i64 f2] 90 (0, 0)) ∧ w0.heap.size ≤ g ∧ Kd.C (Kd.int .u8) w0 A0 f0.length f0
theorem IsS90.grown {w0 W : World} {g : Nat} {f0 : List Int} {f1 : Int} {f2 : Int} {W1 : World} {row : Option Nat} (h : IsS90 w0 W g f0 f1 f2) (hw : W.grownBy W1 row) (hne : some g ≠ row) : IsS90 w0 W1 g f0 f1 f2 := by
 obtain ⟨A0, c0, hb, hg, hr0⟩ := h
 exact ⟨A0, c0, blk_grown hb hw hne, hg, hr0⟩
theorem IsS90.own_neN {w0 W : World} {g : Nat} {f0 : List Int} {f1 : Int} {f2 : Int} {α : Type} {d : Kd α} {e : Nat} {base : Nat} {ok : Nat → Prop} {v : Value} {xs : List α} (h : IsS90 w0 W g f0 f1 f2) (ho : Kd.N d e W base ok v xs) (ht : e ≠ 90) : some g ≠ v.ownBlock := by
 obtain ⟨A0, c0, hb, hg, hr0⟩ := h
 exact Kd.N_ne ho hb ht
theorem IsS90.fresh {w0 W : World} {g : Nat} {f0 : List Int} {f1 : Int} {f2 : Int} (h : IsS90 w0 W g f0 f1 f2) : ∀ k, W.heap.size ≤ k → k ≠ g := by
 obtain ⟨A0, c0, hb, hg, hr0⟩ := h
 exact Kd.freshB hb
theorem IsS90.kept {w0 W : World} {g : Nat} {f0 : List Int} {f1 : Int} {f2 : Int} {W1 : World} {S : Nat → Prop} (h : IsS90 w0 W g f0 f1 f2) (hk : Kept W W1 S) (hne : ¬ S g) : IsS90 w0 W1 g f0 f1 f2 := by
 obtain ⟨A0, c0, hb, hg, hr0⟩ := h
 exact ⟨A0, c0, blk_kept hb hk hne, hg, hr0⟩
theorem IsS90.below {w0 W : World} {g : Nat} {f0 : List Int} {f1 : Int} {f2 : Int} {W1 : World} (h : IsS90 w0 W g f0 f1 f2) (hw : Below W.heap.size W W1) : IsS90 w0 W1 g f0 f1 f2 := h.grown (grown_of_below hw none) (by simp)
theorem IsS90.alloc {w0 W : World} {g : Nat} {f0 : List Int} {f1 : Int} {f2 : Int} (h : IsS90 w0 W g f0 f1 f2) (o : Obj) : IsS90 w0 (W.alloc o) g f0 f1 f2 := h.below (below_alloc (Below.refl _ _) o)
theorem IsS90.drewN {w0 W : World} {g : Nat} {f0 : List Int} {f1 : Int} {f2 : Int} (h : IsS90 w0 W g f0 f1 f2) (m : Nat) : IsS90 w0 (W.drewN m) g f0 f1 f2 := h
theorem IsS90.drew {w0 W : World} {g : Nat} {f0 : List Int} {f1 : Int} {f2 : Int} (h : IsS90 w0 W g f0 f1 f2) : IsS90 w0 W.drew g f0 f1 f2 := h
theorem IsS90.at_ {w0 W : World} {g : Nat} {f0 : List Int} {f1 : Int} {f2 : Int} {w' : World} {m : Nat} (hq : W.drewN m = w') (h : IsS90 w0 W g f0 f1 f2) : IsS90 w0 w' g f0 f1 f2 := by subst hq; exact IsS90.drewN h m
theorem IsS90.apart {w0 W : World} {g : Nat} {f0 : List Int} {f1 : Int} {f2 : Int} {α : Type} {d : Kd α} {e : Nat} {base : Nat} {ok : Nat → Prop} {v : Value} {xs : List α} (h : IsS90 w0 W g f0 f1 f2) (ho : d.R e W base ok v xs) (ht : ∀ q, q ∈ e :: d.E → q ≠ 90) : d.R e W base (fun k => ok k ∧ k ≠ g) v xs := by
 obtain ⟨A0, c0, hb, hg, hr0⟩ := h
 exact Kd.R_types ho hb ht
theorem IsS90.own_ne {w0 W : World} {g : Nat} {f0 : List Int} {f1 : Int} {f2 : Int} {α : Type} {d : Kd α} {e : Nat} {base : Nat} {ok : Nat → Prop} {v : Value} {xs : List α} (h : IsS90 w0 W g f0 f1 f2) (ho : d.R e W base ok v xs) (ht : e ≠ 90) : some g ≠ v.ownBlock := by
 obtain ⟨A0, c0, hb, hg, hr0⟩ := h
 exact Kd.R_ne ho hb ht
theorem IsS90.apartQ {w0 W : World} {g : Nat} {f0 : List Int} {f1 : Int} {f2 : Int} {α : Type} {d : Kd α} {e : Nat} {base : Nat} {ok : Nat → Prop} {v : Value} {xs : List α} (h : IsS90 w0 W g f0 f1 f2) (ho : d.Q e W base ok v xs) (ht : ∀ q, q ∈ e :: d.E → q ≠ 90) : d.Q e W base (fun k => ok k ∧ k ≠ g) v xs := by
 obtain ⟨A0, c0, hb, hg, hr0⟩ := h
 exact Kd.Q_types ho hb ht
theorem IsS90.own_neQ {w0 W : World} {g : Nat} {f0 : List Int} {f1 : Int} {f2 : Int} {α : Type} {d : Kd α} {e : Nat} {base : Nat} {ok : Nat → Prop} {v : Value} {xs : List α} (h : IsS90 w0 W g f0 f1 f2) (ho : d.Q e W base ok v xs) (ht : e ≠ 90) : some g ≠ v.ownBlock := by
 obtain ⟨A0, c0, hb, hg, hr0⟩ := h
 exact Kd.Q_ne ho hb ht
theorem IsS90.apartS {w0 W : World} {g : Nat} {f0 : List Int} {f1 : Int} {f2 : Int} {α : Type} {d : Kd α} {e : Nat} {base : Nat} {ok : Nat → Prop} {v : Value} {xs : List α} (h : IsS90 w0 W g f0 f1 f2) (ho : d.S e W base ok v xs) (ht : ∀ q, q ∈ e :: d.E → q ≠ 90) : d.S e W base (fun k => ok k ∧ k ≠ g) v xs := by
 obtain ⟨A0, c0, hb, hg, hr0⟩ := h
 exact Kd.S_types ho hb ht
theorem IsS90.own_neS {w0 W : World} {g : Nat} {f0 : List Int} {f1 : Int} {f2 : Int} {α : Type} {d : Kd α} {e : Nat} {base : Nat} {ok : Nat → Prop} {v : Value} {xs : List α} (h : IsS90 w0 W g f0 f1 f2) (ho : d.S e W base ok v xs) (ht : e ≠ 90) : some g ≠ v.ownBlock := by
 obtain ⟨A0, c0, hb, hg, hr0⟩ := h
 exact Kd.S_ne ho hb ht
theorem IsS90.lt {w0 W : World} {g : Nat} {f0 : List Int} {f1 : Int} {f2 : Int} (h : IsS90 w0 W g f0 f1 f2) : g < W.heap.size := by
 obtain ⟨A0, c0, hb, hg, hr0⟩ := h
 exact blk_lt hb
theorem IsS90.ge {w0 W : World} {g : Nat} {f0 : List Int} {f1 : Int} {f2 : Int} (h : IsS90 w0 W g f0 f1 f2) : w0.heap.size ≤ g := by
 obtain ⟨A0, c0, hb, hg, hr0⟩ := h
 exact hg
theorem IsS90.ne_blk {w0 W : World} {g : Nat} {f0 : List Int} {f1 : Int} {f2 : Int} {a : Nat} {cs : Array Value} {t : TypeId} {fr : Nat × Nat} (h : IsS90 w0 W g f0 f1 f2) (hb2 : W.heap[a]? = some (.cells cs t fr)) (ht : t ≠ 90) : g ≠ a := by
 obtain ⟨A0, c0, hb, hg, hr0⟩ := h
 rintro rfl
 rw [hb] at hb2
 injection hb2 with hb2
 injection hb2 with _ ht2
 exact ht ht2.symm
theorem IsS90.far {w0 W : World} {g : Nat} {f0 : List Int} {f1 : Int} {f2 : Int} {p : Addr} (h : IsS90 w0 W g f0 f1 f2) (hne : g ≠ p.block) (u : Value) : IsS90 w0 (W.setCell p u) g f0 f1 f2 := by
 obtain ⟨A0, c0, hb, hg, hr0⟩ := h
 exact ⟨A0, c0, blk_far hb hne u, hg, hr0⟩
theorem cellS90_0 {W : World} {g : Nat} {A0 : Option Addr} {c0 : Nat} {f0 : List Int} {f1 : Int} {f2 : Int} (h : W.heap[g]? = some (.cells #[.slice A0 f0.length c0, .int .i64 f1, .int .i64 f2] 90 (0, 0))) : W.cell? ⟨g, 0, none⟩ = some (.slice A0 f0.length c0) := (blk_cell h 0).trans rfl
theorem cellS90_1 {W : World} {g : Nat} {A0 : Option Addr} {c0 : Nat} {f0 : List Int} {f1 : Int} {f2 : Int} (h : W.heap[g]? = some (.cells #[.slice A0 f0.length c0, .int .i64 f1, .int .i64 f2] 90 (0, 0))) : W.cell? ⟨g, 1, none⟩ = some (.int .i64 f1) := (blk_cell h 1).trans rfl
theorem IsS90.set_1 {w0 W : World} {g : Nat} {f0 : List Int} {f1 : Int} {f2 : Int} (h : IsS90 w0 W g f0 f1 f2) (x : Int) : IsS90 w0 (W.setCell ⟨g, 1, none⟩ (.int .i64 x)) g f0 x f2 := by
 obtain ⟨A0, c0, hb, hg, hr0⟩ := h
 exact ⟨A0, c0, by simpa using blk_set hb 1 (.int .i64 x), hg, hr0⟩
theorem cellS90_2 {W : World} {g : Nat} {A0 : Option Addr} {c0 : Nat} {f0 : List Int} {f1 : Int} {f2 : Int} (h : W.heap[g]? = some (.cells #[.slice A0 f0.length c0, .int .i64 f1, .int .i64 f2] 90 (0, 0))) : W.cell? ⟨g, 2, none⟩ = some (.int .i64 f2) := (blk_cell h 2).trans rfl
theorem IsS90.set_2 {w0 W : World} {g : Nat} {f0 : List Int} {f1 : Int} {f2 : Int} (h : IsS90 w0 W g f0 f1 f2) (x : Int) : IsS90 w0 (W.setCell ⟨g, 2, none⟩ (.int .i64 x)) g f0 f1 x := by
 obtain ⟨A0, c0, hb, hg, hr0⟩ := h
 exact ⟨A0, c0, by simpa using blk_set hb 2 (.int .i64 x), hg, hr0⟩
theorem IsS90.new (w0 W : World) (A0 : Option Addr) (c0 : Nat) (f0 : List Int) (f1 : Int) (f2 : Int) (hB : Below w0.heap.size w0 W) (hr0 : Kd.C (Kd.int .u8) w0 A0 f0.length f0) : IsS90 w0 (W.alloc (.cells #[.slice A0 f0.length c0, .int .i64 f1, .int .i64 f2] 90)) W.heap.size f0 f1 f2 := ⟨A0, c0, by simpa using heap_alloc_new W _, hB.size, hr0⟩

/-! ### spec_l1Byte: function 64 -/
def spec_l1Byte.f (s0_0 : List Int) (s0_1 : Int) (s0_2 : Int) : Option (Int × Int × Int) := if s0_1 < (s0_0.length : Int) then (if 0 ≤ s0_1 then (some (Go.bits .and .i64 (wrap64 ((Go.bits .and .i64 (Go.bits .xor .i64 ((wrap64 ((wrap64 (s0_2 * 6364136223846793005)) + 1442695040888963407)) / 8589934592) ((wrap64 ((wrap64 (s0_2 * 6364136223846793005)) + 1442695040888963407)) / 35184372088832)) 255) + (wrap64 (rd s0_0 s0_1)))) 255, wrap64 (s0_1 + 1), wrap64 ((wrap64 (s0_2 * 6364136223846793005)) + 1442695040888963407))) else (none)) else (some (Go.bits .and .i64 (Go.bits .xor .i64 ((wrap64 ((wrap64 (s0_2 * 6364136223846793005)) + 1442695040888963407)) / 8589934592) ((wrap64 ((wrap64 (s0_2 * 6364136223846793005)) + 1442695040888963407)) / 35184372088832)) 255, s0_1, wrap64 ((wrap64 (s0_2 * 6364136223846793005)) + 1442695040888963407)))
theorem spec_l1Byte.calls (g : Nat) (s0_0 : List Int) (s0_1 : Int) (s0_2 : Int) (r1 : Int) (r2 : Int) (r3 : Int) (w0 w : World) (hI : IsS90 w0 w g s0_0 s0_1 s0_2) (hB : Below w0.heap.size w0 w) (h : spec_l1Byte.f s0_0 s0_1 s0_2 = some (r1, r2, r3)) :
  Calls Try.prog 64 #[.pointer (some ⟨g, 0, none⟩)] w fun e w' => e = .returned (.int .i64 r1) ∧ IsS90 w0 w' g s0_0 r2 r3 ∧ Below w0.heap.size w0 w' ∧ KeepBut w w' g none := by
 have HI0 := zM hI
 have HK := zM (KeepBut.refl w g none)
 have HL := zM hB.size
 clear hI
 have HW0 := zM hB.size
 have HB := zM hB
 clear hB
 unfold spec_l1Byte.f at h
 have H := h
 clear h
 by_cases c2 : s0_1 < (s0_0.length : Int)
 rotate_left
 ·rw [if_neg c2] at H
  have c2b0 := decide_eq_false c2
  clear c2
  simp only [Option.some.injEq, Prod.mk.injEq] at H
  obtain ⟨rfl, rfl, rfl⟩ := H
  obtain ⟨ASz5_0, cSz5_0, HGz5, hgz5, HSz5_0⟩ := HI0.1
  have hcz5_0 := cellS90_0 HGz5
  have hcz5_1 := cellS90_1 HGz5
  have hcz5_2 := cellS90_2 HGz5
  have hfz5_1 := blk_frozen HGz5 1
  have hfz5_2 := blk_frozen HGz5 2
  clear HGz5 hgz5
  go_enter Try.func64, Try.ntmps64
  go_wp2
  repeat (go_quiet (fail); try go_wp2)
  go_ret
  exact ⟨zE, zB32, zB33, zB34⟩
 rw [if_pos c2] at H
 have c2b0 := decide_eq_true c2
 clear c2
 replace H := zIt H
 obtain ⟨c3b0, H⟩ := H
 simp only [Option.some.injEq, Prod.mk.injEq] at H
 obtain ⟨rfl, rfl, rfl⟩ := H
 obtain ⟨ASz4_0, cSz4_0, HGz4, hgz4, HSz4_0⟩ := HI0.1
 have hcz4_0 := cellS90_0 HGz4
 have hcz4_1 := cellS90_1 HGz4
 have hcz4_2 := cellS90_2 HGz4
 have hfz4_1 := blk_frozen HGz4 1
 have hfz4_2 := blk_frozen HGz4 2
 clear HGz4 hgz4
 obtain ⟨p343, q343, ad343, e343, hx343_0⟩ := zRd (Kd.at_int HSz4_0 s0_1)
 cases e343
 have hn343_0 : ad343.block ≠ g := Nat.ne_of_lt (Nat.lt_of_lt_of_le (by have := World.block_lt_of_cell? _ _ hx343_0; first | rwa [add_block] at this | exact this) (IsS90.ge HI0.1))
 replace hx343_0 := pw_cell_below HB.1 hx343_0
 replace hx343_0 := (cell_far (p := ⟨g, 2, none⟩) (by first | (rw [add_block]; exact hn343_0) | (show (Addr.add _ _).block ≠ _; rw [add_block]; exact hn343_0) | exact hn343_0) (.int .i64 (wrap64 ((wrap64 (s0_2 * 6364136223846793005)) + 1442695040888963407)))).trans hx343_0
 (try have hy343_0 := fun (n_ : Nat) => (show (((w.drewN n_).setCell ⟨g, 2, none⟩ (.int .i64 (wrap64 ((wrap64 (s0_2 * 6364136223846793005)) + 1442695040888963407))))).cell? _ = some _ from hx343_0))
 clear hn343_0
 go_enter Try.func64, Try.ntmps64
 go_wp2
 repeat (go_quiet (fail); try go_wp2)
 go_ret
 exact ⟨zE, zB32, zB33, zB34⟩

/-! ### spec_l1Below: function 42 -/
def spec_l1Below.f (s0_0 : List Int) (s0_1 : Int) (s0_2 : Int) (a1 : Int) : Option (Int × Int × Int) := if a1 ≤ 0 then (some (0, s0_1, s0_2)) else (if a1 ≤ 256 then ((spec_l1Byte.f s0_0 s0_1 s0_2).bind fun bt344 => (if a1 = 0 then (none) else (some (Int.tmod bt344.1 a1, bt344.2.1, bt344.2.2)))) else ((spec_l1Byte.f s0_0 s0_1 s0_2).bind fun bt347 => ((spec_l1Byte.f s0_0 bt347.2.1 bt347.2.2).bind fun bt350 => ((spec_l1Byte.f s0_0 bt350.2.1 bt350.2.2).bind fun bt353 => ((spec_l1Byte.f s0_0 bt353.2.1 bt353.2.2).bind fun bt356 => (if a1 = 0 then (none) else (some (Int.tmod (wrap64 ((wrap64 ((wrap64 ((wrap64 (bt347.1 * 16777216)) + (wrap64 (bt350.1 * 65536)))) + (wrap64 (bt353.1 * 256)))) + bt356.1)) a1, bt356.2.1, bt356.2.2))))))))
theorem spec_l1Below.calls (g : Nat) (s0_0 : List Int) (s0_1 : Int) (s0_2 : Int) (a1 : Int) (r1 : Int) (r2 : Int) (r3 : Int) (w0 w : World) (hI : IsS90 w0 w g s0_0 s0_1 s0_2) (hB : Below w0.heap.size w0 w) (h : spec_l1Below.f s0_0 s0_1 s0_2 a1 = some (r1, r2, r3)) :
  Calls Try.prog 42 #[.pointer (some ⟨g, 0, none⟩), .int .i64 a1] w fun e w' => e = .returned (.int .i64 r1) ∧ IsS90 w0 w' g s0_0 r2 r3 ∧ Below w0.heap.size w0 w' ∧ KeepBut w w' g none := by
 have HI0 := zM hI
 have HK := zM (KeepBut.refl w g none)
 have HL := zM hB.size
 clear hI
 have HW0 := zM hB.size
 have HB := zM hB
 clear hB
 unfold spec_l1Below.f at h
 have H := h
 clear h
 by_cases c3 : a1 ≤ 0
 ·rw [if_pos c3] at H
  have c3b0 := decide_eq_true c3
  clear c3
  simp only [Option.some.injEq, Prod.mk.injEq] at H
  obtain ⟨rfl, rfl, rfl⟩ := H
  go_enter Try.func42, Try.ntmps42
  go_wp2
  go_ret
  exact ⟨zE, zB32, zB33, zB34⟩
 rw [if_neg c3] at H
 have c3b0 := decide_eq_false c3
 clear c3
 by_cases c4 : a1 ≤ 256
 ·rw [if_pos c4] at H
  have c4b0 := decide_eq_true c4
  clear c4
  replace H := zO H
  obtain ⟨⟨t344, t345, t346⟩, A5, H⟩ := H
  try dsimp only at H
  by_cases c6 : a1 = 0
  ·rw [if_pos c6] at H
   exact absurd H (by simp)
  rw [if_neg c6] at H
  have c6b0 : (a1 == 0) = false := beq_eq_false_iff_ne.mpr c6
  have c6b1 : (a1 != 0) = true := bne_iff_ne.mpr c6
  simp only [Option.some.injEq, Prod.mk.injEq] at H
  obtain ⟨rfl, rfl, rfl⟩ := H
  go_enter Try.func42, Try.ntmps42
  go_wp2_with (first | ((with_reducible refine zG Try.func64 14 #[.pointer (some ⟨g, 0, none⟩)] ?_); (with_reducible refine (spec_l1Byte.calls g s0_0 s0_1 s0_2 t344 t345 t346 w0 _ ?side1 ?side2 A5.1).mono ?_); (case side1 => exact zB32); (case side2 => exact zB33); rintro e w7 ⟨rfl, hi, hb, hk⟩; refine ⟨_, rfl, ?_⟩; replace HK := zM (KeepBut.trans zB34 hk (.inl rfl)); replace HB := zM hb; replace HI0 := zM hi; clear hb hk hi))
  go_ret
  exact ⟨zE, zB32, zB33, zB34⟩
 rw [if_neg c4] at H
 have c4b0 := decide_eq_false c4
 clear c4
 replace H := zO H
 obtain ⟨⟨t347, t348, t349⟩, A8, H⟩ := H
 try dsimp only at H
 replace H := zO H
 obtain ⟨⟨t350, t351, t352⟩, A9, H⟩ := H
 try dsimp only at H
 replace H := zO H
 obtain ⟨⟨t353, t354, t355⟩, A10, H⟩ := H
 try dsimp only at H
 replace H := zO H
 obtain ⟨⟨t356, t357, t358⟩, A11, H⟩ := H
 try dsimp only at H
 by_cases c12 : a1 = 0
 ·rw [if_pos c12] at H
  exact absurd H (by simp)
 rw [if_neg c12] at H
 have c12b0 : (a1 == 0) = false := beq_eq_false_iff_ne.mpr c12
 have c12b1 : (a1 != 0) = true := bne_iff_ne.mpr c12
 simp only [Option.some.injEq, Prod.mk.injEq] at H
 obtain ⟨rfl, rfl, rfl⟩ := H
 go_enter Try.func42, Try.ntmps42
 go_wp2_with (first | ((with_reducible refine zG Try.func64 18 #[.pointer (some ⟨g, 0, none⟩)] ?_); (with_reducible refine (spec_l1Byte.calls g s0_0 s0_1 s0_2 t347 t348 t349 w0 _ ?side1 ?side2 A8.1).mono ?_); (case side1 => exact zB32); (case side2 => exact zB33); rintro e w13 ⟨rfl, hi, hb, hk⟩; refine ⟨_, rfl, ?_⟩; replace HK := zM (KeepBut.trans zB34 hk (.inl rfl)); replace HB := zM hb; replace HI0 := zM hi; clear hb hk hi) | ((with_reducible refine zG Try.func64 20 #[.pointer (some ⟨g, 0, none⟩)] ?_); (with_reducible refine (spec_l1Byte.calls g s0_0 t348 t349 t350 t351 t352 w0 _ ?side1 ?side2 A9.1).mono ?_); (case side1 => exact zB32); (case side2 => exact zB33); rintro e w14 ⟨rfl, hi, hb, hk⟩; refine ⟨_, rfl, ?_⟩; replace HK := zM (KeepBut.trans zB34 hk (.inl rfl)); replace HB := zM hb; replace HI0 := zM hi; clear hb hk hi) | ((with_reducible refine zG Try.func64 22 #[.pointer (some ⟨g, 0, none⟩)] ?_); (with_reducible refine (spec_l1Byte.calls g s0_0 t351 t352 t353 t354 t355 w0 _ ?side1 ?side2 A10.1).mono ?_); (case side1 => exact zB32); (case side2 => exact zB33); rintro e w15 ⟨rfl, hi, hb, hk⟩; refine ⟨_, rfl, ?_⟩; replace HK := zM (KeepBut.trans zB34 hk (.inl rfl)); replace HB := zM hb; replace HI0 := zM hi; clear hb hk hi) | ((with_reducible refine zG Try.func64 24 #[.pointer (some ⟨g, 0, none⟩)] ?_); (with_reducible refine (spec_l1Byte.calls g s0_0 t354 t355 t356 t357 t358 w0 _ ?side1 ?side2 A11.1).mono ?_); (case side1 => exact zB32); (case side2 => exact zB33); rintro e w16 ⟨rfl, hi, hb, hk⟩; refine ⟨_, rfl, ?_⟩; replace HK := zM (KeepBut.trans zB34 hk (.inl rfl)); replace HB := zM hb; replace HI0 := zM hi; clear hb hk hi))
 go_ret
 exact ⟨zE, zB32, zB33, zB34⟩

/-! ### spec_l1Once: function 58 -/
def spec_l1Once.f (s0_0 : List Int) (s0_1 : Int) (s0_2 : Int) (a1 : Int) : Option (Bool × Int × Int) := (spec_l1Below.f s0_0 s0_1 s0_2 a1).bind fun bt359 => (some ((bt359.1 == 0), bt359.2.1, bt359.2.2))
theorem spec_l1Once.calls (g : Nat) (s0_0 : List Int) (s0_1 : Int) (s0_2 : Int) (a1 : Int) (r1 : Bool) (r2 : Int) (r3 : Int) (w0 w : World) (hI : IsS90 w0 w g s0_0 s0_1 s0_2) (hB : Below w0.heap.size w0 w) (h : spec_l1Once.f s0_0 s0_1 s0_2 a1 = some (r1, r2, r3)) :
  Calls Try.prog 58 #[.pointer (some ⟨g, 0, none⟩), .int .i64 a1] w fun e w' => e = .returned (.bool r1) ∧ IsS90 w0 w' g s0_0 r2 r3 ∧ Below w0.heap.size w0 w' ∧ KeepBut w w' g none := by
 have HI0 := zM hI
 have HK := zM (KeepBut.refl w g none)
 have HL := zM hB.size
 clear hI
 have HW0 := zM hB.size
 have HB := zM hB
 clear hB
 unfold spec_l1Once.f at h
 have H := h
 clear h
 replace H := zO H
 obtain ⟨⟨t359, t360, t361⟩, A3, H⟩ := H
 try dsimp only at H
 simp only [Option.some.injEq, Prod.mk.injEq] at H
 obtain ⟨rfl, rfl, rfl⟩ := H
 go_enter Try.func58, Try.ntmps58
 go_wp2_with (first | ((with_reducible refine zG Try.func42 7 #[.pointer (some ⟨g, 0, none⟩), .int .i64 a1] ?_); (with_reducible refine (spec_l1Below.calls g s0_0 s0_1 s0_2 a1 t359 t360 t361 w0 _ ?side1 ?side2 A3.1).mono ?_); (case side1 => exact zB32); (case side2 => exact zB33); rintro e w4 ⟨rfl, hi, hb, hk⟩; refine ⟨_, rfl, ?_⟩; replace HK := zM (KeepBut.trans zB34 hk (.inl rfl)); replace HB := zM hb; replace HI0 := zM hi; clear hb hk hi))
 go_ret
 exact ⟨zE, zB32, zB33, zB34⟩

/-! ### spec_l1PickInt: function 61 -/
def spec_l1PickInt.f (s0_0 : List Int) (s0_1 : Int) (s0_2 : Int) (l1 : List Int) : Option (Int × Int × Int) := (spec_l1Below.f s0_0 s0_1 s0_2 (l1.length : Int)).bind fun bt362 => (if 0 ≤ bt362.1 then (if bt362.1 < (l1.length : Int) then (some (rd l1 bt362.1, bt362.2.1, bt362.2.2)) else (none)) else (none))
theorem spec_l1PickInt.calls (g : Nat) (s0_0 : List Int) (s0_1 : Int) (s0_2 : Int) (A1 : Option Addr) (c1 : Nat) (l1 : List Int) (r1 : Int) (r2 : Int) (r3 : Int) (w0 w : World) (hI : IsS90 w0 w g s0_0 s0_1 s0_2) (hB : Below w0.heap.size w0 w) (hr1 : Kd.C (Kd.int .i64) w A1 l1.length l1) (hc1 : l1.length ≤ c1) (hf1 : ∀ ad, A1 = some ad → 0 < l1.length → ad.block ≠ g) (h : spec_l1PickInt.f s0_0 s0_1 s0_2 l1 = some (r1, r2, r3)) :
  Calls Try.prog 61 #[.pointer (some ⟨g, 0, none⟩), .slice A1 l1.length c1] w fun e w' => e = .returned (.int .i64 r1) ∧ IsS90 w0 w' g s0_0 r2 r3 ∧ Below w0.heap.size w0 w' ∧ KeepBut w w' g none := by
 have HR1 := zM hr1
 have HC1 := zM hc1
 clear hr1 hc1
 have HI0 := zM hI
 have HK := zM (KeepBut.refl w g none)
 have HL := zM hB.size
 clear hI
 have HW0 := zM hB.size
 have HB := zM hB
 clear hB
 unfold spec_l1PickInt.f at h
 have H := h
 clear h
 replace H := zO H
 obtain ⟨⟨t362, t363, t364⟩, A3, H⟩ := H
 try dsimp only at H
 replace H := zIt H
 obtain ⟨c4b0, H⟩ := H
 replace H := zIt H
 obtain ⟨c5b0, H⟩ := H
 simp only [Option.some.injEq, Prod.mk.injEq] at H
 obtain ⟨rfl, rfl, rfl⟩ := H
 go_enter Try.func61, Try.ntmps61
 go_wp2_with (first | ((with_reducible refine zG Try.func42 9 #[.pointer (some ⟨g, 0, none⟩), .int .i64 (l1.length : Int)] ?_); (with_reducible refine (spec_l1Below.calls g s0_0 s0_1 s0_2 (l1.length : Int) t362 t363 t364 w0 _ ?side1 ?side2 A3.1).mono ?_); (case side1 => exact zB32); (case side2 => exact zB33); rintro e w6 ⟨rfl, hi, hb, hk⟩; refine ⟨_, rfl, ?_⟩; replace HK := zM (KeepBut.trans zB34 hk (.inl rfl)); replace HB := zM hb; replace HI0 := zM hi; clear hb hk hi; have p365 : 0 ≤ (t362 : Int) := zA; have q365 : t362 < (l1.length : Int) := zA; obtain ⟨ad365, e365, hx365_0⟩ := Kd.at_int HR1.1 t362 p365 q365; cases e365; replace hx365_0 := keep_cell HK.1 hx365_0 (by first | (rw [add_block]; exact hf1 _ rfl (by omega)) | exact hf1 _ rfl (by omega) | exact hf1 ad365 rfl (by omega)); replace p365 := eq_true p365; replace q365 := eq_true q365))
 go_ret
 exact ⟨zE, zB32, zB33, zB34⟩

/-! ### spec_Code: function 91 -/
def spec_Code.f (a0_0 : Int) (a0_1 : Int) (a0_2 : Int) (a0_3 : Int) (a0_4 : Int) : Option (Int × Bool) := (spec_InsOk.f a0_0 a0_1 a0_2 a0_3 a0_4).bind fun t367 => (if t367 = true then (some (wrap64 ((wrap64 ((wrap64 ((wrap64 (a0_0 + (wrap64 (16 * a0_1)))) + (wrap64 (64 * a0_2)))) + (wrap64 (256 * a0_3)))) + (wrap64 (1024 * a0_4))), true)) else (some (0, false)))
theorem spec_Code.calls (a0_0 : Int) (a0_1 : Int) (a0_2 : Int) (a0_3 : Int) (a0_4 : Int) (r1 : Int) (r2 : Bool) (w : World) (h : spec_Code.f a0_0 a0_1 a0_2 a0_3 a0_4 = some (r1, r2)) :
  Calls Try.prog 91 #[.agg #[.int .i64 a0_0, .int .i64 a0_1, .int .i64 a0_2, .int .i64 a0_3, .int .i64 a0_4]] w fun e w' => e = .returned (.tuple #[.int .i64 r1, .bool r2]) ∧ Below w.heap.size w w' := by
 have hu71 := Try.underlying71
 have HB := zM (Below.refl w.heap.size w)
 unfold spec_Code.f at h
 have H := h
 clear h
 replace H := zO H
 obtain ⟨t367, A2, H⟩ := H
 by_cases c3 : t367 = true
 rotate_left
 ·replace c3 := Bool.eq_false_iff.mpr c3
  subst c3
  rw [if_neg zF] at H
  simp only [Option.some.injEq, Prod.mk.injEq] at H
  obtain ⟨rfl, rfl⟩ := H
  go_enter Try.func91, Try.ntmps91
  go_wp2_with (first | ((with_reducible refine zBx 1 71 #[.int .i64 a0_0, .int .i64 a0_1, .int .i64 a0_2, .int .i64 a0_3, .int .i64 a0_4] ?_); intro gb366 hg w8 hbox hb; have BK366 := zM hbox; have GW366 := zM (zW hg (below_size zB1)); have GE366 := zM (zW hg (below_size zB1)); replace HB := zM (below_step zB1 hb); clear hb hbox hg; have hcz9 := zc_5 (w := w8) BK366.1) | ((with_reducible refine zG Try.func88 5 #[.agg #[.int .i64 a0_0, .int .i64 a0_1, .int .i64 a0_2, .int .i64 a0_3, .int .i64 a0_4]] ?_); (with_reducible refine (spec_InsOk.calls a0_0 a0_1 a0_2 a0_3 a0_4 false _ A2.1).mono ?_); rintro e w10 ⟨rfl, hb⟩; refine ⟨_, rfl, ?_⟩; replace BK366 := zM (zb BK366.1 hb); replace HB := zM (below_step zB1 hb); clear hb))
  go_ret2
  exact ⟨zE, zB1⟩
 subst c3
 rw [if_pos rfl] at H
 simp only [Option.some.injEq, Prod.mk.injEq] at H
 obtain ⟨rfl, rfl⟩ := H
 go_enter Try.func91, Try.ntmps91
 go_wp2_with (first | ((with_reducible refine zBx 1 71 #[.int .i64 a0_0, .int .i64 a0_1, .int .i64 a0_2, .int .i64 a0_3, .int .i64 a0_4] ?_); intro gb366 hg w4 hbox hb; have BK366 := zM hbox; have GW366 := zM (zW hg (below_size zB1)); have GE366 := zM (zW hg (below_size zB1)); replace HB := zM (below_step zB1 hb); clear hb hbox hg; have hcz5 := zc_5 (w := w4) BK366.1) | ((with_reducible refine zG Try.func88 5 #[.agg #[.int .i64 a0_0, .int .i64 a0_1, .int .i64 a0_2, .int .i64 a0_3, .int .i64 a0_4]] ?_); (with_reducible refine (spec_InsOk.calls a0_0 a0_1 a0_2 a0_3 a0_4 true _ A2.1).mono ?_); rintro e w6 ⟨rfl, hb⟩; refine ⟨_, rfl, ?_⟩; replace BK366 := zM (zb BK366.1 hb); replace HB := zM (below_step zB1 hb); clear hb; have hcz7 := zc_5 (w := w6) BK366.1))
 go_ret2
 exact ⟨zE, zB1⟩

end Go.Proofs.Ytgbjengnkbomoaa.PFnRaces
