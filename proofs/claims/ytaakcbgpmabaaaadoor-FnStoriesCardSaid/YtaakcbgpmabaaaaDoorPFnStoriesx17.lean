-- made by wip/tools/myprint.py out of the seat's translation
import Derived.Test.YtaakcbgpmabaaaaDoorPFnStoriesx0
import Derived.Test.YtaakcbgpmabaaaaDoorPFnStoriesx1
import Derived.Test.YtaakcbgpmabaaaaDoorPFnStoriesx2
import Derived.Test.YtaakcbgpmabaaaaDoorPFnStoriesx9
import Derived.Test.YtaakcbgpmabaaaaDoorPFnStoriesx11
import Derived.Test.YtaakcbgpmabaaaaDoorPFnStoriesx12
import Derived.Test.YtaakcbgpmabaaaaDoorPFnStoriesx14
import Derived.Test.YtaakcbgpmabaaaaDoorPFnStoriesx16
namespace Go.Proofs.YtaakcbgpmabaaaaDoor.PFnStories
open Go.RowKit Go.Proofs.YtaakcbgpmabaaaaDoorW.PrintWords Go.Proofs.YtaakcbgpmabaaaaDoorW.PrintLast Go.Proofs.YtaakcbgpmabaaaaDoorW.PrintMore
attribute [local go_sem] max2_int min2_int max_two min_two max_three min_three max_four min_four   -- for this text's walks alone
set_option linter.unusedVariables false
set_option linter.unusedSimpArgs false
set_option maxHeartbeats 8000000
set_option maxRecDepth 100000

attribute [local go_sem high] eqA31
/-! ### spec_TraceRead: function 9 -/
mutual
def spec_TraceRead.j0 : Nat → List ByteArray → List (S31) → Bool → Option ((List (S31)) × Bool)
 | 0, _, _, _ => none
 | k + 1, x4, x5, x23 => if x23 = true then (some (x5, false)) else (spec_TraceRead.l0 k x4 x5 0)
def spec_TraceRead.l0 : Nat → List ByteArray → List (S31) → Int → Option ((List (S31)) × Bool)
 | 0, _, _, _ => none
 | k + 1, x4, x5, x6 => if (wrap64 (x6 + 1)) < (x4.length : Int) then (if 0 ≤ x6 then (if x6 < (x4.length : Int) then ((spec_EventRead.f k (rdOf ByteArray.empty x4 x6)).bind fun bt730 => (if bt730.2.2.2.2.2 = true then (if x5.length < 3518437208883 then (spec_TraceRead.l0 k x4 (x5 ++ [(⟨bt730.1, bt730.2.1, bt730.2.2.1, bt730.2.2.2.1, bt730.2.2.2.2.1⟩ : S31)]) (wrap64 (x6 + 1))) else (none)) else (some ((([] : List (S31))), false)))) else (none)) else (none)) else (some (x5, true))
end
def spec_TraceRead.f (k : Nat) (a0 : ByteArray) : Option ((List (S31)) × Bool) := (spec_l28Cut.f k a0 10).bind fun t722 => ((some (([] : List (S31)) : List (S31))).bind fun y725 => (if 0 ≤ (wrap64 ((t722.length : Int) - 1)) then (if (wrap64 ((t722.length : Int) - 1)) < (t722.length : Int) then (if (rdOf ByteArray.empty t722 (wrap64 ((t722.length : Int) - 1))).toList = ([] : List UInt8) then (spec_TraceRead.j0 k t722 y725 (decide ((t722.length : Int) > 61))) else (spec_TraceRead.j0 k t722 y725 true)) else (none)) else (none)))
theorem spec_TraceRead.mono_l : ∀ k, (∀ y0 y1 y2, LeO (spec_TraceRead.j0 k y0 y1 y2) (spec_TraceRead.j0 (k + 1) y0 y1 y2)) ∧ (∀ y0 y1 y2, LeO (spec_TraceRead.l0 k y0 y1 y2) (spec_TraceRead.l0 (k + 1) y0 y1 y2))
 | 0 => ⟨fun _ _ _ r h => by simp [spec_TraceRead.j0] at h, fun _ _ _ r h => by simp [spec_TraceRead.l0] at h⟩
 | k + 1 => by
  obtain ⟨ih0, ih1⟩ := spec_TraceRead.mono_l k
  refine ⟨?_, ?_⟩
  ·intros
   unfold spec_TraceRead.j0
   have mo0 := @spec_EventRead.mono
   have mo1 := @spec_l28Cut.mono
   exact zL
  ·intros
   unfold spec_TraceRead.l0
   have mo0 := @spec_EventRead.mono
   have mo1 := @spec_l28Cut.mono
   exact zL
theorem spec_TraceRead.mono : ∀ a0 k, LeO (spec_TraceRead.f k a0) (spec_TraceRead.f (k + 1) a0) := by
 intro a0 k
 obtain ⟨ih0, ih1⟩ := spec_TraceRead.mono_l k
 unfold spec_TraceRead.f
 have mo0 := @spec_EventRead.mono
 have mo1 := @spec_l28Cut.mono
 exact zL
theorem spec_TraceRead.calls (k : Nat) (a0 : ByteArray) (r1 : List (S31)) (r2 : Bool) (w : World) (h : spec_TraceRead.f k a0 = some (r1, r2)) :
  Calls Tryd.prog 9 #[.string a0] w fun e w' => ∃ v0_ : Value, e = .returned (.tuple #[v0_, .bool r2]) ∧ Kd.R k31 31 w' w.heap.size (fun _ => True) v0_ r1 ∧ Below w.heap.size w w' := by
 have hu31 := Tryd.underlying31
 have HB := zM (Below.refl w.heap.size w)
 unfold spec_TraceRead.f at h
 have H := h
 clear h
 replace H := zO H
 obtain ⟨t722, A2, H⟩ := H
 replace H := zY H
 obtain ⟨y725, Ny725, H⟩ := H
 have HC3 := zM H
 clear H
 go_enter Tryd.func9, Tryd.ntmps9
 go_upto_region 3 with (first | ((with_reducible refine gate_callee (f := 22) rfl ?_); refine goesL_ (some 10) rfl rfl Tryd.func22 (by kernel_rfl) rfl #[.string a0, .int .u8 10] rfl zT ?_; (with_reducible refine (spec_l28Cut.calls k a0 10 t722 _ A2.1).mono ?_); rintro e w4 ⟨v723, rfl, ho0, hb⟩; refine ⟨_, rfl, ?_⟩; have HO724 := zM (Kd.R_lower ho0 (below_size zB3)); replace HB := zM (below_step zB3 hb); clear hb ho0) | ((with_reducible refine gate_dst (N := 11) rfl ?_); (try (refine gate_guard (by rfl) ?_; dsimp only)); refine Kd.R_lit k31 _ 31 ?hg (N := 11) ?hd (xs := ([] : List (S31))) (inner := []) (ok := fun _ => True) (okp := fun _ => True) ?hr ?hp (fun _ hk => hk) trivial (Below.refl _ _) (Nat.le_refl _) (by simp) ?_; (case hd => rfl); (case hg => rfl); (case hr => exact zHH); (case hp => exact (Reps.none _ _)); intro v726 w5 ho6 hb hg_ hnew_; clear hg_ hnew_; (first | rw [← Ny725.1] at ho6 | (simp only [Int.reduceToNat] at ho6; rw [← Ny725.1] at ho6)); replace HO724 := zM (Kd.R_below (zR HO724.1) hb); have HO727 := zM (Kd.R_lower ho6 (below_size zB3)); replace HB := zM (below_step zB3 hb); clear hb ho6))
 (try simp only [Act.put, List.setIfInBounds_toArray, List.set_cons_zero, List.set_cons_succ])
 go_cut [23] (fun v23 wc => ∃ (kq : Nat) (x23_2 : Bool), v23 = .bool x23_2 ∧ Aside0 (spec_TraceRead.j0 kq t722 y725 x23_2 = some (r1, r2)) ∧ Aside0 (kq ≤ k) ∧ Aside0 (Kd.R Kd.string 9 wc w.heap.size (fun _ => True) v723 t722) ∧ Aside0 (Kd.R k31 31 wc w.heap.size (fun _ => True) v726 y725) ∧ Aside0 (Below w.heap.size w wc))
 case first =>
  have H := HC3.1
  clear HC3
  obtain ⟨ji7, hji7⟩ : ∃ j_ : Int, (wrap64 ((t722.length : Int) - 1)) = j_ := ⟨_, rfl⟩
  replace H : (if 0 ≤ (ji7) then (if (ji7) < (t722.length : Int) then (if (rdOf ByteArray.empty t722 (ji7)).toList = ([] : List UInt8) then (spec_TraceRead.j0 k t722 y725 (decide ((t722.length : Int) > 61))) else (spec_TraceRead.j0 k t722 y725 true)) else (none)) else (none)) = some (r1, r2) := by first | (rw [hji7] at H; exact H) | (simp only [hji7] at H ⊢; exact H)
  have hji7w : (IntKind.i64.wrap ((t722.length : Int) - 1)) = ji7 := (i64_w _).trans hji7
  replace H := zIt H
  obtain ⟨c8b0, H⟩ := H
  (first | rw [c8b0] | (simp only [i64_w, i32_w]; rw [c8b0]) | skip)
  replace H := zIt H
  obtain ⟨c9b0, H⟩ := H
  by_cases c10 : (rdOf ByteArray.empty t722 (ji7)).toList = ([] : List UInt8)
  rotate_left
  ·rw [if_neg c10] at H
   have c10b0 : ((rdOf ByteArray.empty t722 (ji7)).toList == ([] : List UInt8)) = false := beq_eq_false_iff_ne.mpr c10
   have c10b1 : ((rdOf ByteArray.empty t722 (ji7)).toList != ([] : List UInt8)) = true := bne_iff_ne.mpr c10
   have H' := zM H
   clear H
   obtain ⟨Ao12, co12, eo12⟩ := Kd.R_slice HO724.1
   subst eo12
   obtain ⟨p728, q728, ad728, e728, hx728_0⟩ := zRd (Kd.at_string (Kd.R_reads' HO724.1).2.2 (ji7))
   cases e728
   go_wp2
   go_meet
   case rel => exact ⟨_, (true), zJJ, H', ⟨by first | omega | exact Nat.le_refl _⟩, ⟨zR HO724.1⟩, ⟨zR HO727.1⟩, ⟨zB3⟩⟩
  rw [if_pos c10] at H
  have c10b0 : ((rdOf ByteArray.empty t722 (ji7)).toList == ([] : List UInt8)) = true := beq_iff_eq.mpr c10
  have c10b1 : ((rdOf ByteArray.empty t722 (ji7)).toList != ([] : List UInt8)) = false := bne_eq_false_iff_eq.mpr c10
  clear c10
  have H' := zM H
  clear H
  obtain ⟨Ao11, co11, eo11⟩ := Kd.R_slice HO724.1
  subst eo11
  obtain ⟨p728, q728, ad728, e728, hx728_0⟩ := zRd (Kd.at_string (Kd.R_reads' HO724.1).2.2 (ji7))
  cases e728
  go_wp2
  go_meet
  case rel => exact ⟨_, (decide ((t722.length : Int) > 61)), zJJ, H', ⟨by first | omega | exact Nat.le_refl _⟩, ⟨zR HO724.1⟩, ⟨zR HO727.1⟩, ⟨zB3⟩⟩
 case rest =>
  clear HC3
  obtain ⟨kq, x23_2, rfl, HA, HJ2, HO_4, HO_5, HB⟩ := hcut
  cases kq with
  | zero => exact absurd HA.1 (by simp [spec_TraceRead.j0])
  | succ kj2 =>
   have H := HA.1
   clear HA
   simp only [spec_TraceRead.j0] at H
   by_cases c13 : x23_2 = true
   ·subst c13
    rw [if_pos rfl] at H
    simp only [Option.some.injEq, Prod.mk.injEq] at H
    obtain ⟨rfl, rfl⟩ := H
    go_wp2
    go_ret2
    exact ⟨_, zE, zR HO_5.1, zB3⟩
   replace c13 := Bool.eq_false_iff.mpr c13
   subst c13
   rw [if_neg zF] at H
   have H' := zM H
   clear H
   go_wp2
   go_loopg [5, 6] kj2 (fun kq v5 v6 w' => ∃ (x5_2 : List (S31)) (x6_2 : Int), v6 = .int .i64 x6_2 ∧ Aside0 (spec_TraceRead.l0 kq t722 x5_2 x6_2 = some (r1, r2)) ∧ Aside0 (kq ≤ kj2) ∧ Aside0 (Kd.R Kd.string 9 w' w.heap.size (fun _ => True) v723 t722) ∧ Aside0 (Kd.R k31 31 w' w.heap.size (fun _ => True) v5 x5_2) ∧ Aside0 (Below w.heap.size w w'))
   case atStart => exact ⟨(y725), (0), zJJ, H', ⟨Nat.le_refl _⟩, ⟨zR HO_4.1⟩, ⟨zR HO_5.1⟩, ⟨zB3⟩⟩
   case round =>
    clear H'
    obtain ⟨x5_2, x6_2, rfl, HA, HK2, HO_4, HO_5, HB⟩ := hrel
    cases gk with
    | zero => exact absurd HA.1 (by simp [spec_TraceRead.l0])
    | succ k2 =>
     have H := HA.1
     clear HA
     simp only [spec_TraceRead.l0] at H
     by_cases c14 : (wrap64 (x6_2 + 1)) < (t722.length : Int)
     rotate_left
     ·rw [if_neg c14] at H
      have c14b0 := decide_eq_false c14
      clear c14
      simp only [Option.some.injEq, Prod.mk.injEq] at H
      obtain ⟨rfl, rfl⟩ := H
      obtain ⟨Ao31, co31, eo31⟩ := Kd.R_slice HO_4.1
      subst eo31
      go_wp2
      go_ret2
      exact ⟨_, zE, zR HO_5.1, zB3⟩
     rw [if_pos c14] at H
     have c14b0 := decide_eq_true c14
     clear c14
     replace H := zIt H
     obtain ⟨c15b0, H⟩ := H
     replace H := zIt H
     obtain ⟨c16b0, H⟩ := H
     replace H := zO H
     obtain ⟨⟨t730, t731, t732, t733, t734, t735⟩, A17, H⟩ := H
     try dsimp only at H
     by_cases c18 : t735 = true
     rotate_left
     ·replace c18 := Bool.eq_false_iff.mpr c18
      subst c18
      rw [if_neg zF] at H
      generalize hy740 : ((([] : List (S31))) : List (S31)) = y740 at H
      have Ny740 := zM hy740.symm
      clear hy740
      simp only [Option.some.injEq, Prod.mk.injEq] at H
      obtain ⟨rfl, rfl⟩ := H
      obtain ⟨Ao25, co25, eo25⟩ := Kd.R_slice HO_4.1
      subst eo25
      obtain ⟨p729, q729, ad729, e729, hx729_0⟩ := zRd (Kd.at_string (Kd.R_reads' HO_4.1).2.2 x6_2)
      cases e729
      go_wp2_with (first | ((with_reducible refine gate_callee (f := 12) rfl ?_); refine goesL_ (some 37) rfl rfl Tryd.func12 (by kernel_rfl) rfl #[.string (rdOf ByteArray.empty t722 x6_2)] rfl zT ?_; (with_reducible refine (spec_EventRead.calls k2 (rdOf ByteArray.empty t722 x6_2) t730 t731 t732 t733 t734 false _ A17.1).mono ?_); rintro e w26 ⟨rfl, hb⟩; refine ⟨_, rfl, ?_⟩; replace HO_4 := zM (Kd.R_below (zR HO_4.1) hb); replace HO_5 := zM (Kd.R_below (zR HO_5.1) hb); replace HB := zM (below_step zB3 hb); clear hb) | ((with_reducible refine gate_dst (N := 7) rfl ?_); (try (refine gate_guard (by rfl) ?_; dsimp only)); (with_reducible refine zBx 7 31 #[.int .i64 0, .int .i64 0, .int .i64 0, .int .i64 0, .int .i64 0] ?_); intro gb736 hg w27 hbox hb; replace HO_4 := zM (Kd.R_below (zR HO_4.1) hb); replace HO_5 := zM (Kd.R_below (Kd.R_elderB (zR HO_5.1) gb736 (Nat.le_of_eq hg.symm)) hb); have BK736 := zM hbox; have GW736 := zM (zW hg (below_size zB3)); have GE736 := zM (zW hg (below_size zB3)); replace HB := zM (below_step zB3 hb); clear hb hbox hg; have hcz28 := zc_5 (w := w27) BK736.1) | ((with_reducible refine gate_dst (N := 42) rfl ?_); (try (refine gate_guard (by rfl) ?_; dsimp only)); refine Kd.R_lit k31 _ 31 ?hg (N := 42) ?hd (xs := ([] : List (S31))) (inner := []) (ok := fun _ => True) (okp := fun _ => True) ?hr ?hp (fun _ hk => hk) trivial (Below.refl _ _) (Nat.le_refl _) (by simp) ?_; (case hd => rfl); (case hg => rfl); (case hr => exact zHH); (case hp => exact (Reps.none _ _)); intro v741 w29 ho30 hb hg_ hnew_; clear hg_ hnew_; (first | rw [← Ny740.1] at ho30 | (simp only [Int.reduceToNat] at ho30; rw [← Ny740.1] at ho30)); replace HO_4 := zM (Kd.R_below (by refine zrR ?_; exact (Kd.R_mono (zfR (zfR (zfR (zfR (zfR (Kd.R_types HO_4.1 BK736.1 (by decide))))))) (fun _ h_ => h_.1))) hb); have HO742 := zM (Kd.R_lower (Kd.R_newB (Kd.R_new' ho30 (Kd.R_lt (by refine zrR ?_; exact (Kd.R_mono (zfR (zfR (zfR (zfR (zfR (Kd.R_mono HO_5.1 (fun k_ hk => (⟨hk, hk.2⟩ : _ ∧ k_ ≠ gb736)))))))) (fun _ h_ => h_.1))))) (g := gb736) (o := .cells #[.int .i64 t730, .int .i64 t731, .int .i64 t732, .int .i64 t733, .int .i64 t734] 31 (0, 0)) (by exact zp5 (zK BK736.1))) (below_size zB3)); replace HO_5 := zM (Kd.R_elder' (by refine zrR ?_; exact (Kd.R_mono (zfR (zfR (zfR (zfR (zfR (Kd.R_mono HO_5.1 (fun k_ hk => (⟨hk, hk.2⟩ : _ ∧ k_ ≠ gb736)))))))) (fun _ h_ => h_.1))) (Kd.R_base ho30) hb); replace BK736 := zM (blk_below (g := gb736) (o := .cells #[.int .i64 t730, .int .i64 t731, .int .i64 t732, .int .i64 t733, .int .i64 t734] 31 (0, 0)) (by exact zp5 (zK BK736.1)) hb); replace HB := zM (below_step zB3 hb); clear hb ho30))
      go_ret2
      exact ⟨_, zE, by refine zrR ?_; exact Kd.R_mono HO742.1 (fun _ hk => trivial), zB3⟩
     subst c18
     rw [if_pos rfl] at H
     replace H := zIn H
     obtain ⟨LMc19, H⟩ := H
     generalize hy737 : ((x5_2 ++ [(⟨t730, t731, t732, t733, t734⟩ : S31)]) : List (S31)) = y737 at H
     have Ny737 := zM hy737.symm
     clear hy737
     have H' := zM H
     clear H
     obtain ⟨Ao20, co20, eo20⟩ := Kd.R_slice HO_4.1
     subst eo20
     obtain ⟨p729, q729, ad729, e729, hx729_0⟩ := zRd (Kd.at_string (Kd.R_reads' HO_4.1).2.2 x6_2)
     cases e729
     go_wp2_with (first | ((with_reducible refine gate_callee (f := 12) rfl ?_); refine goesL_ (some 37) rfl rfl Tryd.func12 (by kernel_rfl) rfl #[.string (rdOf ByteArray.empty t722 x6_2)] rfl zT ?_; (with_reducible refine (spec_EventRead.calls k2 (rdOf ByteArray.empty t722 x6_2) t730 t731 t732 t733 t734 true _ A17.1).mono ?_); rintro e w21 ⟨rfl, hb⟩; refine ⟨_, rfl, ?_⟩; replace HO_4 := zM (Kd.R_below (zR HO_4.1) hb); replace HO_5 := zM (Kd.R_below (zR HO_5.1) hb); replace HB := zM (below_step zB3 hb); clear hb) | ((with_reducible refine gate_dst (N := 7) rfl ?_); (try (refine gate_guard (by rfl) ?_; dsimp only)); (with_reducible refine zBx 7 31 #[.int .i64 0, .int .i64 0, .int .i64 0, .int .i64 0, .int .i64 0] ?_); intro gb736 hg w22 hbox hb; replace HO_4 := zM (Kd.R_below (zR HO_4.1) hb); replace HO_5 := zM (Kd.R_below (Kd.R_elderB (zR HO_5.1) gb736 (Nat.le_of_eq hg.symm)) hb); have BK736 := zM hbox; have GW736 := zM (zW hg (below_size zB3)); have GE736 := zM (zW hg (below_size zB3)); replace HB := zM (below_step zB3 hb); clear hb hbox hg; have hcz23 := zc_5 (w := w22) BK736.1) | ((with_reducible refine gate_builtin (b := .append) (xs := #[.tmp 43, .tmp 45]) rfl ?_); (try (refine gate_guard (by rfl) ?_; dsimp only)); at_builtin; refine Kd.R_append k31 (w0 := w) w.heap.size rfl (.tmp 43) (.tmp 45) 24 31 (.agg #[(.int .i64 0), (.int .i64 0), (.int .i64 0), (.int .i64 0), (.int .i64 0)]) 40 rfl Tryd.underlying24 info31 rfl (by decide) (by omega) u5 x5_2 (⟨t730, t731, t732, t733, t734⟩ : S31) [.int .i64 t730, .int .i64 t731, .int .i64 t732, .int .i64 t733, .int .i64 t734] (fun k_ => k_ ≠ gb736) (fun _ => False) rfl (by first | (go_simp; done) | (go_simp; rfl)) ?aP (fun _ hk => hk.elim) ?aF ?aO ?aB ?aS ?aL ?_; (case aP => exact k31_mkM _ _ _ (⟨t730, t731, t732, t733, t734⟩ : S31)); (case aB => exact zB3); (case aF => exact (fun k_ hk => Kd.freshB (g := gb736) (o := .cells #[.int .i64 t730, .int .i64 t731, .int .i64 t732, .int .i64 t733, .int .i64 t734] 31 (0, 0)) (by exact zp5 (zK BK736.1)) k_ hk)); (case aO => exact (by refine zrR ?_; exact Kd.R_mono (zfR (zfR (zfR (zfR (zfR (Kd.R_mono HO_5.1 (fun k_ hk => (⟨hk, hk.2⟩ : _ ∧ k_ ≠ gb736)))))))) (fun _ hk => hk.1.2))); (case aS => exact (below_size zB3)); (case aL => have := LMc19.out; omega); intro v738 w24 ho hb hg hat; rw [← Ny737.1] at ho; replace HO_4 := zM (Kd.R_over' (by refine zrR ?_; exact (Kd.R_mono (zfR (zfR (zfR (zfR (zfR (Kd.R_types HO_4.1 BK736.1 (by decide))))))) (fun _ h_ => h_.1))) (Kd.R_typed (by refine zrR ?_; exact (Kd.R_mono (zfR (zfR (zfR (zfR (zfR (Kd.R_mono HO_5.1 (fun k_ hk => (⟨hk, hk.2⟩ : _ ∧ k_ ≠ gb736)))))))) (fun _ h_ => h_.1)))) (by decide) hg); replace BK736 := zM (blk_grown (g := gb736) (o := .cells #[.int .i64 t730, .int .i64 t731, .int .i64 t732, .int .i64 t733, .int .i64 t734] 31 (0, 0)) (by exact zp5 (zK BK736.1)) hg (Kd.R_away HO_5.1 (fun _ hk => hk.2))); replace HB := zM hb; have HO739 := zM ho; clear HO_5; clear ho hb hg hat))
     go_roundg k2
     case measure => have := HJ2.1; have := HK2.1; omega
     case rel => exact ⟨(y737), (wrap64 (x6_2 + 1)), zJJ, H', ⟨by have := HJ2.1; have := HK2.1; omega⟩, ⟨zR HO_4.1⟩, ⟨by refine zrR ?_; exact Kd.R_mono HO739.1 (fun _ hk => trivial)⟩, ⟨zB3⟩⟩

/-! ### spec_DrawEventRead: function 10 -/
def spec_DrawEventRead.f (k : Nat) (l0 : List Int) : Option (ByteArray) := (spec_l1New.f k l0).bind fun bt743 => ((spec_l19DrawEvent.f bt743.1 bt743.2.1 bt743.2.2).bind fun bt747 => ((spec_EventText.f k bt747.1 bt747.2.1 bt747.2.2.1 bt747.2.2.2.1 bt747.2.2.2.2.1).bind fun t754 => ((spec_l28Dent.f bt743.1 bt747.2.2.2.2.2.1 bt747.2.2.2.2.2.2 t754).bind fun bt755 => (some bt755.1))))
theorem spec_DrawEventRead.mono : ∀ a0 k, LeO (spec_DrawEventRead.f k a0) (spec_DrawEventRead.f (k + 1) a0) := by
 intro a0 k
 unfold spec_DrawEventRead.f
 have mo0 := @spec_EventText.mono
 have mo1 := @spec_l1New.mono
 exact zL
theorem spec_DrawEventRead.calls (k : Nat) (A0 : Option Addr) (c0 : Nat) (l0 : List Int) (r : ByteArray) (w : World) (hr0 : Kd.C (Kd.int .u8) w A0 l0.length l0) (hc0 : l0.length ≤ c0) (h : spec_DrawEventRead.f k l0 = some r) :
  Calls Tryd.prog 10 #[.slice A0 l0.length c0] w fun e w' => e = .returned (.string r) ∧ Below w.heap.size w w' := by
 have HR0 := zM hr0
 have HC0 := zM hc0
 clear hr0 hc0
 have HB := zM (Below.refl w.heap.size w)
 unfold spec_DrawEventRead.f at h
 have H := h
 clear h
 replace H := zO H
 obtain ⟨⟨t743, t744, t745⟩, A2, H⟩ := H
 try dsimp only at H
 replace H := zO H
 obtain ⟨⟨t747, t748, t749, t750, t751, t752, t753⟩, A3, H⟩ := H
 try dsimp only at H
 replace H := zO H
 obtain ⟨t754, A4, H⟩ := H
 replace H := zO H
 obtain ⟨⟨t755, t756, t757⟩, A5, H⟩ := H
 try dsimp only at H
 obtain rfl := Option.some.inj H
 go_enter Tryd.func10, Tryd.ntmps10
 go_wp2_with (first | ((with_reducible refine gate_callee (f := 17) rfl ?_); refine goesL_ (some 5) rfl rfl Tryd.func17 (by kernel_rfl) rfl #[.slice A0 l0.length c0] rfl zT ?_; (with_reducible refine (spec_l1New.calls k _ _ l0 t743 t744 t745 w _ ?side1 ?side2 ?side3 A2.1).mono ?_); (case side1 => exact zB3); (case side2 => exact HR0.1); (case side3 => exact HC0.1); rintro e w6 ⟨g746, rfl, hi, hb, hb2⟩; refine ⟨_, rfl, ?_⟩; replace HB := zM hb; have HI746 := zM hi; clear hb hb2 hi) | ((with_reducible refine gate_callee (f := 19) rfl ?_); refine goesL_ (some 8) rfl rfl Tryd.func19 (by kernel_rfl) rfl #[.pointer (some ⟨g746, 0, none⟩)] rfl zT ?_; (with_reducible refine (spec_l19DrawEvent.calls g746 t743 t744 t745 t747 t748 t749 t750 t751 t752 t753 w _ ?side1 ?side2 A3.1).mono ?_); (case side1 => exact zB77); (case side2 => exact zB78); rintro e w7 ⟨rfl, hi, hb, hk⟩; refine ⟨_, rfl, ?_⟩; replace HB := zM hb; replace HI746 := zM hi; clear hb hk hi) | ((with_reducible refine gate_callee (f := 23) rfl ?_); refine goesL_ (some 9) rfl rfl Tryd.func23 (by kernel_rfl) rfl #[.agg #[.int .i64 t747, .int .i64 t748, .int .i64 t749, .int .i64 t750, .int .i64 t751]] rfl zT ?_; (with_reducible refine (spec_EventText.calls k t747 t748 t749 t750 t751 t754 _ A4.1).mono ?_); rintro e w8 ⟨rfl, hb⟩; refine ⟨_, rfl, ?_⟩; replace HB := zM (below_step zB78 hb); replace HI746 := zM (IsS64.below zB77 hb); clear hb) | ((with_reducible refine gate_callee (f := 20) rfl ?_); refine goesL_ (some 10) rfl rfl Tryd.func20 (by kernel_rfl) rfl #[.pointer (some ⟨g746, 0, none⟩), .string t754] rfl zT ?_; (with_reducible refine (spec_l28Dent.calls g746 t743 t752 t753 t754 t755 t756 t757 w _ ?side1 ?side2 A5.1).mono ?_); (case side1 => exact zB77); (case side2 => exact zB78); rintro e w9 ⟨rfl, hi, hb, hk⟩; refine ⟨_, rfl, ?_⟩; replace HB := zM hb; replace HI746 := zM hi; clear hb hk hi))
 go_ret
 exact ⟨zE, zB78⟩

/-! ### laws_sameEvents: function 14 -/
def laws_sameEvents.l0 : Nat → List (S31) → List (S31) → Int → Option (Bool)
 | 0, _, _, _ => none
 | k + 1, x0, x1, x5 => if x5 < (x0.length : Int) then (if 0 ≤ x5 then (if x5 < (x1.length : Int) then (if (!(((rd_T31 x0 x5).f0) == ((rd_T31 x1 x5).f0)) || (!(((rd_T31 x0 x5).f1) == ((rd_T31 x1 x5).f1)) || (!(((rd_T31 x0 x5).f2) == ((rd_T31 x1 x5).f2)) || (!(((rd_T31 x0 x5).f3) == ((rd_T31 x1 x5).f3)) || (!(((rd_T31 x0 x5).f4) == ((rd_T31 x1 x5).f4))))))) = true then (some false) else (laws_sameEvents.l0 k x0 x1 (wrap64 (x5 + 1)))) else (none)) else (none)) else (some true)
def laws_sameEvents.f (k : Nat) (l0 : List (S31)) (l1 : List (S31)) : Option (Bool) := if (l0.length : Int) = (l1.length : Int) then (laws_sameEvents.l0 k l0 l1 0) else (some false)
theorem laws_sameEvents.mono_l : ∀ k, (∀ y0 y1 y2, LeO (laws_sameEvents.l0 k y0 y1 y2) (laws_sameEvents.l0 (k + 1) y0 y1 y2))
 | 0 => fun _ _ _ r h => by simp [laws_sameEvents.l0] at h
 | k + 1 => by
  have ih0 := laws_sameEvents.mono_l k
  ·intros
   unfold laws_sameEvents.l0
   exact zL
theorem laws_sameEvents.mono : ∀ a0 a1 k, LeO (laws_sameEvents.f k a0 a1) (laws_sameEvents.f (k + 1) a0 a1) := by
 intro a0 a1 k
 have ih0 := laws_sameEvents.mono_l k
 unfold laws_sameEvents.f
 exact zL
theorem laws_sameEvents.calls (k : Nat) (A0 : Option Addr) (c0 : Nat) (l0 : List (S31)) (A1 : Option Addr) (c1 : Nat) (l1 : List (S31)) (r : Bool) (w : World) (hr0 : Kd.C k31 w A0 l0.length l0) (hc0 : l0.length ≤ c0) (hr1 : Kd.C k31 w A1 l1.length l1) (hc1 : l1.length ≤ c1) (h : laws_sameEvents.f k l0 l1 = some r) :
  Calls Tryd.prog 14 #[.slice A0 l0.length c0, .slice A1 l1.length c1] w fun e w' => e = .returned (.bool r) ∧ Drawn0 w w' := by
 have hu31 := Tryd.underlying31
 have HR0 := zM hr0
 have HC0 := zM hc0
 clear hr0 hc0
 have HR1 := zM hr1
 have HC1 := zM hc1
 clear hr1 hc1
 unfold laws_sameEvents.f at h
 have H := h
 clear h
 by_cases c3 : (l0.length : Int) = (l1.length : Int)
 rotate_left
 ·rw [if_neg c3] at H
  have c3b0 : ((l0.length : Int) == (l1.length : Int)) = false := beq_eq_false_iff_ne.mpr c3
  have c3b1 : ((l0.length : Int) != (l1.length : Int)) = true := bne_iff_ne.mpr c3
  have c3b2 : (l0.length == l1.length) = false := by first | simpa using c3 | (simp at c3 ⊢; omega)
  obtain rfl := Option.some.inj H
  go_enter Tryd.func14, Tryd.ntmps14
  go_wp2
  repeat (go_quiet (fail); try go_wp2)
  go_ret
  exact ⟨zJJ, zDD⟩
 rw [if_pos c3] at H
 have c3b0 : ((l0.length : Int) == (l1.length : Int)) = true := beq_iff_eq.mpr c3
 have c3b1 : ((l0.length : Int) != (l1.length : Int)) = false := bne_eq_false_iff_eq.mpr c3
 have c3b2 : (l0.length == l1.length) = true := by first | simpa using c3 | (simp at c3 ⊢; omega)
 clear c3
 have H' := zM H
 clear H
 go_enter Tryd.func14, Tryd.ntmps14
 go_wp2
 repeat (go_quiet (fail); try go_wp2)
 go_loopg [5] k (fun kq v5 w' => ∃ (x5_1 : Int), v5 = .int .i64 x5_1 ∧ Aside0 (laws_sameEvents.l0 kq l0 l1 x5_1 = some r) ∧ Aside0 (kq ≤ k) ∧ Drawn0 w w')
 case atStart => exact ⟨(0), zJJ, H', ⟨Nat.le_refl _⟩, zDD⟩
 case round =>
  clear H'
  obtain ⟨x5_1, rfl, HA, HK1, ⟨m1, rfl⟩⟩ := hrel
  cases gk with
  | zero => exact absurd HA.1 (by simp [laws_sameEvents.l0])
  | succ k1 =>
   have H := HA.1
   clear HA
   simp only [laws_sameEvents.l0] at H
   by_cases c4 : x5_1 < (l0.length : Int)
   rotate_left
   ·rw [if_neg c4] at H
    have c4b0 := decide_eq_false c4
    clear c4
    obtain rfl := Option.some.inj H
    go_wp2
    repeat (go_quiet (fail); try go_wp2)
    go_ret
    exact ⟨zJJ, zDD⟩
   rw [if_pos c4] at H
   have c4b0 := decide_eq_true c4
   clear c4
   replace H := zIt H
   obtain ⟨c5b0, H⟩ := H
   replace H := zIt H
   obtain ⟨c6b0, H⟩ := H
   by_cases c7 : (!(((rd_T31 l0 x5_1).f0) == ((rd_T31 l1 x5_1).f0)) || (!(((rd_T31 l0 x5_1).f1) == ((rd_T31 l1 x5_1).f1)) || (!(((rd_T31 l0 x5_1).f2) == ((rd_T31 l1 x5_1).f2)) || (!(((rd_T31 l0 x5_1).f3) == ((rd_T31 l1 x5_1).f3)) || (!(((rd_T31 l0 x5_1).f4) == ((rd_T31 l1 x5_1).f4))))))) = true
   ·rw [if_pos c7] at H
    have c7b0 : (!(((rd_T31 l0 x5_1).f0) == ((rd_T31 l1 x5_1).f0)) || (!(((rd_T31 l0 x5_1).f1) == ((rd_T31 l1 x5_1).f1)) || (!(((rd_T31 l0 x5_1).f2) == ((rd_T31 l1 x5_1).f2)) || (!(((rd_T31 l0 x5_1).f3) == ((rd_T31 l1 x5_1).f3)) || (!(((rd_T31 l0 x5_1).f4) == ((rd_T31 l1 x5_1).f4))))))) = true := c7
    clear c7
    obtain rfl := Option.some.inj H
    obtain ⟨p758, q758, ad758, e758, hx758_0, hx758_1, hx758_2, hx758_3, hx758_4⟩ := zRd (at_T31 HR0.1 x5_1)
    cases e758
    obtain ⟨p759, q759, ad759, e759, hx759_0, hx759_1, hx759_2, hx759_3, hx759_4⟩ := zRd (at_T31 HR1.1 x5_1)
    cases e759
    go_wp2
    repeat (go_quiet (fail); try go_wp2)
    go_ret
    exact ⟨zJJ, zDD⟩
   rw [if_neg c7] at H
   have c7b0 : (!(((rd_T31 l0 x5_1).f0) == ((rd_T31 l1 x5_1).f0)) || (!(((rd_T31 l0 x5_1).f1) == ((rd_T31 l1 x5_1).f1)) || (!(((rd_T31 l0 x5_1).f2) == ((rd_T31 l1 x5_1).f2)) || (!(((rd_T31 l0 x5_1).f3) == ((rd_T31 l1 x5_1).f3)) || (!(((rd_T31 l0 x5_1).f4) == ((rd_T31 l1 x5_1).f4))))))) = false := by simpa using c7
   clear c7
   have H' := zM H
   clear H
   obtain ⟨p758, q758, ad758, e758, hx758_0, hx758_1, hx758_2, hx758_3, hx758_4⟩ := zRd (at_T31 HR0.1 x5_1)
   cases e758
   obtain ⟨p759, q759, ad759, e759, hx759_0, hx759_1, hx759_2, hx759_3, hx759_4⟩ := zRd (at_T31 HR1.1 x5_1)
   cases e759
   go_wp2
   repeat (go_quiet (fail); try go_wp2)
   go_roundg k1
   case measure => have := HK1.1; omega
   case rel => exact ⟨(wrap64 (x5_1 + 1)), zJJ, H', ⟨by have := HK1.1; omega⟩, zDD⟩

end Go.Proofs.YtaakcbgpmabaaaaDoor.PFnStories
