-- made by wip/tools/myprint.py out of the seat's translation
import Derived.Test.YtpcgecacaemalaaPFnExactRunTox0
import Derived.Test.YtpcgecacaemalaaPFnExactRunTox9
import Derived.Test.YtpcgecacaemalaaPFnExactRunTox12
import Derived.Test.YtpcgecacaemalaaPFnExactRunTox13
import Derived.Test.YtpcgecacaemalaaPFnExactRunTox14
namespace Go.Proofs.Ytpcgecacaemalaa.PFnExactRunTo
open Go.RowKit Go.Proofs.YtpcgecacaemalaaW.PrintWords Go.Proofs.YtpcgecacaemalaaW.PrintLast Go.Proofs.YtpcgecacaemalaaW.PrintMore
attribute [local go_sem] max2_int min2_int max_two min_two max_three min_three max_four min_four   -- for this text's walks alone
set_option linter.unusedVariables false
set_option linter.unusedSimpArgs false
set_option maxHeartbeats 8000000
set_option maxRecDepth 100000

/-! ### spec_RunTo: function 10 -/
mutual
def spec_RunTo.j0 : Nat → List Int → List Int → List (S53) → Bool → List Int → List Int → Option (List Int × (List (S53)) × Int × Int)
 | 0, _, _, _, _, _, _ => none
 | k + 1, x2, x12, x13, x31, x443000, x443001 => if x31 = true then (some (x12, x13, 0, 0)) else (spec_RunTo.l0 k x2 x12 x13 0 x443000 x443001)
def spec_RunTo.l0 : Nat → List Int → List Int → List (S53) → Int → List Int → List Int → Option (List Int × (List (S53)) × Int × Int)
 | 0, _, _, _, _, _, _ => none
 | k + 1, x2, x12, x13, x14, x443000, x443001 => if x14 < (x2.length : Int) then (if 0 ≤ x14 then ((spec_l1In.f (rd x2 x14) 0 (wrap64 ((x13.length : Int) - 1))).bind fun t451 => (if t451 = true then (if 0 ≤ (rd x2 x14) then (if (rd x2 x14) < (x13.length : Int) then ((spec_EventOf.f k x12 ((rd_T53 x13 (rd x2 x14)).f0) ((rd_T53 x13 (rd x2 x14)).f1) ((rd_T53 x13 (rd x2 x14)).f2) (rd x2 x14)).bind fun bt453 => (if bt453.2.2.2.2.2 = true then (if x14 > 0 then ((spec_l19Meets.f k x443000 (([bt453.2.1] : List Int))).bind fun t463 => (spec_RunTo.j2 k x2 x12 x13 x14 (rd x2 x14) t463 x443000 x443001 bt453.1 bt453.2.1 bt453.2.2.1 bt453.2.2.2.1 bt453.2.2.2.2.1)) else (spec_RunTo.j2 k x2 x12 x13 x14 (rd x2 x14) false x443000 x443001 bt453.1 bt453.2.1 bt453.2.2.1 bt453.2.2.2.1 bt453.2.2.2.2.1)) else (spec_RunTo.l0 k x2 x12 x13 (wrap64 (x14 + 1)) x443000 x443001))) else (none)) else (none)) else (spec_RunTo.l0 k x2 x12 x13 (wrap64 (x14 + 1)) x443000 x443001))) else (none)) else (some (x12, x13, (x2.length : Int), 0))
def spec_RunTo.j2 : Nat → List Int → List Int → List (S53) → Int → Int → Bool → List Int → List Int → Int → Int → Int → Int → Int → Option (List Int × (List (S53)) × Int × Int)
 | 0, _, _, _, _, _, _, _, _, _, _, _, _, _ => none
 | k + 1, x2, x12, x13, x14, x15, x71, x443000, x443001, x460000, x460001, x460002, x460003, x460004 => if x71 = true then (some (x12, x13, x14, 1)) else ((spec_FlatRun.f k x12 x13 (([x15] : List Int))).bind fun bt467 => ((spec_WritesOf.f x460000 x460001 x460002 x460003 x460004).bind fun t473 => ((spec_l19Meets.f k x443001 t473).bind fun t476 => (if t476 = true then (some (bt467.1, bt467.2, wrap64 (x14 + 1), 2)) else (spec_RunTo.l0 k x2 bt467.1 bt467.2 (wrap64 (x14 + 1)) x443000 x443001)))))
end
def spec_RunTo.f (k : Nat) (l0 : List Int) (l1 : List (S53)) (l2 : List Int) (l3_0 : List Int) (l3_1 : List Int) : Option (List Int × (List (S53)) × Int × Int) := (spec_FlatRun.f k l0 l1 ([] : List Int)).bind fun bt443 => (if (l2.length : Int) > 2000 then (spec_RunTo.j0 k l2 bt443.1 bt443.2 true l3_0 l3_1) else ((spec_WatchOk.f k l3_0 l3_1).bind fun t449 => (spec_RunTo.j0 k l2 bt443.1 bt443.2 (!t449) l3_0 l3_1)))
theorem spec_RunTo.mono_l : ∀ k, (∀ y0 y1 y2 y3 y4 y5, LeO (spec_RunTo.j0 k y0 y1 y2 y3 y4 y5) (spec_RunTo.j0 (k + 1) y0 y1 y2 y3 y4 y5)) ∧ (∀ y0 y1 y2 y3 y4 y5, LeO (spec_RunTo.l0 k y0 y1 y2 y3 y4 y5) (spec_RunTo.l0 (k + 1) y0 y1 y2 y3 y4 y5)) ∧ (∀ y0 y1 y2 y3 y4 y5 y6 y7 y8 y9 y10 y11 y12, LeO (spec_RunTo.j2 k y0 y1 y2 y3 y4 y5 y6 y7 y8 y9 y10 y11 y12) (spec_RunTo.j2 (k + 1) y0 y1 y2 y3 y4 y5 y6 y7 y8 y9 y10 y11 y12))
 | 0 => ⟨fun _ _ _ _ _ _ r h => by simp [spec_RunTo.j0] at h, fun _ _ _ _ _ _ r h => by simp [spec_RunTo.l0] at h, fun _ _ _ _ _ _ _ _ _ _ _ _ _ r h => by simp [spec_RunTo.j2] at h⟩
 | k + 1 => by
  obtain ⟨ih0, ih1, ih2⟩ := spec_RunTo.mono_l k
  refine ⟨?_, ?_, ?_⟩
  ·intros
   unfold spec_RunTo.j0
   have mo0 := @spec_EventOf.mono
   have mo1 := @spec_FlatRun.mono
   have mo2 := @spec_WatchOk.mono
   have mo3 := @spec_l19Meets.mono
   exact zL
  ·intros
   unfold spec_RunTo.l0
   have mo0 := @spec_EventOf.mono
   have mo1 := @spec_FlatRun.mono
   have mo2 := @spec_WatchOk.mono
   have mo3 := @spec_l19Meets.mono
   exact zL
  ·intros
   unfold spec_RunTo.j2
   have mo0 := @spec_EventOf.mono
   have mo1 := @spec_FlatRun.mono
   have mo2 := @spec_WatchOk.mono
   have mo3 := @spec_l19Meets.mono
   exact zL
theorem spec_RunTo.mono : ∀ a0 a1 a2 a3 a4 k, LeO (spec_RunTo.f k a0 a1 a2 a3 a4) (spec_RunTo.f (k + 1) a0 a1 a2 a3 a4) := by
 intro a0 a1 a2 a3 a4 k
 obtain ⟨ih0, ih1, ih2⟩ := spec_RunTo.mono_l k
 unfold spec_RunTo.f
 have mo0 := @spec_EventOf.mono
 have mo1 := @spec_FlatRun.mono
 have mo2 := @spec_WatchOk.mono
 have mo3 := @spec_l19Meets.mono
 exact zL
theorem spec_RunTo.calls (k : Nat) (A0 : Option Addr) (c0 : Nat) (l0 : List Int) (A1 : Option Addr) (c1 : Nat) (l1 : List (S53)) (A2 : Option Addr) (c2 : Nat) (l2 : List Int) (A3_0 : Option Addr) (c3_0 : Nat) (l3_0 : List Int) (A3_1 : Option Addr) (c3_1 : Nat) (l3_1 : List Int) (r1 : List Int) (r2 : List (S53)) (r3 : Int) (r4 : Int) (w : World) (hr0 : Kd.C (Kd.int .i64) w A0 l0.length l0) (hc0 : l0.length ≤ c0) (hr1 : Kd.C k53 w A1 l1.length l1) (hc1 : l1.length ≤ c1) (hr2 : Kd.C (Kd.int .i64) w A2 l2.length l2) (hc2 : l2.length ≤ c2) (hr3_0 : Kd.C (Kd.int .i64) w A3_0 l3_0.length l3_0) (hc3_0 : l3_0.length ≤ c3_0) (hr3_1 : Kd.C (Kd.int .i64) w A3_1 l3_1.length l3_1) (hc3_1 : l3_1.length ≤ c3_1) (h : spec_RunTo.f k l0 l1 l2 l3_0 l3_1 = some (r1, r2, r3, r4)) :
  Calls Try.prog 10 #[.slice A0 l0.length c0, .slice A1 l1.length c1, .slice A2 l2.length c2, .agg #[.slice A3_0 l3_0.length c3_0, .slice A3_1 l3_1.length c3_1]] w fun e w' => ∃ v0_ v1_ : Value, e = .returned (.tuple #[v0_, v1_, .int .i64 r3, .int .i64 r4]) ∧ Kd.R (Kd.int .i64) 3 w' w.heap.size (fun _ => True) v0_ r1 ∧ Kd.S k53 53 w' w.heap.size (fun k_ => some k_ ≠ (v0_ : Value).ownBlock) v1_ r2 ∧ Below w.heap.size w w' := by
 have hu27 := Try.underlying27
 have hu53 := Try.underlying53
 have hu57 := Try.underlying57
 have HR0 := zM hr0
 have HC0 := zM hc0
 clear hr0 hc0
 have HR1 := zM hr1
 have HC1 := zM hc1
 clear hr1 hc1
 have HR2 := zM hr2
 have HC2 := zM hc2
 clear hr2 hc2
 have HR3_0 := zM hr3_0
 have HC3_0 := zM hc3_0
 clear hr3_0 hc3_0
 have HR3_1 := zM hr3_1
 have HC3_1 := zM hc3_1
 clear hr3_1 hc3_1
 have HB := zM (Below.refl w.heap.size w)
 unfold spec_RunTo.f at h
 have H := h
 clear h
 replace H := zO H
 obtain ⟨⟨t443, t444⟩, A5, H⟩ := H
 try dsimp only at H
 have HC6 := zM H
 clear H
 go_enter Try.func10, Try.ntmps10
 go_upto_region 2 with (first | ((with_reducible refine gate_dst (N := 7) rfl ?_); (try (refine gate_guard (by rfl) ?_; dsimp only)); (with_reducible refine zBx 7 27 #[.slice A3_0 l3_0.length c3_0, .slice A3_1 l3_1.length c3_1] ?_); intro gb442 hg w7 hbox hb; have BK442 := zM hbox; have GW442 := zM (zW hg (below_size zB1)); have GE442 := zM (zW hg (below_size zB1)); replace HB := zM (below_step zB1 hb); clear hb hbox hg) | ((with_reducible refine zG Try.func67 21 #[.slice A0 l0.length c0, .slice A1 l1.length c1, .slice none 0 0] ?_); (refine (spec_FlatRun.calls k _ _ l0 _ _ l1 _ _ ([] : List Int) t443 t444 _ ?side1 ?side2 ?side3 ?side4 ?side5 ?side6 A5.1).mono ?_); (case side1 => exact zC (Kd.C_below HR0.1 HB.1)); (case side2 => exact HC0.1); (case side3 => exact zC (Kd.C_below HR1.1 HB.1)); (case side4 => exact HC1.1); (case side5 => exact Kd.C_nil _ _); (case side6 => exact Nat.le_refl _); rintro e w8 ⟨v445, v447, rfl, ho0, ho1, hb⟩; refine ⟨_, rfl, ?_⟩; have HO446 := zM (Kd.R_lower ho0 (below_size zB1)); have HO448 := zM (Kd.S_lower ho1 (below_size zB1)); replace BK442 := zM (zb BK442.1 hb); replace HB := zM (below_step zB1 hb); clear hb ho0 ho1))
 (try simp only [Act.put, List.setIfInBounds_toArray, List.set_cons_zero, List.set_cons_succ])
 go_cut [31] (fun v31 wc => ∃ (kq : Nat) (x31_5 : Bool), v31 = .bool x31_5 ∧ Aside0 (spec_RunTo.j0 kq l2 t443 t444 x31_5 l3_0 l3_1 = some (r1, r2, r3, r4)) ∧ Aside0 (kq ≤ k) ∧ Aside0 (Kd.R (Kd.int .i64) 3 wc w.heap.size (fun _ => True) v445 t443) ∧ Aside0 (Kd.S k53 53 wc w.heap.size (fun k_ => some k_ ≠ (v445 : Value).ownBlock) v447 t444) ∧ Aside0 (wc.heap[gb442]? = some (.cells #[(.slice A3_0 l3_0.length c3_0), (.slice A3_1 l3_1.length c3_1)] 27 (0, 0))) ∧ Aside0 (Below w.heap.size w wc))
 case first =>
  have H := HC6.1
  clear HC6
  by_cases c9 : (l2.length : Int) > 2000
  ·rw [if_pos c9] at H
   have c9b0 := decide_eq_true c9
   have c9b1 : decide (2000 < l2.length) = true := decide_eq_true (by omega)
   clear c9
   (first | rw [c9b0] | (simp only [i64_w, i32_w]; rw [c9b0]) | skip)
   have H' := zM H
   clear H
   go_wp2
   go_meet
   case rel => exact ⟨_, (true), zJJ, H', ⟨by first | omega | exact Nat.le_refl _⟩, ⟨zR HO446.1⟩, ⟨zS HO448.1⟩, ⟨zK BK442.1⟩, ⟨zB1⟩⟩
  rw [if_neg c9] at H
  have c9b0 := decide_eq_false c9
  have c9b1 : decide (2000 < l2.length) = false := decide_eq_false (by omega)
  clear c9
  (first | rw [c9b0] | (simp only [i64_w, i32_w]; rw [c9b0]) | skip)
  replace H := zO H
  obtain ⟨t449, A10, H⟩ := H
  have H' := zM H
  clear H
  have hcz11 := zc_2 (w := w8) BK442.1
  go_wp2_with (first | (go_at_call 16; (with_reducible refine (spec_WatchOk.calls k _ _ l3_0 _ _ l3_1 t449 _ ?side1 ?side2 ?side3 ?side4 A10.1).mono ?_); (case side1 => exact zC (Kd.C_below HR3_0.1 HB.1)); (case side2 => exact HC3_0.1); (case side3 => exact zC (Kd.C_below HR3_1.1 HB.1)); (case side4 => exact HC3_1.1); rintro e w12 ⟨rfl, hb⟩; have n0_ := zM (Kd.R_below (zR HO446.1) hb); have n1_ := zM (Kd.S_below (zS HO448.1) hb); have n2_ := zM (zb BK442.1 hb); have n3_ := zM (below_step zB1 hb); clear HO446; clear HO448; clear BK442; clear HB; have HO446 := n0_; have HO448 := n1_; have BK442 := n2_; have HB := n3_; clear n0_ n1_ n2_ n3_; clear hb))
  go_meet
  case rel => exact ⟨_, (!t449), zJJ, H', ⟨by first | omega | exact Nat.le_refl _⟩, ⟨zR HO446.1⟩, ⟨zS HO448.1⟩, ⟨zK BK442.1⟩, ⟨zB1⟩⟩
 case rest =>
  clear HC6
  obtain ⟨kq, x31_5, rfl, HA, HJ5, HO_12, HO_13, BK442, HB⟩ := hcut
  cases kq with
  | zero => exact absurd HA.1 (by simp [spec_RunTo.j0])
  | succ kj5 =>
   have H := HA.1
   clear HA
   simp only [spec_RunTo.j0] at H
   by_cases c13 : x31_5 = true
   ·subst c13
    rw [if_pos rfl] at H
    simp only [Option.some.injEq, Prod.mk.injEq] at H
    obtain ⟨rfl, rfl, rfl, rfl⟩ := H
    go_wp2
    refine bodyPost_ret (results_list (rs := [.tmp 8, .tmp 9, .tmp 10, .tmp 11]) rfl (by simp) (.tmp (.tmp (.tmp (.tmp .nil))))) rfl ?_
    exact ⟨_, _, zE, zR HO_12.1, zS HO_13.1, zB1⟩
   replace c13 := Bool.eq_false_iff.mpr c13
   subst c13
   rw [if_neg zF] at H
   have H' := zM H
   clear H
   go_wp2
   go_loopg [12, 13, 14] kj5 (fun kq v12 v13 v14 w' => ∃ (x12_2 : List Int) (x13_2 : List (S53)) (x14_2 : Int), v14 = .int .i64 x14_2 ∧ Aside0 (spec_RunTo.l0 kq l2 x12_2 x13_2 x14_2 l3_0 l3_1 = some (r1, r2, r3, r4)) ∧ Aside0 (kq ≤ kj5) ∧ Aside0 (Kd.R (Kd.int .i64) 3 w' w.heap.size (fun _ => True) v12 x12_2) ∧ Aside0 (Kd.S k53 53 w' w.heap.size (fun k_ => some k_ ≠ (v12 : Value).ownBlock) v13 x13_2) ∧ Aside0 (w'.heap[gb442]? = some (.cells #[(.slice A3_0 l3_0.length c3_0), (.slice A3_1 l3_1.length c3_1)] 27 (0, 0))) ∧ Aside0 (Below w.heap.size w w'))
   case atStart => exact ⟨(t443), (t444), (0), zJJ, H', ⟨Nat.le_refl _⟩, ⟨zR HO_12.1⟩, ⟨zS HO_13.1⟩, ⟨zK BK442.1⟩, ⟨zB1⟩⟩
   case round =>
    clear H'
    obtain ⟨x12_2, x13_2, x14_2, rfl, HA, HK2, HO_12, HO_13, BK442, HB⟩ := hrel
    cases gk with
    | zero => exact absurd HA.1 (by simp [spec_RunTo.l0])
    | succ k2 =>
     have H := HA.1
     clear HA
     simp only [spec_RunTo.l0] at H
     by_cases c14 : x14_2 < (l2.length : Int)
     rotate_left
     ·rw [if_neg c14] at H
      have c14b0 := decide_eq_false c14
      clear c14
      simp only [Option.some.injEq, Prod.mk.injEq] at H
      obtain ⟨rfl, rfl, rfl, rfl⟩ := H
      go_wp2
      refine bodyPost_ret (results_list (rs := [.tmp 8, .tmp 9, .tmp 10, .tmp 11]) rfl (by simp) (.tmp (.tmp (.tmp (.tmp .nil))))) rfl ?_
      exact ⟨_, _, zE, zR HO_12.1, zS HO_13.1, zB1⟩
     rw [if_pos c14] at H
     have c14b0 := decide_eq_true c14
     clear c14
     replace H := zIt H
     obtain ⟨c15b0, H⟩ := H
     replace H := zO H
     obtain ⟨t451, A16, H⟩ := H
     by_cases c17 : t451 = true
     rotate_left
     ·replace c17 := Bool.eq_false_iff.mpr c17
      subst c17
      rw [if_neg zF] at H
      have H' := zM H
      clear H
      obtain ⟨p450, q450, ad450, e450, hx450_0⟩ := zRd (Kd.at_int HR2.1 x14_2)
      cases e450
      replace hx450_0 := zHx HB.1 hx450_0
      obtain ⟨Ao62, co62, eo62⟩ := Kd.S_slice HO_13.1
      subst eo62
      go_wp2_with (first | ((with_reducible refine zG Try.func68 48 #[.int .i64 (rd l2 x14_2), .int .i64 0, .int .i64 (wrap64 ((x13_2.length : Int) - 1))] ?_); (with_reducible refine (spec_l1In.calls (rd l2 x14_2) 0 (wrap64 ((x13_2.length : Int) - 1)) false _ A16.1).mono ?_); rintro e w' ⟨rfl, ⟨nd, rfl⟩⟩; refine ⟨_, rfl, ?_⟩))
      go_roundg k2
      case measure => have := HJ5.1; have := HK2.1; omega
      case rel => exact ⟨(x12_2), (x13_2), (wrap64 (x14_2 + 1)), zJJ, H', ⟨by have := HJ5.1; have := HK2.1; omega⟩, ⟨zR HO_12.1⟩, ⟨zS HO_13.1⟩, ⟨zK BK442.1⟩, ⟨zB1⟩⟩
     subst c17
     rw [if_pos rfl] at H
     replace H := zIt H
     obtain ⟨c18b0, H⟩ := H
     replace H := zIt H
     obtain ⟨c19b0, H⟩ := H
     replace H := zO H
     obtain ⟨⟨t453, t454, t455, t456, t457, t458⟩, A20, H⟩ := H
     try dsimp only at H
     by_cases c21 : t458 = true
     rotate_left
     ·replace c21 := Bool.eq_false_iff.mpr c21
      subst c21
      rw [if_neg zF] at H
      have H' := zM H
      clear H
      obtain ⟨p450, q450, ad450, e450, hx450_0⟩ := zRd (Kd.at_int HR2.1 x14_2)
      cases e450
      replace hx450_0 := zHx HB.1 hx450_0
      obtain ⟨Ao56, co56, eo56⟩ := Kd.S_slice HO_13.1
      subst eo56
      go_wp2_with (first | ((with_reducible refine zG Try.func68 48 #[.int .i64 (rd l2 x14_2), .int .i64 0, .int .i64 (wrap64 ((x13_2.length : Int) - 1))] ?_); (with_reducible refine (spec_l1In.calls (rd l2 x14_2) 0 (wrap64 ((x13_2.length : Int) - 1)) true _ A16.1).mono ?_); rintro e w' ⟨rfl, ⟨nd, rfl⟩⟩; refine ⟨_, rfl, ?_⟩; (try (rw [drewN_self wr]; generalize hq_ : World.drewN wr _ = wr; have n0_ : Aside0 (Kd.R (Kd.int .i64) 3 wr w.heap.size (fun _ => True) u12 x12_2) := ⟨by rw [← hq_]; exact (zR HO_12.1)⟩; have n1_ : Aside0 (Kd.S k53 53 wr w.heap.size (fun k_ => some k_ ≠ (u12 : Value).ownBlock) (.slice Ao56 x13_2.length co56) x13_2) := ⟨by rw [← hq_]; exact (zS HO_13.1)⟩; have n2_ : Aside0 (wr.heap[gb442]? = some (.cells #[.slice A3_0 l3_0.length c3_0, .slice A3_1 l3_1.length c3_1] 27 (0, 0))) := ⟨by rw [← hq_]; exact (zK BK442.1)⟩; have n3_ : Aside0 (Below w.heap.size w wr) := ⟨by rw [← hq_]; exact zB1⟩; clear HO_12 HO_13 BK442 HB hq_; have HO_12 := n0_; have HO_13 := n1_; have BK442 := n2_; have HB := n3_; clear n0_ n1_ n2_ n3_)); have p452 : 0 ≤ ((rd l2 x14_2) : Int) := zA; have q452 : (rd l2 x14_2) < (x13_2.length : Int) := zA; obtain ⟨ad452, A452_0, c452_0, e452, hx452_0, hx452_1, hx452_2, hl452_0, hi452_0⟩ := at_T53 (Kd.S_reads' HO_13.1).2.2 (rd l2 x14_2) p452 q452; cases e452; obtain ⟨ce452, hce452, hMe452, hcc452⟩ := Kd.S_get HO_13.1 z53 (rd l2 x14_2) p452 (by first | exact q452 | exact zA | (have e_ := (Kd.S_reads' HO_13.1).1; omega)); obtain ⟨ve452_0, rfl, ge452_0⟩ := k53_openM hMe452; have hv452_0 := hcc452 0 _ rfl; rw [Nat.add_zero] at hv452_0; replace hv452_0 := Option.some.inj (hv452_0.symm.trans hx452_0); rw [hv452_0] at ge452_0; have HL452_0 := zM (show Kd.R (Kd.int .i64) 3 _ _ _ _ ((rd_T53 x13_2 (rd l2 x14_2)).f0) from ge452_0); clear hv452_0 ge452_0; clear hcc452 hce452; have HR452_0 := zM hi452_0; have HC452_0 := zM hl452_0; clear hi452_0 hl452_0; replace p452 := eq_true p452; replace q452 := eq_true q452; obtain ⟨Ao57, co57, eo57⟩ := Kd.R_slice HO_12.1; subst eo57) | ((with_reducible refine zG Try.func69 57 #[.slice Ao57 x12_2.length co57, .agg #[.slice A452_0 ((rd_T53 x13_2 (rd l2 x14_2)).f0).length c452_0, .int .i64 ((rd_T53 x13_2 (rd l2 x14_2)).f1), .int .i64 ((rd_T53 x13_2 (rd l2 x14_2)).f2)], .int .i64 (rd l2 x14_2)] ?_); (with_reducible refine (spec_EventOf.calls k2 _ _ x12_2 _ _ ((rd_T53 x13_2 (rd l2 x14_2)).f0) ((rd_T53 x13_2 (rd l2 x14_2)).f1) ((rd_T53 x13_2 (rd l2 x14_2)).f2) (rd l2 x14_2) t453 t454 t455 t456 t457 false _ ?side1 ?side2 ?side3 ?side4 A20.1).mono ?_); (case side1 => exact zC (Kd.R_reads' HO_12.1).2.2); (case side2 => exact (Kd.R_reads' HO_12.1).2.1); (case side3 => exact zC HR452_0.1); (case side4 => exact HC452_0.1); rintro e w58 ⟨rfl, hb⟩; refine ⟨_, rfl, ?_⟩; replace HO_12 := zM (Kd.R_below (zR HO_12.1) hb); replace HO_13 := zM (Kd.S_below (zS HO_13.1) hb); replace HL452_0 := zM (Kd.R_below (zR HL452_0.1) hb); replace BK442 := zM (zb BK442.1 hb); replace HR452_0 := zM (Kd.C_below (zC HR452_0.1) hb); replace HB := zM (below_step zB1 hb); clear hb) | ((with_reducible refine gate_dst (N := 16) rfl ?_); (try (refine gate_guard (by rfl) ?_; dsimp only)); (with_reducible refine zBx 16 57 #[.int .i64 0, .int .i64 0, .int .i64 0, .int .i64 0, .int .i64 0] ?_); intro gb459 hg w59 hbox hb; replace HO_12 := zM (Kd.R_below (zR HO_12.1) hb); replace HO_13 := zM (Kd.S_below (zS HO_13.1) hb); replace HL452_0 := zM (Kd.R_below (zR HL452_0.1) hb); replace HR452_0 := zM (Kd.C_below (zC HR452_0.1) hb); have BK459 := zM hbox; have GW459 := zM (zW hg (below_size zB1)); have GE459 := zM (zW hg (below_size zB1)); replace HB := zM (below_step zB1 hb); have NB442_459 := zM ((zn BK442.1 hg : gb442 ≠ gb459)); have NB459_442 := zM ((zm BK442.1 hg : gb459 ≠ gb442)); replace BK442 := zM (zb BK442.1 hb); clear hb hbox hg; have hnb60 := NB459_442.1; have hnc60 := NB442_459.1; have hcz61 := zc_5 (w := w59) BK459.1))
      go_roundg k2
      case measure => have := HJ5.1; have := HK2.1; omega
      case rel => exact ⟨(x12_2), (x13_2), (wrap64 (x14_2 + 1)), zJJ, H', ⟨by have := HJ5.1; have := HK2.1; omega⟩, ⟨by refine zrR ?_; exact Kd.R_mono (zfR (zfR (zfR (zfR (zfR (Kd.R_types HO_12.1 BK459.1 (by decide))))))) (fun _ hk => trivial)⟩, ⟨by refine zrS ?_; exact Kd.S_mono (zfS (zfS (zfS (zfS (zfS (Kd.S_types HO_13.1 BK459.1 (by decide))))))) (fun _ hk => hk.1)⟩, ⟨zPq⟩, ⟨zB1⟩⟩
     subst c21
     rw [if_pos rfl] at H
     have HC22 := zM H
     clear H
     obtain ⟨p450, q450, ad450, e450, hx450_0⟩ := zRd (Kd.at_int HR2.1 x14_2)
     cases e450
     replace hx450_0 := zHx HB.1 hx450_0
     obtain ⟨Ao23, co23, eo23⟩ := Kd.S_slice HO_13.1
     subst eo23
     go_upto_region 11 with (first | ((with_reducible refine zG Try.func68 48 #[.int .i64 (rd l2 x14_2), .int .i64 0, .int .i64 (wrap64 ((x13_2.length : Int) - 1))] ?_); (with_reducible refine (spec_l1In.calls (rd l2 x14_2) 0 (wrap64 ((x13_2.length : Int) - 1)) true _ A16.1).mono ?_); rintro e w' ⟨rfl, ⟨nd, rfl⟩⟩; refine ⟨_, rfl, ?_⟩; (try (rw [drewN_self wr]; generalize hq_ : World.drewN wr _ = wr; have n0_ : Aside0 (Kd.R (Kd.int .i64) 3 wr w.heap.size (fun _ => True) u12 x12_2) := ⟨by rw [← hq_]; exact (zR HO_12.1)⟩; have n1_ : Aside0 (Kd.S k53 53 wr w.heap.size (fun k_ => some k_ ≠ (u12 : Value).ownBlock) (.slice Ao23 x13_2.length co23) x13_2) := ⟨by rw [← hq_]; exact (zS HO_13.1)⟩; have n2_ : Aside0 (wr.heap[gb442]? = some (.cells #[.slice A3_0 l3_0.length c3_0, .slice A3_1 l3_1.length c3_1] 27 (0, 0))) := ⟨by rw [← hq_]; exact (zK BK442.1)⟩; have n3_ : Aside0 (Below w.heap.size w wr) := ⟨by rw [← hq_]; exact zB1⟩; clear HO_12 HO_13 BK442 HB hq_; have HO_12 := n0_; have HO_13 := n1_; have BK442 := n2_; have HB := n3_; clear n0_ n1_ n2_ n3_)); have p452 : 0 ≤ ((rd l2 x14_2) : Int) := zA; have q452 : (rd l2 x14_2) < (x13_2.length : Int) := zA; obtain ⟨ad452, A452_0, c452_0, e452, hx452_0, hx452_1, hx452_2, hl452_0, hi452_0⟩ := at_T53 (Kd.S_reads' HO_13.1).2.2 (rd l2 x14_2) p452 q452; cases e452; obtain ⟨ce452, hce452, hMe452, hcc452⟩ := Kd.S_get HO_13.1 z53 (rd l2 x14_2) p452 (by first | exact q452 | exact zA | (have e_ := (Kd.S_reads' HO_13.1).1; omega)); obtain ⟨ve452_0, rfl, ge452_0⟩ := k53_openM hMe452; have hv452_0 := hcc452 0 _ rfl; rw [Nat.add_zero] at hv452_0; replace hv452_0 := Option.some.inj (hv452_0.symm.trans hx452_0); rw [hv452_0] at ge452_0; have HL452_0 := zM (show Kd.R (Kd.int .i64) 3 _ _ _ _ ((rd_T53 x13_2 (rd l2 x14_2)).f0) from ge452_0); clear hv452_0 ge452_0; clear hcc452 hce452; have HR452_0 := zM hi452_0; have HC452_0 := zM hl452_0; clear hi452_0 hl452_0; replace p452 := eq_true p452; replace q452 := eq_true q452; obtain ⟨Ao24, co24, eo24⟩ := Kd.R_slice HO_12.1; subst eo24) | ((with_reducible refine zG Try.func69 57 #[.slice Ao24 x12_2.length co24, .agg #[.slice A452_0 ((rd_T53 x13_2 (rd l2 x14_2)).f0).length c452_0, .int .i64 ((rd_T53 x13_2 (rd l2 x14_2)).f1), .int .i64 ((rd_T53 x13_2 (rd l2 x14_2)).f2)], .int .i64 (rd l2 x14_2)] ?_); (with_reducible refine (spec_EventOf.calls k2 _ _ x12_2 _ _ ((rd_T53 x13_2 (rd l2 x14_2)).f0) ((rd_T53 x13_2 (rd l2 x14_2)).f1) ((rd_T53 x13_2 (rd l2 x14_2)).f2) (rd l2 x14_2) t453 t454 t455 t456 t457 true _ ?side1 ?side2 ?side3 ?side4 A20.1).mono ?_); (case side1 => exact zC (Kd.R_reads' HO_12.1).2.2); (case side2 => exact (Kd.R_reads' HO_12.1).2.1); (case side3 => exact zC HR452_0.1); (case side4 => exact HC452_0.1); rintro e w25 ⟨rfl, hb⟩; refine ⟨_, rfl, ?_⟩; have n0_ := zM (Kd.R_below (zR HO_12.1) hb); have n1_ := zM (Kd.S_below (zS HO_13.1) hb); have n2_ := zM (Kd.R_below (zR HL452_0.1) hb); have n3_ := zM (zb BK442.1 hb); have n5_ := zM (below_step zB1 hb); clear HO_12; clear HO_13; clear HL452_0; clear BK442; clear HB; have HO_12 := n0_; have HO_13 := n1_; have HL452_0 := n2_; have BK442 := n3_; have HB := n5_; clear n0_ n1_ n2_ n3_ n5_; clear hb) | ((with_reducible refine gate_dst (N := 16) rfl ?_); (try (refine gate_guard (by rfl) ?_; dsimp only)); (with_reducible refine zBx 16 57 #[.int .i64 0, .int .i64 0, .int .i64 0, .int .i64 0, .int .i64 0] ?_); intro gb459 hg w26 hbox hb; have n0_ := zM (Kd.R_below (zR HO_12.1) hb); have n1_ := zM (Kd.S_below (zS HO_13.1) hb); have n2_ := zM (Kd.R_below (zR HL452_0.1) hb); have n3_ := zM (zb BK442.1 hb); have n5_ := zM (below_step zB1 hb); have n6_ := zM hbox; have n7_ := zM (zW hg (below_size zB1)); have n8_ := zM (zW hg (below_size zB1)); have n9_ := zM ((zn BK442.1 hg : gb442 ≠ gb459)); have n10_ := zM ((zm BK442.1 hg : gb459 ≠ gb442)); clear HO_12; clear HO_13; clear HL452_0; clear BK442; clear HB; have HO_12 := n0_; have HO_13 := n1_; have HL452_0 := n2_; have BK442 := n3_; have HB := n5_; have BK459 := n6_; have GW459 := n7_; have GE459 := n8_; have NB442_459 := n9_; have NB459_442 := n10_; clear n0_ n1_ n2_ n3_ n5_ n6_ n7_ n8_ n9_ n10_; clear hb hbox hg; have hnb27 := NB459_442.1; have hnc27 := NB442_459.1; have hcz28 := zc_5 (w := w26) BK459.1))
     (try simp only [Act.put, List.setIfInBounds_toArray, List.set_cons_zero, List.set_cons_succ])
     go_cut [71] (fun v71 wc => ∃ (kq : Nat) (x71_21 : Bool), v71 = .bool x71_21 ∧ Aside0 (spec_RunTo.j2 kq l2 x12_2 x13_2 x14_2 (rd l2 x14_2) x71_21 l3_0 l3_1 t453 t454 t455 t456 t457 = some (r1, r2, r3, r4)) ∧ Aside0 (kq ≤ k2) ∧ Aside0 (Kd.R (Kd.int .i64) 3 wc w.heap.size (fun _ => True) (.slice Ao24 x12_2.length co24) x12_2) ∧ Aside0 (Kd.S k53 53 wc w.heap.size (fun k_ => some k_ ≠ ((.slice Ao24 x12_2.length co24) : Value).ownBlock) (.slice (some ad452) x13_2.length co23) x13_2) ∧ Aside0 (wc.heap[gb442]? = some (.cells #[(.slice A3_0 l3_0.length c3_0), (.slice A3_1 l3_1.length c3_1)] 27 (0, 0))) ∧ Aside0 (wc.heap[gb459]? = some (.cells #[.int .i64 t453, .int .i64 t454, .int .i64 t455, .int .i64 t456, .int .i64 t457] 57 (0, 0))) ∧ Aside0 (Kd.C (Kd.int .i64) wc A452_0 ((rd_T53 x13_2 (rd l2 x14_2)).f0).length ((rd_T53 x13_2 (rd l2 x14_2)).f0)) ∧ Aside0 (Below w.heap.size w wc))
     case first =>
      have H := HC22.1
      clear HC22
      by_cases c29 : x14_2 > 0
      rotate_left
      ·rw [if_neg c29] at H
       have c29b0 := decide_eq_false c29
       clear c29
       (first | rw [c29b0] | (simp only [i64_w, i32_w]; rw [c29b0]) | skip)
       have H' := zM H
       clear H
       go_wp2
       go_meet
       case rel => exact ⟨_, (false), zJJ, H', ⟨by have := HJ5.1; have := HK2.1; first | omega | exact Nat.le_refl _⟩, ⟨by refine zrR ?_; exact Kd.R_mono (zfR (zfR (zfR (zfR (zfR (Kd.R_types HO_12.1 BK459.1 (by decide))))))) (fun _ hk => trivial)⟩, ⟨by refine zrS ?_; exact Kd.S_mono (zfS (zfS (zfS (zfS (zfS (Kd.S_types HO_13.1 BK459.1 (by decide))))))) (fun _ hk => hk.1)⟩, ⟨zPq⟩, ⟨by exact zp5 (zK BK459.1)⟩, ⟨(Kd.R_reads' (by refine zrR ?_; exact (Kd.R_mono (zfR (zfR (zfR (zfR (zfR (Kd.R_types HL452_0.1 BK459.1 (by decide))))))) (fun _ h_ => h_.1)))).2.2⟩, ⟨zB1⟩⟩
      rw [if_pos c29] at H
      have c29b0 := decide_eq_true c29
      clear c29
      (first | rw [c29b0] | (simp only [i64_w, i32_w]; rw [c29b0]) | skip)
      generalize hy460 : ((([t454] : List Int)) : List Int) = y460 at H
      have Ny460 := zM hy460.symm
      clear hy460
      replace H := zO H
      obtain ⟨t463, A30, H⟩ := H
      have H' := zM H
      clear H
      have hnb31 := NB442_459.1
      have hnc31 := NB459_442.1
      have hcz32 := zc_2 (w := w26) BK442.1
      have hcz33 := zc_5 (w := w26) BK459.1
      go_wp2_with (first | ((with_reducible refine gate_dst (N := 69) rfl ?_); (try (refine gate_guard (by rfl) ?_; dsimp only)); refine Kd.R_lit (Kd.int .i64) _ 3 ?hg (N := 69) ?hd (xs := ([t454] : List Int)) (inner := [.int .i64 t454]) (ok := fun _ => True) (okp := fun _ => True) ?hr ?hp (fun _ hk => hk) trivial (Below.refl _ _) (Nat.le_refl _) (by simp) ?_; (case hd => rfl); (case hg => rfl); (case hr => exact zHH); (case hp => exact (Reps.one (show Kd.M (Kd.int .i64) _ _ _ t454 [.int .i64 t454] from rfl) (Reps.none _ _))); intro v461 w34 ho35 hb hg_ hnew_; clear hg_ hnew_; (first | rw [← Ny460.1] at ho35 | (simp only [Int.reduceToNat] at ho35; rw [← Ny460.1] at ho35)); replace HO_13 := zM (Kd.S_elder' (by refine zrS ?_; exact (Kd.S_mono (zfS (zfS (zfS (zfS (zfS (Kd.S_types HO_13.1 BK459.1 (by decide))))))) (fun _ h_ => h_.1))) (Kd.R_base ho35) hb); have HO462 := zM (Kd.R_lower (Kd.R_new' (Kd.R_new' ho35 (Kd.R_lt (by refine zrR ?_; exact (Kd.R_mono (zfR (zfR (zfR (zfR (zfR (Kd.R_types HO_12.1 BK459.1 (by decide))))))) (fun _ h_ => h_.1))))) (Kd.R_lt (by refine zrR ?_; exact (Kd.R_mono (zfR (zfR (zfR (zfR (zfR (Kd.R_types HL452_0.1 BK459.1 (by decide))))))) (fun _ h_ => h_.1))))) (below_size zB1)); replace HO_12 := zM (Kd.R_elder' (by refine zrR ?_; exact (Kd.R_mono (zfR (zfR (zfR (zfR (zfR (Kd.R_types HO_12.1 BK459.1 (by decide))))))) (fun _ h_ => h_.1))) (Kd.R_base ho35) hb); replace BK442 := zM (zf BK442.1 hb); replace HR452_0 := zM (Kd.C_below ((Kd.R_reads' (by refine zrR ?_; exact (Kd.R_mono (zfR (zfR (zfR (zfR (zfR (Kd.R_types HL452_0.1 BK459.1 (by decide))))))) (fun _ h_ => h_.1)))).2.2) hb); replace HL452_0 := zM (Kd.R_elder' (by refine zrR ?_; exact (Kd.R_mono (zfR (zfR (zfR (zfR (zfR (Kd.R_types HL452_0.1 BK459.1 (by decide))))))) (fun _ h_ => h_.1))) (Kd.R_base ho35) hb); replace BK459 := zM (blk_below (g := gb459) (o := .cells #[.int .i64 t453, .int .i64 t454, .int .i64 t455, .int .i64 t456, .int .i64 t457] 57 (0, 0)) (by exact zp5 (zK BK459.1)) hb); replace HB := zM (below_step zB1 hb); clear hb ho35; obtain ⟨Ao36, co36, eo36⟩ := Kd.R_slice HO462.1; subst eo36) | (go_at_call 70; (with_reducible refine (spec_l19Meets.calls k2 _ _ l3_0 _ _ y460 t463 _ ?side1 ?side2 ?side3 ?side4 A30.1).mono ?_); (case side1 => exact zC (Kd.C_below HR3_0.1 HB.1)); (case side2 => exact HC3_0.1); (case side3 => exact zC (Kd.R_reads' HO462.1).2.2); (case side4 => exact (Kd.R_reads' HO462.1).2.1); rintro e w' ⟨rfl, ⟨nd, rfl⟩⟩))
      go_meet
      case rel => exact ⟨_, (t463), zJJ, H', ⟨by have := HJ5.1; have := HK2.1; first | omega | exact Nat.le_refl _⟩, ⟨by refine zrR ?_; exact Kd.R_mono HO_12.1 (fun _ hk => trivial)⟩, ⟨by refine zrS ?_; exact Kd.S_mono HO_13.1 (fun _ hk => hk.1)⟩, ⟨zK BK442.1⟩, ⟨zK BK459.1⟩, ⟨zC HR452_0.1⟩, ⟨zB1⟩⟩
     case rest =>
      clear HC22
      obtain ⟨kq, x71_21, rfl, HA, HJ21, HO_12, HO_13, BK442, BK459, HR452_0, HB⟩ := hcut
      cases kq with
      | zero => exact absurd HA.1 (by simp [spec_RunTo.j2])
      | succ kj21 =>
       have H := HA.1
       clear HA
       simp only [spec_RunTo.j2] at H
       by_cases c37 : x71_21 = true
       ·subst c37
        rw [if_pos rfl] at H
        simp only [Option.some.injEq, Prod.mk.injEq] at H
        obtain ⟨rfl, rfl, rfl, rfl⟩ := H
        go_wp2
        refine bodyPost_ret (results_list (rs := [.tmp 8, .tmp 9, .tmp 10, .tmp 11]) rfl (by simp) (.tmp (.tmp (.tmp (.tmp .nil))))) rfl ?_
        exact ⟨_, _, zE, zR HO_12.1, zS HO_13.1, zB1⟩
       replace c37 := Bool.eq_false_iff.mpr c37
       subst c37
       rw [if_neg zF] at H
       generalize hy464 : ((([(rd l2 x14_2)] : List Int)) : List Int) = y464 at H
       have Ny464 := zM hy464.symm
       clear hy464
       replace H := zO H
       obtain ⟨⟨t467, t468⟩, A38, H⟩ := H
       try dsimp only at H
       replace H := zO H
       obtain ⟨t473, A39, H⟩ := H
       replace H := zO H
       obtain ⟨t476, A40, H⟩ := H
       by_cases c41 : t476 = true
       ·subst c41
        rw [if_pos rfl] at H
        simp only [Option.some.injEq, Prod.mk.injEq] at H
        obtain ⟨rfl, rfl, rfl, rfl⟩ := H
        try go_wp2_with (first | ((with_reducible refine gate_dst (N := 79) rfl ?_); (try (refine gate_guard (by rfl) ?_; dsimp only)); refine Kd.R_lit (Kd.int .i64) _ 3 ?hg (N := 79) ?hd (xs := ([(rd l2 x14_2)] : List Int)) (inner := [.int .i64 (rd l2 x14_2)]) (ok := fun _ => True) (okp := fun _ => True) ?hr ?hp (fun _ hk => hk) trivial (Below.refl _ _) (Nat.le_refl _) (by simp) ?_; (case hd => rfl); (case hg => rfl); (case hr => exact zHH); (case hp => exact (Reps.one (show Kd.M (Kd.int .i64) _ _ _ (rd l2 x14_2) [.int .i64 (rd l2 x14_2)] from rfl) (Reps.none _ _))); intro v465 w42 ho43 hb hg_ hnew_; clear hg_ hnew_; (first | rw [← Ny464.1] at ho43 | (simp only [Int.reduceToNat] at ho43; rw [← Ny464.1] at ho43)); replace HO_13 := zM (Kd.S_elder' (zS HO_13.1) (Kd.R_base ho43) hb); have HO466 := zM (Kd.R_lower (Kd.R_new' ho43 (Kd.R_lt (zR HO_12.1))) (below_size zB1)); replace HO_12 := zM (Kd.R_elder' (zR HO_12.1) (Kd.R_base ho43) hb); replace BK442 := zM (zb BK442.1 hb); replace BK459 := zM (zb BK459.1 hb); replace HR452_0 := zM (Kd.C_below (zC HR452_0.1) hb); replace HB := zM (below_step zB1 hb); clear hb ho43; obtain ⟨Ao44, co44, eo44⟩ := Kd.R_slice HO466.1; subst eo44) | ((with_reducible refine zG Try.func67 80 #[.slice Ao24 x12_2.length co24, .slice (some ad452) x13_2.length co23, .slice Ao44 y464.length co44] ?_); (with_reducible refine (spec_FlatRun.calls kj21 _ _ x12_2 _ _ x13_2 _ _ y464 t467 t468 _ ?side1 ?side2 ?side3 ?side4 ?side5 ?side6 A38.1).mono ?_); (case side1 => exact zC (Kd.R_reads' HO_12.1).2.2); (case side2 => exact (Kd.R_reads' HO_12.1).2.1); (case side3 => exact zC (Kd.S_reads' HO_13.1).2.2); (case side4 => exact (Kd.S_reads' HO_13.1).2.1); (case side5 => exact zC (Kd.R_reads' HO466.1).2.2); (case side6 => exact (Kd.R_reads' HO466.1).2.1); rintro e w45 ⟨v469, v471, rfl, ho0, ho1, hb⟩; refine ⟨_, rfl, ?_⟩; have HO470 := zM (Kd.R_lower (Kd.R_new' (Kd.R_new' ho0 (Kd.R_lt (zR HO_12.1))) (Kd.R_lt (zR HO466.1))) (below_size zB1)); have HO472 := zM (Kd.S_lower (Kd.S_new' (Kd.S_new' (Kd.S_new' ho1 (Kd.R_lt (zR HO_12.1))) (Kd.S_lt (zS HO_13.1))) (Kd.R_lt (zR HO466.1))) (below_size zB1)); replace HO_12 := zM (Kd.R_elder' (zR HO_12.1) (Kd.R_base ho0) hb); replace HO_13 := zM (Kd.S_mono (Kd.S_told (Kd.S_told (Kd.S_old (zS HO_13.1) hb) (Kd.R_base ho0)) (Kd.S_base ho1)) (fun _ h_ => h_.1)); replace HO466 := zM (Kd.R_elder' (zR HO466.1) (Kd.R_base ho0) hb); replace BK442 := zM (zb BK442.1 hb); replace BK459 := zM (zb BK459.1 hb); replace HR452_0 := zM (Kd.C_below (zC HR452_0.1) hb); replace HB := zM (below_step zB1 hb); clear hb ho0 ho1))
        replace HO_12 := zM (Kd.R_drew HO_12.1)
        replace HO_13 := zM (Kd.S_drew HO_13.1)
        replace HO466 := zM (Kd.R_drew HO466.1)
        replace HO470 := zM (Kd.R_drew HO470.1)
        replace HO472 := zM (Kd.S_drew HO472.1)
        replace BK442 := zM (blk_drew BK442.1)
        replace BK459 := zM (blk_drew BK459.1)
        replace HR452_0 := zM (Kd.C_drew HR452_0.1)
        replace HB := zM (below_drew1 HB.1)
        refine start_ (n := 5) (S := fun w' => w'.cell? ⟨gb442, 0, none⟩ = some (.slice A3_0 l3_0.length c3_0) ∧ w'.cell? ⟨gb442, 1, none⟩ = some (.slice A3_1 l3_1.length c3_1) ∧ w'.cell? ⟨gb459, 0, none⟩ = some (.int .i64 t453) ∧ w'.cell? ⟨gb459, 1, none⟩ = some (.int .i64 t454) ∧ w'.cell? ⟨gb459, 2, none⟩ = some (.int .i64 t455) ∧ w'.cell? ⟨gb459, 3, none⟩ = some (.int .i64 t456) ∧ w'.cell? ⟨gb459, 4, none⟩ = some (.int .i64 t457)) (ds := []) #[false, false, false, false, false] (by kernel_rfl) rfl rfl ⟨(blk_cell BK442.1 0).trans rfl, (blk_cell BK442.1 1).trans rfl, (blk_cell BK459.1 0).trans rfl, (blk_cell BK459.1 1).trans rfl, (blk_cell BK459.1 2).trans rfl, (blk_cell BK459.1 3).trans rfl, (blk_cell BK459.1 4).trans rfl⟩ (fun hHeld => ?_)
        generalize w45.drew = w46 at HO_12 HO_13 HO466 HO470 HO472 BK442 BK459 HR452_0 HB hHeld ⊢
        refine zPu 0 ?_
        refine zTk7 1 hHeld ?_
        refine zTk7 2 hHeld ?_
        refine zOn 3 (some 86) fun K hK => ?_
        refine zGs Try.func71 #[.agg #[.int .i64 t453, .int .i64 t454, .int .i64 t455, .int .i64 t456, .int .i64 t457]] ?_
        with_reducible refine (spec_WritesOf.calls t453 t454 t455 t456 t457 t473 _ A39.1).mono ?_
        rintro e w47 ⟨v474, rfl, ho0, hb⟩
        refine ⟨_, rfl, ?_⟩
        replace HO_13 := zM (Kd.S_elder' (zS HO_13.1) (Kd.R_base ho0) hb)
        replace HO472 := zM (Kd.S_elder' (zS HO472.1) (Kd.R_base ho0) hb)
        have HO475 := zM (Kd.R_lower (Kd.R_new' (Kd.R_new' (Kd.R_new' ho0 (Kd.R_lt (zR HO_12.1))) (Kd.R_lt (zR HO466.1))) (Kd.R_lt (zR HO470.1))) (below_size zB1))
        replace HO_12 := zM (Kd.R_elder' (zR HO_12.1) (Kd.R_base ho0) hb)
        replace HO466 := zM (Kd.R_elder' (zR HO466.1) (Kd.R_base ho0) hb)
        replace HO470 := zM (Kd.R_elder' (zR HO470.1) (Kd.R_base ho0) hb)
        replace BK442 := zM (zb BK442.1 hb)
        replace BK459 := zM (zb BK459.1 hb)
        replace HR452_0 := zM (Kd.C_below (zC HR452_0.1) hb)
        replace HB := zM (below_step zB1 hb)
        (try clear ho0)
        obtain ⟨Ao48, co48, eo48⟩ := Kd.R_slice HO475.1
        (first | subst eo48 | (injection eo48 with f1_ f2_ f3_; have f4_ := f1_.symm; have f5_ := f3_.symm; clear f1_ f2_ f3_; subst f4_; subst f5_))
        refine hK.out _ _ zCs fun hHeld => ?_
        clear hK K
        refine zNo ?_
        refine zOn 4 (some 87) fun K hK => ?_
        refine zGs Try.func70 #[.slice A3_1 l3_1.length c3_1, .slice Ao48 t473.length co48] ?_
        with_reducible refine (spec_l19Meets.calls kj21 _ _ l3_1 _ _ t473 true _ ?side1 ?side2 ?side3 ?side4 A40.1).mono ?_
        (case side1 => exact zC (Kd.C_below HR3_1.1 HB.1))
        (case side2 => exact HC3_1.1)
        (case side3 => exact zC (Kd.R_reads' HO475.1).2.2)
        (case side4 => exact (Kd.R_reads' HO475.1).2.1)
        rintro e w' ⟨rfl, ⟨nd, rfl⟩⟩
        refine ⟨_, rfl, ?_⟩
        refine hK.out _ _ zCs fun hHeld => ?_
        clear hK K
        refine zNo ?_
        refine done_ (by kernel_rfl) ?_
        try go_wp2
        refine bodyPost_ret (results_list (rs := [.tmp 8, .tmp 9, .tmp 10, .tmp 11]) rfl (by simp) (.tmp (.tmp (.tmp (.tmp .nil))))) rfl ?_
        exact ⟨_, _, zE, by refine zrR ?_; exact Kd.R_mono HO470.1 (fun _ hk => trivial), by refine zrS ?_; exact Kd.S_mono HO472.1 (fun _ hk => hk.1.1.1.1), zB1⟩
       replace c41 := Bool.eq_false_iff.mpr c41
       subst c41
       rw [if_neg zF] at H
       have H' := zM H
       clear H
       try go_wp2_with (first | ((with_reducible refine gate_dst (N := 79) rfl ?_); (try (refine gate_guard (by rfl) ?_; dsimp only)); refine Kd.R_lit (Kd.int .i64) _ 3 ?hg (N := 79) ?hd (xs := ([(rd l2 x14_2)] : List Int)) (inner := [.int .i64 (rd l2 x14_2)]) (ok := fun _ => True) (okp := fun _ => True) ?hr ?hp (fun _ hk => hk) trivial (Below.refl _ _) (Nat.le_refl _) (by simp) ?_; (case hd => rfl); (case hg => rfl); (case hr => exact zHH); (case hp => exact (Reps.one (show Kd.M (Kd.int .i64) _ _ _ (rd l2 x14_2) [.int .i64 (rd l2 x14_2)] from rfl) (Reps.none _ _))); intro v465 w49 ho50 hb hg_ hnew_; clear hg_ hnew_; (first | rw [← Ny464.1] at ho50 | (simp only [Int.reduceToNat] at ho50; rw [← Ny464.1] at ho50)); replace HO_13 := zM (Kd.S_elder' (zS HO_13.1) (Kd.R_base ho50) hb); have HO466 := zM (Kd.R_lower (Kd.R_new' ho50 (Kd.R_lt (zR HO_12.1))) (below_size zB1)); replace HO_12 := zM (Kd.R_elder' (zR HO_12.1) (Kd.R_base ho50) hb); replace BK442 := zM (zb BK442.1 hb); replace BK459 := zM (zb BK459.1 hb); replace HR452_0 := zM (Kd.C_below (zC HR452_0.1) hb); replace HB := zM (below_step zB1 hb); clear hb ho50; obtain ⟨Ao51, co51, eo51⟩ := Kd.R_slice HO466.1; subst eo51) | ((with_reducible refine zG Try.func67 80 #[.slice Ao24 x12_2.length co24, .slice (some ad452) x13_2.length co23, .slice Ao51 y464.length co51] ?_); (with_reducible refine (spec_FlatRun.calls kj21 _ _ x12_2 _ _ x13_2 _ _ y464 t467 t468 _ ?side1 ?side2 ?side3 ?side4 ?side5 ?side6 A38.1).mono ?_); (case side1 => exact zC (Kd.R_reads' HO_12.1).2.2); (case side2 => exact (Kd.R_reads' HO_12.1).2.1); (case side3 => exact zC (Kd.S_reads' HO_13.1).2.2); (case side4 => exact (Kd.S_reads' HO_13.1).2.1); (case side5 => exact zC (Kd.R_reads' HO466.1).2.2); (case side6 => exact (Kd.R_reads' HO466.1).2.1); rintro e w52 ⟨v469, v471, rfl, ho0, ho1, hb⟩; refine ⟨_, rfl, ?_⟩; have HO470 := zM (Kd.R_lower (Kd.R_new' (Kd.R_new' ho0 (Kd.R_lt (zR HO_12.1))) (Kd.R_lt (zR HO466.1))) (below_size zB1)); have HO472 := zM (Kd.S_lower (Kd.S_new' (Kd.S_new' (Kd.S_new' ho1 (Kd.R_lt (zR HO_12.1))) (Kd.S_lt (zS HO_13.1))) (Kd.R_lt (zR HO466.1))) (below_size zB1)); replace HO_12 := zM (Kd.R_elder' (zR HO_12.1) (Kd.R_base ho0) hb); replace HO_13 := zM (Kd.S_mono (Kd.S_told (Kd.S_told (Kd.S_old (zS HO_13.1) hb) (Kd.R_base ho0)) (Kd.S_base ho1)) (fun _ h_ => h_.1)); replace HO466 := zM (Kd.R_elder' (zR HO466.1) (Kd.R_base ho0) hb); replace BK442 := zM (zb BK442.1 hb); replace BK459 := zM (zb BK459.1 hb); replace HR452_0 := zM (Kd.C_below (zC HR452_0.1) hb); replace HB := zM (below_step zB1 hb); clear hb ho0 ho1))
       replace HO_12 := zM (Kd.R_drew HO_12.1)
       replace HO_13 := zM (Kd.S_drew HO_13.1)
       replace HO466 := zM (Kd.R_drew HO466.1)
       replace HO470 := zM (Kd.R_drew HO470.1)
       replace HO472 := zM (Kd.S_drew HO472.1)
       replace BK442 := zM (blk_drew BK442.1)
       replace BK459 := zM (blk_drew BK459.1)
       replace HR452_0 := zM (Kd.C_drew HR452_0.1)
       replace HB := zM (below_drew1 HB.1)
       refine start_ (n := 5) (S := fun w' => w'.cell? ⟨gb442, 0, none⟩ = some (.slice A3_0 l3_0.length c3_0) ∧ w'.cell? ⟨gb442, 1, none⟩ = some (.slice A3_1 l3_1.length c3_1) ∧ w'.cell? ⟨gb459, 0, none⟩ = some (.int .i64 t453) ∧ w'.cell? ⟨gb459, 1, none⟩ = some (.int .i64 t454) ∧ w'.cell? ⟨gb459, 2, none⟩ = some (.int .i64 t455) ∧ w'.cell? ⟨gb459, 3, none⟩ = some (.int .i64 t456) ∧ w'.cell? ⟨gb459, 4, none⟩ = some (.int .i64 t457)) (ds := []) #[false, false, false, false, false] (by kernel_rfl) rfl rfl ⟨(blk_cell BK442.1 0).trans rfl, (blk_cell BK442.1 1).trans rfl, (blk_cell BK459.1 0).trans rfl, (blk_cell BK459.1 1).trans rfl, (blk_cell BK459.1 2).trans rfl, (blk_cell BK459.1 3).trans rfl, (blk_cell BK459.1 4).trans rfl⟩ (fun hHeld => ?_)
       generalize w52.drew = w53 at HO_12 HO_13 HO466 HO470 HO472 BK442 BK459 HR452_0 HB hHeld ⊢
       refine zPu 0 ?_
       refine zTk7 1 hHeld ?_
       refine zTk7 2 hHeld ?_
       refine zOn 3 (some 86) fun K hK => ?_
       refine zGs Try.func71 #[.agg #[.int .i64 t453, .int .i64 t454, .int .i64 t455, .int .i64 t456, .int .i64 t457]] ?_
       with_reducible refine (spec_WritesOf.calls t453 t454 t455 t456 t457 t473 _ A39.1).mono ?_
       rintro e w54 ⟨v474, rfl, ho0, hb⟩
       refine ⟨_, rfl, ?_⟩
       replace HO_13 := zM (Kd.S_elder' (zS HO_13.1) (Kd.R_base ho0) hb)
       replace HO472 := zM (Kd.S_elder' (zS HO472.1) (Kd.R_base ho0) hb)
       have HO475 := zM (Kd.R_lower (Kd.R_new' (Kd.R_new' (Kd.R_new' ho0 (Kd.R_lt (zR HO_12.1))) (Kd.R_lt (zR HO466.1))) (Kd.R_lt (zR HO470.1))) (below_size zB1))
       replace HO_12 := zM (Kd.R_elder' (zR HO_12.1) (Kd.R_base ho0) hb)
       replace HO466 := zM (Kd.R_elder' (zR HO466.1) (Kd.R_base ho0) hb)
       replace HO470 := zM (Kd.R_elder' (zR HO470.1) (Kd.R_base ho0) hb)
       replace BK442 := zM (zb BK442.1 hb)
       replace BK459 := zM (zb BK459.1 hb)
       replace HR452_0 := zM (Kd.C_below (zC HR452_0.1) hb)
       replace HB := zM (below_step zB1 hb)
       (try clear ho0)
       obtain ⟨Ao55, co55, eo55⟩ := Kd.R_slice HO475.1
       (first | subst eo55 | (injection eo55 with f1_ f2_ f3_; have f4_ := f1_.symm; have f5_ := f3_.symm; clear f1_ f2_ f3_; subst f4_; subst f5_))
       refine hK.out _ _ zCs fun hHeld => ?_
       clear hK K
       refine zNo ?_
       refine zOn 4 (some 87) fun K hK => ?_
       refine zGs Try.func70 #[.slice A3_1 l3_1.length c3_1, .slice Ao55 t473.length co55] ?_
       with_reducible refine (spec_l19Meets.calls kj21 _ _ l3_1 _ _ t473 false _ ?side1 ?side2 ?side3 ?side4 A40.1).mono ?_
       (case side1 => exact zC (Kd.C_below HR3_1.1 HB.1))
       (case side2 => exact HC3_1.1)
       (case side3 => exact zC (Kd.R_reads' HO475.1).2.2)
       (case side4 => exact (Kd.R_reads' HO475.1).2.1)
       rintro e w' ⟨rfl, ⟨nd, rfl⟩⟩
       refine ⟨_, rfl, ?_⟩
       refine hK.out _ _ zCs fun hHeld => ?_
       clear hK K
       refine zNo ?_
       refine done_ (by kernel_rfl) ?_
       try go_wp2
       go_roundg kj21
       case measure => have := HJ5.1; have := HK2.1; have := HJ21.1; omega
       case rel => exact ⟨(t467), (t468), (wrap64 (x14_2 + 1)), zJJ, H', ⟨by have := HJ5.1; have := HK2.1; have := HJ21.1; omega⟩, ⟨by refine zrR ?_; exact Kd.R_mono HO470.1 (fun _ hk => trivial)⟩, ⟨by refine zrS ?_; exact Kd.S_mono HO472.1 (fun _ hk => hk.1.1.1.1)⟩, ⟨zK BK442.1⟩, ⟨zB1⟩⟩

/-! ### laws_szIntS: function 81 -/
def laws_szIntS.f (l0 : List Int) (a1 : Int) : Option (Int) := if (wrap64 (a1 - (l0.length : Int))) < 0 then (some (-1)) else (some (wrap64 (a1 - (l0.length : Int))))
theorem laws_szIntS.calls (A0 : Option Addr) (c0 : Nat) (l0 : List Int) (a1 : Int) (r : Int) (w : World) (hr0 : Kd.C (Kd.int .i64) w A0 l0.length l0) (hc0 : l0.length ≤ c0) (h : laws_szIntS.f l0 a1 = some r) :
  Calls Try.prog 81 #[.slice A0 l0.length c0, .int .i64 a1] w fun e w' => e = .returned (.int .i64 r) ∧ Drawn0 w w' := by
 have HR0 := zM hr0
 have HC0 := zM hc0
 clear hr0 hc0
 unfold laws_szIntS.f at h
 have H := h
 clear h
 by_cases c3 : (wrap64 (a1 - (l0.length : Int))) < 0
 ·rw [if_pos c3] at H
  have c3b0 := decide_eq_true c3
  clear c3
  obtain rfl := Option.some.inj H
  go_enter Try.func81, Try.ntmps81
  go_wp2
  go_ret
  exact ⟨zJJ, zDD⟩
 rw [if_neg c3] at H
 have c3b0 := decide_eq_false c3
 clear c3
 obtain rfl := Option.some.inj H
 go_enter Try.func81, Try.ntmps81
 go_wp2
 go_ret
 exact ⟨zJJ, zDD⟩

/-! ### laws_szHart: function 80 -/
def laws_szHart.f (l0_0 : List Int) (a0_1 : Int) (a0_2 : Int) (a1 : Int) : Option (Int) := (laws_szIntS.f l0_0 a1).bind fun t478 => (if t478 < 0 then (some (-1)) else (some t478))
theorem laws_szHart.calls (A0_0 : Option Addr) (c0_0 : Nat) (l0_0 : List Int) (a0_1 : Int) (a0_2 : Int) (a1 : Int) (r : Int) (w : World) (hr0_0 : Kd.C (Kd.int .i64) w A0_0 l0_0.length l0_0) (hc0_0 : l0_0.length ≤ c0_0) (h : laws_szHart.f l0_0 a0_1 a0_2 a1 = some r) :
  Calls Try.prog 80 #[.agg #[.slice A0_0 l0_0.length c0_0, .int .i64 a0_1, .int .i64 a0_2], .int .i64 a1] w fun e w' => e = .returned (.int .i64 r) ∧ Below w.heap.size w w' := by
 have hu95 := Try.underlying95
 have HR0_0 := zM hr0_0
 have HC0_0 := zM hc0_0
 clear hr0_0 hc0_0
 have HB := zM (Below.refl w.heap.size w)
 unfold laws_szHart.f at h
 have H := h
 clear h
 replace H := zO H
 obtain ⟨t478, A3, H⟩ := H
 by_cases c4 : t478 < 0
 ·rw [if_pos c4] at H
  have c4b0 := decide_eq_true c4
  clear c4
  obtain rfl := Option.some.inj H
  go_enter Try.func80, Try.ntmps80
  go_wp2_with (first | ((with_reducible refine zBx 2 95 #[.slice A0_0 l0_0.length c0_0, .int .i64 a0_1, .int .i64 a0_2] ?_); intro gb477 hg w5 hbox hb; have BK477 := zM hbox; have GW477 := zM (zW hg (below_size zB1)); have GE477 := zM (zW hg (below_size zB1)); replace HB := zM (below_step zB1 hb); clear hb hbox hg; have hcz6 := zc_3 (w := w5) BK477.1) | ((with_reducible refine zG Try.func81 8 #[.slice A0_0 l0_0.length c0_0, .int .i64 a1] ?_); (with_reducible refine (laws_szIntS.calls _ _ l0_0 a1 t478 _ ?side1 ?side2 A3.1).mono ?_); (case side1 => exact zC (Kd.C_below HR0_0.1 HB.1)); (case side2 => exact HC0_0.1); rintro e w' ⟨rfl, ⟨nd, rfl⟩⟩; refine ⟨_, rfl, ?_⟩))
  go_ret
  exact ⟨zE, zB1⟩
 rw [if_neg c4] at H
 have c4b0 := decide_eq_false c4
 clear c4
 obtain rfl := Option.some.inj H
 go_enter Try.func80, Try.ntmps80
 go_wp2_with (first | ((with_reducible refine zBx 2 95 #[.slice A0_0 l0_0.length c0_0, .int .i64 a0_1, .int .i64 a0_2] ?_); intro gb477 hg w7 hbox hb; have BK477 := zM hbox; have GW477 := zM (zW hg (below_size zB1)); have GE477 := zM (zW hg (below_size zB1)); replace HB := zM (below_step zB1 hb); clear hb hbox hg; have hcz8 := zc_3 (w := w7) BK477.1) | ((with_reducible refine zG Try.func81 8 #[.slice A0_0 l0_0.length c0_0, .int .i64 a1] ?_); (with_reducible refine (laws_szIntS.calls _ _ l0_0 a1 t478 _ ?side1 ?side2 A3.1).mono ?_); (case side1 => exact zC (Kd.C_below HR0_0.1 HB.1)); (case side2 => exact HC0_0.1); rintro e w' ⟨rfl, ⟨nd, rfl⟩⟩; refine ⟨_, rfl, ?_⟩))
 go_ret
 exact ⟨zE, zB1⟩

end Go.Proofs.Ytpcgecacaemalaa.PFnExactRunTo
