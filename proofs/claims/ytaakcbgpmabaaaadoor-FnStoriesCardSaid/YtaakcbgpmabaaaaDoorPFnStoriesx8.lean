-- made by wip/tools/myprint.py out of the seat's translation
import Derived.Test.YtaakcbgpmabaaaaDoorPFnStoriesx0
import Derived.Test.YtaakcbgpmabaaaaDoorPFnStoriesx4
import Derived.Test.YtaakcbgpmabaaaaDoorPFnStoriesx5
import Derived.Test.YtaakcbgpmabaaaaDoorPFnStoriesx6
namespace Go.Proofs.YtaakcbgpmabaaaaDoor.PFnStories
open Go.RowKit Go.Proofs.YtaakcbgpmabaaaaDoorW.PrintWords Go.Proofs.YtaakcbgpmabaaaaDoorW.PrintLast Go.Proofs.YtaakcbgpmabaaaaDoorW.PrintMore
attribute [local go_sem] max2_int min2_int max_two min_two max_three min_three max_four min_four   -- for this text's walks alone
set_option linter.unusedVariables false
set_option linter.unusedSimpArgs false
set_option maxHeartbeats 8000000
set_option maxRecDepth 100000

/-! ### spec_FlatStep: function 50 -/
def spec_FlatStep.j0 : Nat → List Int → List Int → Bool → List Int → Int → Int → Option (List Int × List Int × Int × Int)
 | 0, _, _, _, _, _, _ => none
 | k + 1, x0, x6, x28, x385000, x385001, x385002 => if x28 = true then ((spec_l9Copy.f x385000 x385001 x385002).bind fun bt394 => (some (x6, bt394.1, bt394.2.1, bt394.2.2))) else (if 0 ≤ x385001 then (if x385001 < (x0.length : Int) then ((spec_Decode.f (rd x0 x385001)).bind fun bt400 => ((spec_Target.f bt400.1 bt400.2.1 bt400.2.2.1 bt400.2.2.2.1 bt400.2.2.2.2.1 x385000).bind fun t407 => (if t407 ≥ 0 then (if 0 ≤ t407 then (if t407 < (x0.length : Int) then ((spec_Work.f k x385000 x385001 x385002 bt400.1 bt400.2.1 bt400.2.2.1 bt400.2.2.2.1 bt400.2.2.2.2.1 (rd x0 t407)).bind fun bt409 => (if bt409.2.2.2 ≥ 0 then (if t407 < (x6.length : Int) then (some ((x6.set (t407 : Int).toNat bt409.2.2.2), bt409.1, bt409.2.1, bt409.2.2.1)) else (none)) else (some (x6, bt409.1, bt409.2.1, bt409.2.2.1)))) else (none)) else (none)) else ((spec_Work.f k x385000 x385001 x385002 bt400.1 bt400.2.1 bt400.2.2.1 bt400.2.2.2.1 bt400.2.2.2.2.1 0).bind fun bt417 => (if bt417.2.2.2 ≥ 0 then (if 0 ≤ t407 then (if t407 < (x6.length : Int) then (some ((x6.set (t407 : Int).toNat bt417.2.2.2), bt417.1, bt417.2.1, bt417.2.2.1)) else (none)) else (none)) else (some (x6, bt417.1, bt417.2.1, bt417.2.2.1))))))) else (none)) else (none))
def spec_FlatStep.f (k : Nat) (l0 : List Int) (l1_0 : List Int) (a1_1 : Int) (a1_2 : Int) : Option (List Int × List Int × Int × Int) := (some (([] : List Int) : List Int)).bind fun y386 => (if y386.length + l0.length < 17592186044416 then ((some (y386 ++ l0 : List Int)).bind fun y389 => ((spec_l1Words.f k l0 24).bind fun t392 => (if t392 = true then ((spec_HartOk.f k l1_0 a1_1 a1_2).bind fun t393 => (if t393 = true then (spec_FlatStep.j0 k l0 y389 (a1_2 != 0) l1_0 a1_1 a1_2) else (spec_FlatStep.j0 k l0 y389 true l1_0 a1_1 a1_2))) else (spec_FlatStep.j0 k l0 y389 true l1_0 a1_1 a1_2)))) else (none))
theorem spec_FlatStep.mono_l : ∀ k, (∀ y0 y1 y2 y3 y4 y5, LeO (spec_FlatStep.j0 k y0 y1 y2 y3 y4 y5) (spec_FlatStep.j0 (k + 1) y0 y1 y2 y3 y4 y5))
 | 0 => fun _ _ _ _ _ _ r h => by simp [spec_FlatStep.j0] at h
 | k + 1 => by
  have ih0 := spec_FlatStep.mono_l k
  ·intros
   unfold spec_FlatStep.j0
   have mo0 := @spec_HartOk.mono
   have mo1 := @spec_Work.mono
   have mo2 := @spec_l1Words.mono
   exact zL
theorem spec_FlatStep.mono : ∀ a0 a1 a2 a3 k, LeO (spec_FlatStep.f k a0 a1 a2 a3) (spec_FlatStep.f (k + 1) a0 a1 a2 a3) := by
 intro a0 a1 a2 a3 k
 have ih0 := spec_FlatStep.mono_l k
 unfold spec_FlatStep.f
 have mo0 := @spec_HartOk.mono
 have mo1 := @spec_Work.mono
 have mo2 := @spec_l1Words.mono
 exact zL
theorem spec_FlatStep.calls (k : Nat) (A0 : Option Addr) (c0 : Nat) (l0 : List Int) (A1_0 : Option Addr) (c1_0 : Nat) (l1_0 : List Int) (a1_1 : Int) (a1_2 : Int) (r1 : List Int) (r2 : List Int) (r3 : Int) (r4 : Int) (w : World) (hr0 : Kd.C (Kd.int .i64) w A0 l0.length l0) (hc0 : l0.length ≤ c0) (hr1_0 : Kd.C (Kd.int .i64) w A1_0 l1_0.length l1_0) (hc1_0 : l1_0.length ≤ c1_0) (h : spec_FlatStep.f k l0 l1_0 a1_1 a1_2 = some (r1, r2, r3, r4)) :
  Calls Tryd.prog 50 #[.slice A0 l0.length c0, .agg #[.slice A1_0 l1_0.length c1_0, .int .i64 a1_1, .int .i64 a1_2]] w fun e w' => ∃ v0_ v1_ : Value, e = .returned (.tuple #[v0_, .agg #[v1_, .int .i64 r3, .int .i64 r4]]) ∧ Kd.R (Kd.int .i64) 3 w' w.heap.size (fun k_ => some k_ ≠ (v1_ : Value).ownBlock) v0_ r1 ∧ Kd.R (Kd.int .i64) 3 w' w.heap.size (fun k_ => some k_ ≠ (v0_ : Value).ownBlock) v1_ r2 ∧ Below w.heap.size w w' := by
 have hu80 := Tryd.underlying80
 have hu93 := Tryd.underlying93
 have HR0 := zM hr0
 have HC0 := zM hc0
 clear hr0 hc0
 have HR1_0 := zM hr1_0
 have HC1_0 := zM hc1_0
 clear hr1_0 hc1_0
 have HB := zM (Below.refl w.heap.size w)
 unfold spec_FlatStep.f at h
 have H := h
 clear h
 replace H := zY H
 obtain ⟨y386, Ny386, H⟩ := H
 replace H := zIn H
 obtain ⟨LMc3, H⟩ := H
 replace H := zY H
 obtain ⟨y389, Ny389, H⟩ := H
 have HC4 := zM H
 clear H
 go_enter Tryd.func50, Tryd.ntmps50
 go_upto_region 2 with (first | ((with_reducible refine zBx 3 80 #[.slice A1_0 l1_0.length c1_0, .int .i64 a1_1, .int .i64 a1_2] ?_); intro gb384 hg w5 hbox hb; have BK384 := zM hbox; have GW384 := zM (zW hg (below_size zB3)); have GE384 := zM (zW hg (below_size zB3)); replace HB := zM (below_step zB3 hb); clear hb hbox hg) | ((with_reducible refine zBx 5 80 #[.slice none 0 0, .int .i64 0, .int .i64 0] ?_); intro gb385 hg w6 hbox hb; have BK385 := zM hbox; have GW385 := zM (zW hg (below_size zB3)); have GE385 := zM (zW hg (below_size zB3)); replace HB := zM (below_step zB3 hb); have NB384_385 := zM ((zn BK384.1 hg : gb384 ≠ gb385)); have NB385_384 := zM ((zm BK384.1 hg : gb385 ≠ gb384)); replace BK384 := zM (zb BK384.1 hb); clear hb hbox hg) | ((with_reducible refine gate_dst (N := 13) rfl ?_); refine Kd.R_lit (Kd.int .i64) _ 3 ?hg (N := 13) ?hd (xs := ([] : List Int)) (inner := []) (ok := fun _ => True) (okp := fun _ => True) ?hr ?hp (fun _ hk => hk) trivial (Below.refl _ _) (Nat.le_refl _) (by simp) ?_; (case hd => rfl); (case hg => rfl); (case hr => exact zHH); (case hp => exact (Reps.none _ _)); intro v387 w7 ho8 hb hg_ hnew_; clear hg_ hnew_; (first | rw [← Ny386.1] at ho8 | (simp only [Int.reduceToNat] at ho8; rw [← Ny386.1] at ho8)); have HO388 := zM (Kd.R_lower ho8 (below_size zB3)); replace BK384 := zM (zb BK384.1 hb); replace BK385 := zM (zb BK385.1 hb); replace HB := zM (below_step zB3 hb); clear hb ho8) | ((with_reducible refine gate_builtin (b := .append) (xs := #[.tmp 13, .tmp 14]) rfl ?_); at_builtin; refine Kd.R_append_rows (Kd.int .i64) (w0 := w) w.heap.size rfl (.tmp 13) (.tmp 14) 36 3 (.int .i64 0) 8 rfl Tryd.underlying36 info3 rfl (by decide) (by omega) v387 y386 l0 _ _ _ (fun _ => True) (fun _ => False) rfl rfl ?aO ?aR (fun _ _ h => h) (fun _ h => h.elim) ?aF ?aB ?aS ?aL ?_; (case aR => exact zC (Kd.C_below HR0.1 HB.1)); (case aB => exact zB3); (case aF => exact (fun _ _ => trivial)); (case aO => exact (zR HO388.1)); (case aS => exact (below_size zB3)); (case aL => have := LMc3.out; omega); intro v390 w9 ho hb hg hat; rw [← Ny389.1] at ho; replace BK384 := zM (zg BK384.1 hg (Kd.R_ne HO388.1 BK384.1 (by decide))); replace BK385 := zM (zg BK385.1 hg (Kd.R_ne HO388.1 BK385.1 (by decide))); replace HB := zM hb; have HO391 := zM ho; clear HO388; clear ho hb hg hat))
 (try simp only [Act.put, List.setIfInBounds_toArray, List.set_cons_zero, List.set_cons_succ])
 go_cut [28] (fun v28 wc => ∃ (kq : Nat) (x28_3 : Bool), v28 = .bool x28_3 ∧ Aside0 (spec_FlatStep.j0 kq l0 y389 x28_3 l1_0 a1_1 a1_2 = some (r1, r2, r3, r4)) ∧ Aside0 (kq ≤ k) ∧ Aside0 (Kd.R (Kd.int .i64) 3 wc w.heap.size (fun _ => True) v390 y389) ∧ Aside0 (wc.heap[gb384]? = some (.cells #[(.slice A1_0 l1_0.length c1_0), .int .i64 a1_1, .int .i64 a1_2] 80 (0, 0))) ∧ Aside0 (wc.heap[gb385]? = some (.cells #[(.slice none 0 0), .int .i64 0, .int .i64 0] 80 (0, 0))) ∧ Aside0 (Below w.heap.size w wc))
 case first =>
  have H := HC4.1
  clear HC4
  replace H := zO H
  obtain ⟨t392, A10, H⟩ := H
  by_cases c11 : t392 = true
  rotate_left
  ·replace c11 := Bool.eq_false_iff.mpr c11
   subst c11
   rw [if_neg zF] at H
   have H' := zM H
   clear H
   go_wp2_with (first | ((with_reducible refine gate_callee (f := 59) rfl ?_); refine goesL_ (some 17) rfl rfl Tryd.func59 (by kernel_rfl) rfl #[.slice A0 l0.length c0, .int .i64 24] rfl zT ?_; (with_reducible refine (spec_l1Words.calls k _ _ l0 24 false _ ?side1 ?side2 A10.1).mono ?_); (case side1 => exact zC (Kd.C_below HR0.1 HB.1)); (case side2 => exact HC0.1); rintro e w' ⟨rfl, ⟨nd, rfl⟩⟩; refine ⟨_, rfl, ?_⟩))
   go_meet
   case rel => exact ⟨_, (true), zJJ, H', ⟨by first | omega | exact Nat.le_refl _⟩, ⟨zR HO391.1⟩, ⟨zK BK384.1⟩, ⟨zK BK385.1⟩, ⟨zB3⟩⟩
  subst c11
  rw [if_pos rfl] at H
  replace H := zO H
  obtain ⟨t393, A12, H⟩ := H
  by_cases c13 : t393 = true
  rotate_left
  ·replace c13 := Bool.eq_false_iff.mpr c13
   subst c13
   rw [if_neg zF] at H
   have H' := zM H
   clear H
   go_wp2_with (first | ((with_reducible refine gate_callee (f := 59) rfl ?_); refine goesL_ (some 17) rfl rfl Tryd.func59 (by kernel_rfl) rfl #[.slice A0 l0.length c0, .int .i64 24] rfl zT ?_; (with_reducible refine (spec_l1Words.calls k _ _ l0 24 true _ ?side1 ?side2 A10.1).mono ?_); (case side1 => exact zC (Kd.C_below HR0.1 HB.1)); (case side2 => exact HC0.1); rintro e w' ⟨rfl, ⟨nd, rfl⟩⟩; refine ⟨_, rfl, ?_⟩; have hnb18 := NB384_385.1; have hnc18 := NB385_384.1; have hcz19 := zc_3 (w := w9) BK384.1) | (go_at_call 47; (with_reducible refine (spec_HartOk.calls k _ _ l1_0 a1_1 a1_2 false _ ?side1 ?side2 A12.1).mono ?_); (case side1 => repeat (first | exact (Kd.C_below HR1_0.1 zB3) | (with_reducible refine Kd.C_alloc ?_ _) | (with_reducible refine Kd.C_drewN ?_ _) | (with_reducible refine Kd.C_drew ?_))); (case side2 => exact HC1_0.1); rintro e w20 ⟨rfl, hb⟩; replace HO391 := zM (Kd.R_below (zR HO391.1) hb); replace BK384 := zM (zb BK384.1 hb); replace BK385 := zM (zb BK385.1 hb); replace HB := zM (below_step zB3 hb); clear hb))
   go_meet
   case rel => exact ⟨_, (true), zJJ, H', ⟨by first | omega | exact Nat.le_refl _⟩, ⟨zR HO391.1⟩, ⟨zK BK384.1⟩, ⟨zK BK385.1⟩, ⟨zB3⟩⟩
  subst c13
  rw [if_pos rfl] at H
  have H' := zM H
  clear H
  go_wp2_with (first | ((with_reducible refine gate_callee (f := 59) rfl ?_); refine goesL_ (some 17) rfl rfl Tryd.func59 (by kernel_rfl) rfl #[.slice A0 l0.length c0, .int .i64 24] rfl zT ?_; (with_reducible refine (spec_l1Words.calls k _ _ l0 24 true _ ?side1 ?side2 A10.1).mono ?_); (case side1 => exact zC (Kd.C_below HR0.1 HB.1)); (case side2 => exact HC0.1); rintro e w' ⟨rfl, ⟨nd, rfl⟩⟩; refine ⟨_, rfl, ?_⟩; have hnb14 := NB384_385.1; have hnc14 := NB385_384.1; have hcz15 := zc_3 (w := w9) BK384.1) | (go_at_call 47; (with_reducible refine (spec_HartOk.calls k _ _ l1_0 a1_1 a1_2 true _ ?side1 ?side2 A12.1).mono ?_); (case side1 => repeat (first | exact (Kd.C_below HR1_0.1 zB3) | (with_reducible refine Kd.C_alloc ?_ _) | (with_reducible refine Kd.C_drewN ?_ _) | (with_reducible refine Kd.C_drew ?_))); (case side2 => exact HC1_0.1); rintro e w16 ⟨rfl, hb⟩; replace HO391 := zM (Kd.R_below (zR HO391.1) hb); replace BK384 := zM (zb BK384.1 hb); replace BK385 := zM (zb BK385.1 hb); replace HB := zM (below_step zB3 hb); clear hb; have hcz17 := zc_3 (w := w16) BK384.1))
  go_meet
  case rel => exact ⟨_, ((a1_2 != 0)), zJJ, H', ⟨by first | omega | exact Nat.le_refl _⟩, ⟨zR HO391.1⟩, ⟨zK BK384.1⟩, ⟨zK BK385.1⟩, ⟨zB3⟩⟩
 case rest =>
  clear HC4
  obtain ⟨kq, x28_3, rfl, HA, HJ3, HO_6, BK384, BK385, HB⟩ := hcut
  cases kq with
  | zero => exact absurd HA.1 (by simp [spec_FlatStep.j0])
  | succ kj3 =>
   have H := HA.1
   clear HA
   simp only [spec_FlatStep.j0] at H
   by_cases c21 : x28_3 = true
   ·subst c21
    rw [if_pos rfl] at H
    replace H := zO H
    obtain ⟨⟨t394, t397, t398⟩, A22, H⟩ := H
    try dsimp only at H
    simp only [Option.some.injEq, Prod.mk.injEq] at H
    obtain ⟨rfl, rfl, rfl, rfl⟩ := H
    have hnb23 := NB384_385.1
    have hnc23 := NB385_384.1
    have hcz24 := zc_3 (w := wc) BK384.1
    go_wp2_with (first | ((with_reducible refine gate_callee (f := 64) rfl ?_); refine goesL_ (some 31) rfl rfl Tryd.func64 (by kernel_rfl) rfl #[.agg #[.slice A1_0 l1_0.length c1_0, .int .i64 a1_1, .int .i64 a1_2]] rfl zT ?_; (with_reducible refine (spec_l9Copy.calls _ _ l1_0 a1_1 a1_2 t394 t397 t398 _ ?side1 ?side2 A22.1).mono ?_); (case side1 => exact zC (Kd.C_below HR1_0.1 HB.1)); (case side2 => exact HC1_0.1); rintro e w25 ⟨v395, rfl, ho0, hb⟩; refine ⟨_, rfl, ?_⟩; have HO396 := zM (Kd.R_lower (Kd.R_new' ho0 (Kd.R_lt (zR HO_6.1))) (below_size zB3)); replace HO_6 := zM (Kd.R_elder' (zR HO_6.1) (Kd.R_base ho0) hb); replace BK384 := zM (zb BK384.1 hb); replace BK385 := zM (zb BK385.1 hb); replace HB := zM (below_step zB3 hb); clear hb ho0; obtain ⟨Ao26, co26, eo26⟩ := Kd.R_slice HO396.1; subst eo26; have hcz27 := zc_3 (w := w25) BK385.1))
    refine bodyPost_ret (results_tc rfl _ _ gb385 80 #[.slice Ao26 t394.length co26, .int .i64 t397, .int .i64 t398] (0, 0) _ rfl (by exact zp3 (zK BK385.1)) Tryd.underlying80 rfl (by kernel_rfl)) rfl ?_
    exact ⟨_, _, zE, by refine zrR ?_; exact Kd.R_mono (zfR (zfR (zfR (Kd.R_types HO_6.1 BK385.1 (by decide))))) (fun _ hk => hk.1.2), by refine zrR ?_; exact Kd.R_mono (zfR (zfR (zfR (Kd.R_types HO396.1 BK385.1 (by decide))))) (fun _ hk => hk.1.2), zB3⟩
   replace c21 := Bool.eq_false_iff.mpr c21
   subst c21
   rw [if_neg zF] at H
   replace H := zIt H
   obtain ⟨c28b0, H⟩ := H
   replace H := zIt H
   obtain ⟨c29b0, H⟩ := H
   replace H := zO H
   obtain ⟨⟨t400, t401, t402, t403, t404, t405⟩, A30, H⟩ := H
   try dsimp only at H
   replace H := zO H
   obtain ⟨t407, A31, H⟩ := H
   by_cases c32 : t407 ≥ 0
   rotate_left
   ·rw [if_neg c32] at H
    have c32b0 := decide_eq_false c32
    clear c32
    replace H := zO H
    obtain ⟨⟨t417, t420, t421, t422⟩, A87, H⟩ := H
    try dsimp only at H
    by_cases c88 : t422 ≥ 0
    rotate_left
    ·rw [if_neg c88] at H
     have c88b0 := decide_eq_false c88
     clear c88
     simp only [Option.some.injEq, Prod.mk.injEq] at H
     obtain ⟨rfl, rfl, rfl, rfl⟩ := H
     have hnb117 := NB384_385.1
     have hnc117 := NB385_384.1
     have hcz118 := zc_3 (w := wc) BK384.1
     obtain ⟨p399, q399, ad399, e399, hx399_0⟩ := zRd (Kd.at_int HR0.1 a1_1)
     cases e399
     replace hx399_0 := zHx HB.1 hx399_0
     try go_wp2_with (first | ((with_reducible refine gate_callee (f := 61) rfl ?_); refine goesL_ (some 38) rfl rfl Tryd.func61 (by kernel_rfl) rfl #[.int .i64 (rd l0 a1_1)] rfl zT ?_; (with_reducible refine (spec_Decode.calls (rd l0 a1_1) t400 t401 t402 t403 t404 t405 _ A30.1).mono ?_); rintro e w119 ⟨rfl, hb⟩; refine ⟨_, rfl, ?_⟩; replace HO_6 := zM (Kd.R_below (zR HO_6.1) hb); replace BK384 := zM (zb BK384.1 hb); replace BK385 := zM (zb BK385.1 hb); replace HB := zM (below_step zB3 hb); clear hb) | ((with_reducible refine zBx 7 93 #[.int .i64 0, .int .i64 0, .int .i64 0, .int .i64 0, .int .i64 0] ?_); intro gb406 hg w120 hbox hb; replace HO_6 := zM (Kd.R_below (zR HO_6.1) hb); have BK406 := zM hbox; have GW406 := zM (zW hg (below_size zB3)); have GE406 := zM (zW hg (below_size zB3)); replace HB := zM (below_step zB3 hb); have NB384_406 := zM ((zn BK384.1 hg : gb384 ≠ gb406)); have NB406_384 := zM ((zm BK384.1 hg : gb406 ≠ gb384)); replace BK384 := zM (zb BK384.1 hb); have NB385_406 := zM ((zn BK385.1 hg : gb385 ≠ gb406)); have NB406_385 := zM ((zm BK385.1 hg : gb406 ≠ gb385)); replace BK385 := zM (zb BK385.1 hb); clear hb hbox hg; have hnb121 := NB406_384.1; have hnc121 := NB384_406.1; have hnb122 := NB406_385.1; have hnc122 := NB385_406.1; have hcz123 := zc_5 (w := w120) BK406.1; have hcz124 := zc_3 (w := w120) BK384.1) | ((with_reducible refine gate_callee (f := 62) rfl ?_); refine goesL_ (some 44) rfl rfl Tryd.func62 (by kernel_rfl) rfl #[.agg #[.int .i64 t400, .int .i64 t401, .int .i64 t402, .int .i64 t403, .int .i64 t404], .slice A1_0 l1_0.length c1_0] rfl zT ?_; (with_reducible refine (spec_Target.calls t400 t401 t402 t403 t404 _ _ l1_0 t407 _ ?side1 ?side2 A31.1).mono ?_); (case side1 => exact Kd.C_below HR1_0.1 zB3); (case side2 => exact HC1_0.1); rintro e w125 ⟨rfl, hb⟩; refine ⟨_, rfl, ?_⟩; replace HO_6 := zM (Kd.R_below (by refine zrR ?_; exact (Kd.R_mono (zfR (zfR (zfR (zfR (zfR (Kd.R_types HO_6.1 BK406.1 (by decide))))))) (fun _ h_ => h_.1))) hb); replace BK384 := zM (zf BK384.1 hb); replace BK385 := zM (zf BK385.1 hb); replace BK406 := zM (blk_below (g := gb406) (o := .cells #[.int .i64 t400, .int .i64 t401, .int .i64 t402, .int .i64 t403, .int .i64 t404] 93 (0, 0)) (by exact zp5 (zK BK406.1)) hb); replace HB := zM (below_step zB3 hb); clear hb; have hcz126 := zc_3 (w := w125) BK384.1; have hcz127 := zc_5 (w := w125) BK406.1) | ((with_reducible refine gate_callee (f := 63) rfl ?_); refine goesL_ (some 55) rfl rfl Tryd.func63 (by kernel_rfl) rfl #[.agg #[.slice A1_0 l1_0.length c1_0, .int .i64 a1_1, .int .i64 a1_2], .agg #[.int .i64 t400, .int .i64 t401, .int .i64 t402, .int .i64 t403, .int .i64 t404], .int .i64 0] rfl zT ?_; (with_reducible refine (spec_Work.calls kj3 _ _ l1_0 a1_1 a1_2 t400 t401 t402 t403 t404 0 t417 t420 t421 t422 _ ?side1 ?side2 A87.1).mono ?_); (case side1 => exact zC (Kd.C_below HR1_0.1 HB.1)); (case side2 => exact HC1_0.1); rintro e w128 ⟨v418, rfl, ho0, hb⟩; refine ⟨_, rfl, ?_⟩; have HO419 := zM (Kd.R_lower (Kd.R_new' ho0 (Kd.R_lt (zR HO_6.1))) (below_size zB3)); replace HO_6 := zM (Kd.R_elder' (zR HO_6.1) (Kd.R_base ho0) hb); replace BK384 := zM (zb BK384.1 hb); replace BK385 := zM (zb BK385.1 hb); replace BK406 := zM (zb BK406.1 hb); replace HB := zM (below_step zB3 hb); clear hb ho0) | ((with_reducible refine zBx 11 80 #[.slice none 0 0, .int .i64 0, .int .i64 0] ?_); intro gb423 hg w129 hbox hb; replace HO_6 := zM (Kd.R_below (zR HO_6.1) hb); replace HO419 := zM (Kd.R_below (zR HO419.1) hb); have BK423 := zM hbox; have GW423 := zM (zW hg (below_size zB3)); have GE423 := zM (zW hg (below_size zB3)); replace HB := zM (below_step zB3 hb); have NB384_423 := zM ((zn BK384.1 hg : gb384 ≠ gb423)); have NB423_384 := zM ((zm BK384.1 hg : gb423 ≠ gb384)); replace BK384 := zM (zb BK384.1 hb); have NB385_423 := zM ((zn BK385.1 hg : gb385 ≠ gb423)); have NB423_385 := zM ((zm BK385.1 hg : gb423 ≠ gb385)); replace BK385 := zM (zb BK385.1 hb); have NB406_423 := zM ((zn BK406.1 hg : gb406 ≠ gb423)); have NB423_406 := zM ((zm BK406.1 hg : gb423 ≠ gb406)); replace BK406 := zM (zb BK406.1 hb); clear hb hbox hg; obtain ⟨Ao130, co130, eo130⟩ := Kd.R_slice HO419.1; subst eo130; have hnb131 := NB423_384.1; have hnc131 := NB384_423.1; have hnb132 := NB423_385.1; have hnc132 := NB385_423.1; have hnb133 := NB423_406.1; have hnc133 := NB406_423.1; have hcz134 := zc_3 (w := w129) BK423.1))
     generalize hw_ : (((w129.setCell ⟨gb423, 0, none⟩ (.slice Ao130 t417.length co130)).setCell ⟨gb423, 1, none⟩ (.int .i64 t420)).setCell ⟨gb423, 2, none⟩ (.int .i64 t421)) = w135
     have n0_ : Aside0 (Kd.R (Kd.int .i64) 3 w135 w.heap.size (fun k_ => some k_ ≠ (.slice Ao130 t417.length co130 : Value).ownBlock) v390 y389) := ⟨by rw [← hw_]; refine zrR ?_; exact Kd.R_mono (zfR (zfR (zfR (Kd.R_types HO_6.1 BK423.1 (by decide))))) (fun _ hk => hk.1.2)⟩
     have n1_ : Aside0 (Kd.R (Kd.int .i64) 3 w135 w.heap.size (fun k_ => some k_ ≠ (v390 : Value).ownBlock) (.slice Ao130 t417.length co130) t417) := ⟨by rw [← hw_]; refine zrR ?_; exact Kd.R_mono (zfR (zfR (zfR (Kd.R_types HO419.1 BK423.1 (by decide))))) (fun _ hk => hk.1.2)⟩
     have n2_ : Aside0 (w135.heap[gb384]? = some (.cells #[.slice A1_0 l1_0.length c1_0, .int .i64 a1_1, .int .i64 a1_2] 80 (0, 0))) := ⟨by rw [← hw_]; exact zPq⟩
     have n3_ : Aside0 (w135.heap[gb385]? = some (.cells #[.slice none 0 0, .int .i64 0, .int .i64 0] 80 (0, 0))) := ⟨by rw [← hw_]; exact zPq⟩
     have n4_ : Aside0 (w135.heap[gb406]? = some (.cells #[.int .i64 t400, .int .i64 t401, .int .i64 t402, .int .i64 t403, .int .i64 t404] 93 (0, 0))) := ⟨by rw [← hw_]; exact zPq⟩
     have n5_ : Aside0 (w135.heap[gb423]? = some (.cells #[.slice Ao130 t417.length co130, .int .i64 t420, .int .i64 t421] 80 (0, 0))) := ⟨by rw [← hw_]; exact zp3 (zK BK423.1)⟩
     have n6_ : Aside0 (Below w.heap.size w w135) := ⟨by rw [← hw_]; exact zB3⟩
     (try clear HO_6)
     (try clear HO419)
     (try clear BK384)
     (try clear BK385)
     (try clear BK406)
     (try clear BK423)
     (try clear HB)
     clear hw_
     have HO_6 := n0_
     have HO419 := n1_
     have BK384 := n2_
     have BK385 := n3_
     have BK406 := n4_
     have BK423 := n5_
     have HB := n6_
     clear n0_ n1_ n2_ n3_ n4_ n5_ n6_
     replace HO_6 := zM (Kd.R_drew HO_6.1)
     replace HO419 := zM (Kd.R_drew HO419.1)
     replace BK384 := zM (blk_drew BK384.1)
     replace BK385 := zM (blk_drew BK385.1)
     replace BK406 := zM (blk_drew BK406.1)
     replace BK423 := zM (blk_drew BK423.1)
     replace HB := zM (below_drew1 HB.1)
     refine start_ (n := 4) (S := fun w' => w'.cell? ⟨gb423, 0, none⟩ = some (.slice Ao130 t417.length co130) ∧ w'.cell? ⟨gb423, 1, none⟩ = some (.int .i64 t420) ∧ w'.cell? ⟨gb423, 2, none⟩ = some (.int .i64 t421)) (ds := []) #[false, false, false, false] (by kernel_rfl) rfl rfl ⟨(blk_cell BK423.1 0).trans rfl, (blk_cell BK423.1 1).trans rfl, (blk_cell BK423.1 2).trans rfl⟩ (fun hHeld => ?_)
     generalize w135.drew = w136 at HO_6 HO419 BK384 BK385 BK406 BK423 HB hHeld ⊢
     refine zPu 0 ?_
     refine zPu 2 ?_
     refine zTk3 1 hHeld ?_
     refine zOn 3 none fun K hK => ?_
     obtain ⟨hs137, hfs137⟩ := zHs BK385.1 0
     have hns137_0 := NB384_385.1
     have hns137_2 := NB406_385.1
     have hns137_3 := NB423_385.1
     have hms137_0 := NB385_384.1
     have hms137_2 := NB385_406.1
     have hms137_3 := NB385_423.1
     obtain ⟨hs138, hfs138⟩ := zHs BK385.1 1
     have hns138_0 := NB384_385.1
     have hns138_2 := NB406_385.1
     have hns138_3 := NB423_385.1
     have hms138_0 := NB385_384.1
     have hms138_2 := NB385_406.1
     have hms138_3 := NB385_423.1
     obtain ⟨hs139, hfs139⟩ := zHs BK385.1 2
     have hns139_0 := NB384_385.1
     have hns139_2 := NB406_385.1
     have hns139_3 := NB423_385.1
     have hms139_0 := NB385_384.1
     have hms139_2 := NB385_406.1
     have hms139_3 := NB385_423.1
     refine skip_ (w1 := ?_) (by rfl) rfl ?_ ?_
     rotate_left
     ·go_simp
      rfl
     refine hK.out _ _ zCs fun hHeld => ?_
     clear hK K
     refine done_ (by kernel_rfl) ?_
     try go_wp2
     refine bodyPost_ret (results_tc rfl _ _ gb385 80 #[.slice Ao130 t417.length co130, .int .i64 t420, .int .i64 t421] (0, 0) _ rfl (by exact zp3 (zK BK385.1)) Tryd.underlying80 rfl (by kernel_rfl)) rfl ?_
     exact ⟨_, _, zE, by refine zrR ?_; exact Kd.R_mono (zfR (zfR (zfR (Kd.R_types HO_6.1 BK385.1 (by decide))))) (fun _ hk => hk.1), by refine zrR ?_; exact Kd.R_mono (zfR (zfR (zfR (Kd.R_types HO419.1 BK385.1 (by decide))))) (fun _ hk => hk.1), zB3⟩
    rw [if_pos c88] at H
    have c88b0 := decide_eq_true c88
    clear c88
    replace H := zIt H
    obtain ⟨c89b0, H⟩ := H
    replace H := zIt H
    obtain ⟨c90b0, H⟩ := H
    generalize hy424 : ((y389.set (t407 : Int).toNat t422) : List Int) = y424 at H
    have Ny424 := zM hy424.symm
    clear hy424
    simp only [Option.some.injEq, Prod.mk.injEq] at H
    obtain ⟨rfl, rfl, rfl, rfl⟩ := H
    have hnb92 := NB384_385.1
    have hnc92 := NB385_384.1
    have hcz93 := zc_3 (w := wc) BK384.1
    obtain ⟨p399, q399, ad399, e399, hx399_0⟩ := zRd (Kd.at_int HR0.1 a1_1)
    cases e399
    replace hx399_0 := zHx HB.1 hx399_0
    try go_wp2_with (first | ((with_reducible refine gate_callee (f := 61) rfl ?_); refine goesL_ (some 38) rfl rfl Tryd.func61 (by kernel_rfl) rfl #[.int .i64 (rd l0 a1_1)] rfl zT ?_; (with_reducible refine (spec_Decode.calls (rd l0 a1_1) t400 t401 t402 t403 t404 t405 _ A30.1).mono ?_); rintro e w94 ⟨rfl, hb⟩; refine ⟨_, rfl, ?_⟩; replace HO_6 := zM (Kd.R_below (zR HO_6.1) hb); replace BK384 := zM (zb BK384.1 hb); replace BK385 := zM (zb BK385.1 hb); replace HB := zM (below_step zB3 hb); clear hb) | ((with_reducible refine zBx 7 93 #[.int .i64 0, .int .i64 0, .int .i64 0, .int .i64 0, .int .i64 0] ?_); intro gb406 hg w95 hbox hb; replace HO_6 := zM (Kd.R_below (zR HO_6.1) hb); have BK406 := zM hbox; have GW406 := zM (zW hg (below_size zB3)); have GE406 := zM (zW hg (below_size zB3)); replace HB := zM (below_step zB3 hb); have NB384_406 := zM ((zn BK384.1 hg : gb384 ≠ gb406)); have NB406_384 := zM ((zm BK384.1 hg : gb406 ≠ gb384)); replace BK384 := zM (zb BK384.1 hb); have NB385_406 := zM ((zn BK385.1 hg : gb385 ≠ gb406)); have NB406_385 := zM ((zm BK385.1 hg : gb406 ≠ gb385)); replace BK385 := zM (zb BK385.1 hb); clear hb hbox hg; have hnb96 := NB406_384.1; have hnc96 := NB384_406.1; have hnb97 := NB406_385.1; have hnc97 := NB385_406.1; have hcz98 := zc_5 (w := w95) BK406.1; have hcz99 := zc_3 (w := w95) BK384.1) | ((with_reducible refine gate_callee (f := 62) rfl ?_); refine goesL_ (some 44) rfl rfl Tryd.func62 (by kernel_rfl) rfl #[.agg #[.int .i64 t400, .int .i64 t401, .int .i64 t402, .int .i64 t403, .int .i64 t404], .slice A1_0 l1_0.length c1_0] rfl zT ?_; (with_reducible refine (spec_Target.calls t400 t401 t402 t403 t404 _ _ l1_0 t407 _ ?side1 ?side2 A31.1).mono ?_); (case side1 => exact Kd.C_below HR1_0.1 zB3); (case side2 => exact HC1_0.1); rintro e w100 ⟨rfl, hb⟩; refine ⟨_, rfl, ?_⟩; replace HO_6 := zM (Kd.R_below (by refine zrR ?_; exact (Kd.R_mono (zfR (zfR (zfR (zfR (zfR (Kd.R_types HO_6.1 BK406.1 (by decide))))))) (fun _ h_ => h_.1))) hb); replace BK384 := zM (zf BK384.1 hb); replace BK385 := zM (zf BK385.1 hb); replace BK406 := zM (blk_below (g := gb406) (o := .cells #[.int .i64 t400, .int .i64 t401, .int .i64 t402, .int .i64 t403, .int .i64 t404] 93 (0, 0)) (by exact zp5 (zK BK406.1)) hb); replace HB := zM (below_step zB3 hb); clear hb; have hcz101 := zc_3 (w := w100) BK384.1; have hcz102 := zc_5 (w := w100) BK406.1) | ((with_reducible refine gate_callee (f := 63) rfl ?_); refine goesL_ (some 55) rfl rfl Tryd.func63 (by kernel_rfl) rfl #[.agg #[.slice A1_0 l1_0.length c1_0, .int .i64 a1_1, .int .i64 a1_2], .agg #[.int .i64 t400, .int .i64 t401, .int .i64 t402, .int .i64 t403, .int .i64 t404], .int .i64 0] rfl zT ?_; (with_reducible refine (spec_Work.calls kj3 _ _ l1_0 a1_1 a1_2 t400 t401 t402 t403 t404 0 t417 t420 t421 t422 _ ?side1 ?side2 A87.1).mono ?_); (case side1 => exact zC (Kd.C_below HR1_0.1 HB.1)); (case side2 => exact HC1_0.1); rintro e w103 ⟨v418, rfl, ho0, hb⟩; refine ⟨_, rfl, ?_⟩; have HO419 := zM (Kd.R_lower (Kd.R_new' ho0 (Kd.R_lt (zR HO_6.1))) (below_size zB3)); replace HO_6 := zM (Kd.R_elder' (zR HO_6.1) (Kd.R_base ho0) hb); replace BK384 := zM (zb BK384.1 hb); replace BK385 := zM (zb BK385.1 hb); replace BK406 := zM (zb BK406.1 hb); replace HB := zM (below_step zB3 hb); clear hb ho0) | ((with_reducible refine zBx 11 80 #[.slice none 0 0, .int .i64 0, .int .i64 0] ?_); intro gb423 hg w104 hbox hb; replace HO_6 := zM (Kd.R_below (zR HO_6.1) hb); replace HO419 := zM (Kd.R_below (zR HO419.1) hb); have BK423 := zM hbox; have GW423 := zM (zW hg (below_size zB3)); have GE423 := zM (zW hg (below_size zB3)); replace HB := zM (below_step zB3 hb); have NB384_423 := zM ((zn BK384.1 hg : gb384 ≠ gb423)); have NB423_384 := zM ((zm BK384.1 hg : gb423 ≠ gb384)); replace BK384 := zM (zb BK384.1 hb); have NB385_423 := zM ((zn BK385.1 hg : gb385 ≠ gb423)); have NB423_385 := zM ((zm BK385.1 hg : gb423 ≠ gb385)); replace BK385 := zM (zb BK385.1 hb); have NB406_423 := zM ((zn BK406.1 hg : gb406 ≠ gb423)); have NB423_406 := zM ((zm BK406.1 hg : gb423 ≠ gb406)); replace BK406 := zM (zb BK406.1 hb); clear hb hbox hg; obtain ⟨Ao105, co105, eo105⟩ := Kd.R_slice HO419.1; subst eo105; have hnb106 := NB423_384.1; have hnc106 := NB384_423.1; have hnb107 := NB423_385.1; have hnc107 := NB385_423.1; have hnb108 := NB423_406.1; have hnc108 := NB406_423.1; have hcz109 := zc_3 (w := w104) BK423.1) | ((with_reducible refine gate_store (t := 80) (p := 11) rfl ?_); refine store_event (t := 80) (p := 11) (v := ?vo_w110) (w1 := (((w104.setCell ⟨gb423, 0, none⟩ (.slice Ao105 t417.length co105)).setCell ⟨gb423, 1, none⟩ (.int .i64 t420)).setCell ⟨gb423, 2, none⟩ (.int .i64 t421))) ?hg ?ho ?hn ?hr ?_; (case ho => rfl); (case hg => rfl); (case hn => rfl); (case hr => exact zHH); intro w110 hw; have n0_ : Aside0 (Kd.R (Kd.int .i64) 3 w110 w.heap.size (fun k_ => some k_ ≠ (.slice Ao105 t417.length co105 : Value).ownBlock) v390 y389) := ⟨(by rw [hw]; exact (by refine zrR ?_; exact Kd.R_mono (zfR (zfR (zfR (Kd.R_types HO_6.1 BK423.1 (by decide))))) (fun _ hk => hk.1.2)))⟩; have n1_ : Aside0 (Kd.R (Kd.int .i64) 3 w110 w.heap.size (fun k_ => some k_ ≠ (v390 : Value).ownBlock) (.slice Ao105 t417.length co105) t417) := ⟨(by rw [hw]; exact (by refine zrR ?_; exact Kd.R_mono (zfR (zfR (zfR (Kd.R_types HO419.1 BK423.1 (by decide))))) (fun _ hk => hk.1.2)))⟩; have n2_ : Aside0 (w110.heap[gb384]? = some (.cells #[.slice A1_0 l1_0.length c1_0, .int .i64 a1_1, .int .i64 a1_2] 80 (0, 0))) := ⟨(by rw [hw]; exact zPq)⟩; have n3_ : Aside0 (w110.heap[gb385]? = some (.cells #[.slice none 0 0, .int .i64 0, .int .i64 0] 80 (0, 0))) := ⟨(by rw [hw]; exact zPq)⟩; have n4_ : Aside0 (w110.heap[gb406]? = some (.cells #[.int .i64 t400, .int .i64 t401, .int .i64 t402, .int .i64 t403, .int .i64 t404] 93 (0, 0))) := ⟨(by rw [hw]; exact zPq)⟩; have n5_ : Aside0 (w110.heap[gb423]? = some (.cells #[.slice Ao105 t417.length co105, .int .i64 t420, .int .i64 t421] 80 (0, 0))) := ⟨(by rw [hw]; exact (by exact zp3 (zK BK423.1)))⟩; have n6_ : Aside0 (Below w.heap.size w w110) := ⟨(by rw [hw]; exact zB3)⟩; clear hw; clear HO_6; clear HO419; clear BK384; clear BK385; clear BK406; clear BK423; clear HB; have HO_6 := n0_; have HO419 := n1_; have BK384 := n2_; have BK385 := n3_; have BK406 := n4_; have BK423 := n5_; have HB := n6_; clear n0_ n1_ n2_ n3_ n4_ n5_ n6_; have p91 : 0 ≤ (t407 : Int) := zA; have q91 : (t407 : Int) < ((y389.length : Int) : Int) := zA; obtain ⟨go91, co91, eo91, gb91, gl91, cl91, HG91⟩ := Kd.R_form HO_6.1 (by omega); (first | cases eo91 | (injection eo91 with ea_ en_ ec_; (first | subst ea_ | (injection ea_ with ea_; subst ea_)); subst ec_; clear en_)); have GB91 := zM gb91; have GG91 := zM HG91; clear gb91 gl91 HG91; obtain ⟨hx91_0, hf91_0⟩ := Kd.R_celln 0 HO_6.1 (t407 : Int) p91 q91; replace p91 := eq_true p91; replace q91 := eq_true q91; obtain ⟨hy111_, hz111_⟩ := Kd.R_celln 0 HO_6.1 (t407 : Int) zA zA; have HP111 := Kd.R_putg HO_6.1 (t407 : Int) t422) | ((with_reducible refine gate_store (t := 3) (p := 63) rfl ?_); refine store_event (t := 3) (p := 63) (v := ?vo_w112) (w1 := (w110.setCell ⟨go91, (t407 : Int).toNat, none⟩ (.int .i64 t422))) ?hg ?ho ?hn ?hr ?_; (case ho => rfl); (case hg => rfl); (case hn => rfl); (case hr => exact zHH); intro w112 hw; have hg : w110.grownBy w112 (some go91) := (by rw [hw]; exact HP111.2); have hp_ : Kd.R (Kd.int .i64) 3 w112 w.heap.size (fun k_ => some k_ ≠ (.slice Ao105 t417.length co105 : Value).ownBlock) (.slice (some ⟨go91, 0, none⟩) y389.length co91) y424 := (by rw [hw, Ny424.1]; exact HP111.1); clear HP111; replace BK384 := zM (zg BK384.1 hg (Kd.R_ne HO_6.1 BK384.1 (by decide))); replace BK385 := zM (zg BK385.1 hg (Kd.R_ne HO_6.1 BK385.1 (by decide))); replace BK406 := zM (zg BK406.1 hg (Kd.R_ne HO_6.1 BK406.1 (by decide))); replace HO419 := zM (Kd.R_after (v := (.slice (some ⟨go91, 0, none⟩) y389.length co91)) (v1 := (.slice (some ⟨go91, 0, none⟩) y389.length co91)) (ok := (fun _ => True)) (by refine zrR ?_; exact Kd.R_mono HO419.1 (fun _ hk => ⟨trivial, hk⟩)) hg (.inl rfl)); replace BK423 := zM (zg BK423.1 hg (Kd.R_ne HO_6.1 BK423.1 (by decide))); replace HO_6 := zM hp_; replace HB := zM ((by rw [hw]; exact below_set (HB.1) GB91.1 : Below w.heap.size w w112)); clear hg hw hp_))
    replace HO_6 := zM (Kd.R_drew HO_6.1)
    replace HO419 := zM (Kd.R_drew HO419.1)
    replace BK384 := zM (blk_drew BK384.1)
    replace BK385 := zM (blk_drew BK385.1)
    replace BK406 := zM (blk_drew BK406.1)
    replace BK423 := zM (blk_drew BK423.1)
    replace HB := zM (below_drew1 HB.1)
    refine start_ (n := 4) (S := fun w' => w'.cell? ⟨gb423, 0, none⟩ = some (.slice Ao105 t417.length co105) ∧ w'.cell? ⟨gb423, 1, none⟩ = some (.int .i64 t420) ∧ w'.cell? ⟨gb423, 2, none⟩ = some (.int .i64 t421)) (ds := []) #[false, false, false, false] (by kernel_rfl) rfl rfl ⟨(blk_cell BK423.1 0).trans rfl, (blk_cell BK423.1 1).trans rfl, (blk_cell BK423.1 2).trans rfl⟩ (fun hHeld => ?_)
    generalize w112.drew = w113 at HO_6 HO419 BK384 BK385 BK406 BK423 HB hHeld ⊢
    refine zPu 0 ?_
    refine zPu 2 ?_
    refine zTk3 1 hHeld ?_
    refine zOn 3 none fun K hK => ?_
    obtain ⟨hs114, hfs114⟩ := zHs BK385.1 0
    have hns114_0 := NB384_385.1
    have hns114_2 := NB406_385.1
    have hns114_3 := NB423_385.1
    have hms114_0 := NB385_384.1
    have hms114_2 := NB385_406.1
    have hms114_3 := NB385_423.1
    obtain ⟨hs115, hfs115⟩ := zHs BK385.1 1
    have hns115_0 := NB384_385.1
    have hns115_2 := NB406_385.1
    have hns115_3 := NB423_385.1
    have hms115_0 := NB385_384.1
    have hms115_2 := NB385_406.1
    have hms115_3 := NB385_423.1
    obtain ⟨hs116, hfs116⟩ := zHs BK385.1 2
    have hns116_0 := NB384_385.1
    have hns116_2 := NB406_385.1
    have hns116_3 := NB423_385.1
    have hms116_0 := NB385_384.1
    have hms116_2 := NB385_406.1
    have hms116_3 := NB385_423.1
    refine skip_ (w1 := ?_) (by rfl) rfl ?_ ?_
    rotate_left
    ·go_simp
     rfl
    refine hK.out _ _ zCs fun hHeld => ?_
    clear hK K
    refine done_ (by kernel_rfl) ?_
    try go_wp2
    refine bodyPost_ret (results_tc rfl _ _ gb385 80 #[.slice Ao105 t417.length co105, .int .i64 t420, .int .i64 t421] (0, 0) _ rfl (by exact zp3 (zK BK385.1)) Tryd.underlying80 rfl (by kernel_rfl)) rfl ?_
    exact ⟨_, _, zE, by refine zrR ?_; exact Kd.R_mono (zfR (zfR (zfR (Kd.R_types HO_6.1 BK385.1 (by decide))))) (fun _ hk => hk.1), by refine zrR ?_; exact Kd.R_mono (zfR (zfR (zfR (Kd.R_types HO419.1 BK385.1 (by decide))))) (fun _ hk => hk.1.2), zB3⟩
   rw [if_pos c32] at H
   have c32b0 := decide_eq_true c32
   clear c32
   replace H := zIt H
   obtain ⟨c33b0, H⟩ := H
   replace H := zIt H
   obtain ⟨c34b0, H⟩ := H
   replace H := zO H
   obtain ⟨⟨t409, t412, t413, t414⟩, A35, H⟩ := H
   try dsimp only at H
   by_cases c36 : t414 ≥ 0
   rotate_left
   ·rw [if_neg c36] at H
    have c36b0 := decide_eq_false c36
    clear c36
    simp only [Option.some.injEq, Prod.mk.injEq] at H
    obtain ⟨rfl, rfl, rfl, rfl⟩ := H
    have hnb64 := NB384_385.1
    have hnc64 := NB385_384.1
    have hcz65 := zc_3 (w := wc) BK384.1
    obtain ⟨p399, q399, ad399, e399, hx399_0⟩ := zRd (Kd.at_int HR0.1 a1_1)
    cases e399
    replace hx399_0 := zHx HB.1 hx399_0
    try go_wp2_with (first | ((with_reducible refine gate_callee (f := 61) rfl ?_); refine goesL_ (some 38) rfl rfl Tryd.func61 (by kernel_rfl) rfl #[.int .i64 (rd l0 a1_1)] rfl zT ?_; (with_reducible refine (spec_Decode.calls (rd l0 a1_1) t400 t401 t402 t403 t404 t405 _ A30.1).mono ?_); rintro e w66 ⟨rfl, hb⟩; refine ⟨_, rfl, ?_⟩; replace HO_6 := zM (Kd.R_below (zR HO_6.1) hb); replace BK384 := zM (zb BK384.1 hb); replace BK385 := zM (zb BK385.1 hb); replace HB := zM (below_step zB3 hb); clear hb) | ((with_reducible refine zBx 7 93 #[.int .i64 0, .int .i64 0, .int .i64 0, .int .i64 0, .int .i64 0] ?_); intro gb406 hg w67 hbox hb; replace HO_6 := zM (Kd.R_below (zR HO_6.1) hb); have BK406 := zM hbox; have GW406 := zM (zW hg (below_size zB3)); have GE406 := zM (zW hg (below_size zB3)); replace HB := zM (below_step zB3 hb); have NB384_406 := zM ((zn BK384.1 hg : gb384 ≠ gb406)); have NB406_384 := zM ((zm BK384.1 hg : gb406 ≠ gb384)); replace BK384 := zM (zb BK384.1 hb); have NB385_406 := zM ((zn BK385.1 hg : gb385 ≠ gb406)); have NB406_385 := zM ((zm BK385.1 hg : gb406 ≠ gb385)); replace BK385 := zM (zb BK385.1 hb); clear hb hbox hg; have hnb68 := NB406_384.1; have hnc68 := NB384_406.1; have hnb69 := NB406_385.1; have hnc69 := NB385_406.1; have hcz70 := zc_5 (w := w67) BK406.1; have hcz71 := zc_3 (w := w67) BK384.1) | ((with_reducible refine gate_callee (f := 62) rfl ?_); refine goesL_ (some 44) rfl rfl Tryd.func62 (by kernel_rfl) rfl #[.agg #[.int .i64 t400, .int .i64 t401, .int .i64 t402, .int .i64 t403, .int .i64 t404], .slice A1_0 l1_0.length c1_0] rfl zT ?_; (with_reducible refine (spec_Target.calls t400 t401 t402 t403 t404 _ _ l1_0 t407 _ ?side1 ?side2 A31.1).mono ?_); (case side1 => exact Kd.C_below HR1_0.1 zB3); (case side2 => exact HC1_0.1); rintro e w72 ⟨rfl, hb⟩; refine ⟨_, rfl, ?_⟩; replace HO_6 := zM (Kd.R_below (by refine zrR ?_; exact (Kd.R_mono (zfR (zfR (zfR (zfR (zfR (Kd.R_types HO_6.1 BK406.1 (by decide))))))) (fun _ h_ => h_.1))) hb); replace BK384 := zM (zf BK384.1 hb); replace BK385 := zM (zf BK385.1 hb); replace BK406 := zM (blk_below (g := gb406) (o := .cells #[.int .i64 t400, .int .i64 t401, .int .i64 t402, .int .i64 t403, .int .i64 t404] 93 (0, 0)) (by exact zp5 (zK BK406.1)) hb); replace HB := zM (below_step zB3 hb); clear hb; have p408 : 0 ≤ (t407 : Int) := zA; have q408 : t407 < (l0.length : Int) := zA; obtain ⟨ad408, e408, hx408_0⟩ := Kd.at_int HR0.1 t407 p408 q408; obtain rfl : ad399 = ad408 := (by injection e408); replace hx408_0 := zHx HB.1 hx408_0; replace p408 := eq_true p408; replace q408 := eq_true q408; have hcz73 := zc_3 (w := w72) BK384.1; have hcz74 := zc_5 (w := w72) BK406.1) | ((with_reducible refine gate_callee (f := 63) rfl ?_); refine goesL_ (some 55) rfl rfl Tryd.func63 (by kernel_rfl) rfl #[.agg #[.slice A1_0 l1_0.length c1_0, .int .i64 a1_1, .int .i64 a1_2], .agg #[.int .i64 t400, .int .i64 t401, .int .i64 t402, .int .i64 t403, .int .i64 t404], .int .i64 (rd l0 t407)] rfl zT ?_; (with_reducible refine (spec_Work.calls kj3 _ _ l1_0 a1_1 a1_2 t400 t401 t402 t403 t404 (rd l0 t407) t409 t412 t413 t414 _ ?side1 ?side2 A35.1).mono ?_); (case side1 => exact zC (Kd.C_below HR1_0.1 HB.1)); (case side2 => exact HC1_0.1); rintro e w75 ⟨v410, rfl, ho0, hb⟩; refine ⟨_, rfl, ?_⟩; have HO411 := zM (Kd.R_lower (Kd.R_new' ho0 (Kd.R_lt (zR HO_6.1))) (below_size zB3)); replace HO_6 := zM (Kd.R_elder' (zR HO_6.1) (Kd.R_base ho0) hb); replace BK384 := zM (zb BK384.1 hb); replace BK385 := zM (zb BK385.1 hb); replace BK406 := zM (zb BK406.1 hb); replace HB := zM (below_step zB3 hb); clear hb ho0) | ((with_reducible refine zBx 11 80 #[.slice none 0 0, .int .i64 0, .int .i64 0] ?_); intro gb415 hg w76 hbox hb; replace HO_6 := zM (Kd.R_below (zR HO_6.1) hb); replace HO411 := zM (Kd.R_below (zR HO411.1) hb); have BK415 := zM hbox; have GW415 := zM (zW hg (below_size zB3)); have GE415 := zM (zW hg (below_size zB3)); replace HB := zM (below_step zB3 hb); have NB384_415 := zM ((zn BK384.1 hg : gb384 ≠ gb415)); have NB415_384 := zM ((zm BK384.1 hg : gb415 ≠ gb384)); replace BK384 := zM (zb BK384.1 hb); have NB385_415 := zM ((zn BK385.1 hg : gb385 ≠ gb415)); have NB415_385 := zM ((zm BK385.1 hg : gb415 ≠ gb385)); replace BK385 := zM (zb BK385.1 hb); have NB406_415 := zM ((zn BK406.1 hg : gb406 ≠ gb415)); have NB415_406 := zM ((zm BK406.1 hg : gb415 ≠ gb406)); replace BK406 := zM (zb BK406.1 hb); clear hb hbox hg; obtain ⟨Ao77, co77, eo77⟩ := Kd.R_slice HO411.1; subst eo77; have hnb78 := NB415_384.1; have hnc78 := NB384_415.1; have hnb79 := NB415_385.1; have hnc79 := NB385_415.1; have hnb80 := NB415_406.1; have hnc80 := NB406_415.1; have hcz81 := zc_3 (w := w76) BK415.1))
    generalize hw_ : (((w76.setCell ⟨gb415, 0, none⟩ (.slice Ao77 t409.length co77)).setCell ⟨gb415, 1, none⟩ (.int .i64 t412)).setCell ⟨gb415, 2, none⟩ (.int .i64 t413)) = w82
    have n0_ : Aside0 (Kd.R (Kd.int .i64) 3 w82 w.heap.size (fun k_ => some k_ ≠ (.slice Ao77 t409.length co77 : Value).ownBlock) v390 y389) := ⟨by rw [← hw_]; refine zrR ?_; exact Kd.R_mono (zfR (zfR (zfR (Kd.R_types HO_6.1 BK415.1 (by decide))))) (fun _ hk => hk.1.2)⟩
    have n1_ : Aside0 (Kd.R (Kd.int .i64) 3 w82 w.heap.size (fun k_ => some k_ ≠ (v390 : Value).ownBlock) (.slice Ao77 t409.length co77) t409) := ⟨by rw [← hw_]; refine zrR ?_; exact Kd.R_mono (zfR (zfR (zfR (Kd.R_types HO411.1 BK415.1 (by decide))))) (fun _ hk => hk.1.2)⟩
    have n2_ : Aside0 (w82.heap[gb384]? = some (.cells #[.slice A1_0 l1_0.length c1_0, .int .i64 a1_1, .int .i64 a1_2] 80 (0, 0))) := ⟨by rw [← hw_]; exact zPq⟩
    have n3_ : Aside0 (w82.heap[gb385]? = some (.cells #[.slice none 0 0, .int .i64 0, .int .i64 0] 80 (0, 0))) := ⟨by rw [← hw_]; exact zPq⟩
    have n4_ : Aside0 (w82.heap[gb406]? = some (.cells #[.int .i64 t400, .int .i64 t401, .int .i64 t402, .int .i64 t403, .int .i64 t404] 93 (0, 0))) := ⟨by rw [← hw_]; exact zPq⟩
    have n5_ : Aside0 (w82.heap[gb415]? = some (.cells #[.slice Ao77 t409.length co77, .int .i64 t412, .int .i64 t413] 80 (0, 0))) := ⟨by rw [← hw_]; exact zp3 (zK BK415.1)⟩
    have n6_ : Aside0 (Below w.heap.size w w82) := ⟨by rw [← hw_]; exact zB3⟩
    (try clear HO_6)
    (try clear HO411)
    (try clear BK384)
    (try clear BK385)
    (try clear BK406)
    (try clear BK415)
    (try clear HB)
    clear hw_
    have HO_6 := n0_
    have HO411 := n1_
    have BK384 := n2_
    have BK385 := n3_
    have BK406 := n4_
    have BK415 := n5_
    have HB := n6_
    clear n0_ n1_ n2_ n3_ n4_ n5_ n6_
    replace HO_6 := zM (Kd.R_drew HO_6.1)
    replace HO411 := zM (Kd.R_drew HO411.1)
    replace BK384 := zM (blk_drew BK384.1)
    replace BK385 := zM (blk_drew BK385.1)
    replace BK406 := zM (blk_drew BK406.1)
    replace BK415 := zM (blk_drew BK415.1)
    replace HB := zM (below_drew1 HB.1)
    refine start_ (n := 4) (S := fun w' => w'.cell? ⟨gb415, 0, none⟩ = some (.slice Ao77 t409.length co77) ∧ w'.cell? ⟨gb415, 1, none⟩ = some (.int .i64 t412) ∧ w'.cell? ⟨gb415, 2, none⟩ = some (.int .i64 t413)) (ds := []) #[false, false, false, false] (by kernel_rfl) rfl rfl ⟨(blk_cell BK415.1 0).trans rfl, (blk_cell BK415.1 1).trans rfl, (blk_cell BK415.1 2).trans rfl⟩ (fun hHeld => ?_)
    generalize w82.drew = w83 at HO_6 HO411 BK384 BK385 BK406 BK415 HB hHeld ⊢
    refine zPu 0 ?_
    refine zPu 2 ?_
    refine zTk3 1 hHeld ?_
    refine zOn 3 none fun K hK => ?_
    obtain ⟨hs84, hfs84⟩ := zHs BK385.1 0
    have hns84_0 := NB384_385.1
    have hns84_2 := NB406_385.1
    have hns84_3 := NB415_385.1
    have hms84_0 := NB385_384.1
    have hms84_2 := NB385_406.1
    have hms84_3 := NB385_415.1
    obtain ⟨hs85, hfs85⟩ := zHs BK385.1 1
    have hns85_0 := NB384_385.1
    have hns85_2 := NB406_385.1
    have hns85_3 := NB415_385.1
    have hms85_0 := NB385_384.1
    have hms85_2 := NB385_406.1
    have hms85_3 := NB385_415.1
    obtain ⟨hs86, hfs86⟩ := zHs BK385.1 2
    have hns86_0 := NB384_385.1
    have hns86_2 := NB406_385.1
    have hns86_3 := NB415_385.1
    have hms86_0 := NB385_384.1
    have hms86_2 := NB385_406.1
    have hms86_3 := NB385_415.1
    refine skip_ (w1 := ?_) (by rfl) rfl ?_ ?_
    rotate_left
    ·go_simp
     rfl
    refine hK.out _ _ zCs fun hHeld => ?_
    clear hK K
    refine done_ (by kernel_rfl) ?_
    try go_wp2
    refine bodyPost_ret (results_tc rfl _ _ gb385 80 #[.slice Ao77 t409.length co77, .int .i64 t412, .int .i64 t413] (0, 0) _ rfl (by exact zp3 (zK BK385.1)) Tryd.underlying80 rfl (by kernel_rfl)) rfl ?_
    exact ⟨_, _, zE, by refine zrR ?_; exact Kd.R_mono (zfR (zfR (zfR (Kd.R_types HO_6.1 BK385.1 (by decide))))) (fun _ hk => hk.1), by refine zrR ?_; exact Kd.R_mono (zfR (zfR (zfR (Kd.R_types HO411.1 BK385.1 (by decide))))) (fun _ hk => hk.1), zB3⟩
   rw [if_pos c36] at H
   have c36b0 := decide_eq_true c36
   clear c36
   replace H := zIt H
   obtain ⟨c37b0, H⟩ := H
   generalize hy416 : ((y389.set (t407 : Int).toNat t414) : List Int) = y416 at H
   have Ny416 := zM hy416.symm
   clear hy416
   simp only [Option.some.injEq, Prod.mk.injEq] at H
   obtain ⟨rfl, rfl, rfl, rfl⟩ := H
   have hnb39 := NB384_385.1
   have hnc39 := NB385_384.1
   have hcz40 := zc_3 (w := wc) BK384.1
   obtain ⟨p399, q399, ad399, e399, hx399_0⟩ := zRd (Kd.at_int HR0.1 a1_1)
   cases e399
   replace hx399_0 := zHx HB.1 hx399_0
   try go_wp2_with (first | ((with_reducible refine gate_callee (f := 61) rfl ?_); refine goesL_ (some 38) rfl rfl Tryd.func61 (by kernel_rfl) rfl #[.int .i64 (rd l0 a1_1)] rfl zT ?_; (with_reducible refine (spec_Decode.calls (rd l0 a1_1) t400 t401 t402 t403 t404 t405 _ A30.1).mono ?_); rintro e w41 ⟨rfl, hb⟩; refine ⟨_, rfl, ?_⟩; replace HO_6 := zM (Kd.R_below (zR HO_6.1) hb); replace BK384 := zM (zb BK384.1 hb); replace BK385 := zM (zb BK385.1 hb); replace HB := zM (below_step zB3 hb); clear hb) | ((with_reducible refine zBx 7 93 #[.int .i64 0, .int .i64 0, .int .i64 0, .int .i64 0, .int .i64 0] ?_); intro gb406 hg w42 hbox hb; replace HO_6 := zM (Kd.R_below (zR HO_6.1) hb); have BK406 := zM hbox; have GW406 := zM (zW hg (below_size zB3)); have GE406 := zM (zW hg (below_size zB3)); replace HB := zM (below_step zB3 hb); have NB384_406 := zM ((zn BK384.1 hg : gb384 ≠ gb406)); have NB406_384 := zM ((zm BK384.1 hg : gb406 ≠ gb384)); replace BK384 := zM (zb BK384.1 hb); have NB385_406 := zM ((zn BK385.1 hg : gb385 ≠ gb406)); have NB406_385 := zM ((zm BK385.1 hg : gb406 ≠ gb385)); replace BK385 := zM (zb BK385.1 hb); clear hb hbox hg; have hnb43 := NB406_384.1; have hnc43 := NB384_406.1; have hnb44 := NB406_385.1; have hnc44 := NB385_406.1; have hcz45 := zc_5 (w := w42) BK406.1; have hcz46 := zc_3 (w := w42) BK384.1) | ((with_reducible refine gate_callee (f := 62) rfl ?_); refine goesL_ (some 44) rfl rfl Tryd.func62 (by kernel_rfl) rfl #[.agg #[.int .i64 t400, .int .i64 t401, .int .i64 t402, .int .i64 t403, .int .i64 t404], .slice A1_0 l1_0.length c1_0] rfl zT ?_; (with_reducible refine (spec_Target.calls t400 t401 t402 t403 t404 _ _ l1_0 t407 _ ?side1 ?side2 A31.1).mono ?_); (case side1 => exact Kd.C_below HR1_0.1 zB3); (case side2 => exact HC1_0.1); rintro e w47 ⟨rfl, hb⟩; refine ⟨_, rfl, ?_⟩; replace HO_6 := zM (Kd.R_below (by refine zrR ?_; exact (Kd.R_mono (zfR (zfR (zfR (zfR (zfR (Kd.R_types HO_6.1 BK406.1 (by decide))))))) (fun _ h_ => h_.1))) hb); replace BK384 := zM (zf BK384.1 hb); replace BK385 := zM (zf BK385.1 hb); replace BK406 := zM (blk_below (g := gb406) (o := .cells #[.int .i64 t400, .int .i64 t401, .int .i64 t402, .int .i64 t403, .int .i64 t404] 93 (0, 0)) (by exact zp5 (zK BK406.1)) hb); replace HB := zM (below_step zB3 hb); clear hb; have p408 : 0 ≤ (t407 : Int) := zA; have q408 : t407 < (l0.length : Int) := zA; obtain ⟨ad408, e408, hx408_0⟩ := Kd.at_int HR0.1 t407 p408 q408; obtain rfl : ad399 = ad408 := (by injection e408); replace hx408_0 := zHx HB.1 hx408_0; replace p408 := eq_true p408; replace q408 := eq_true q408; have hcz48 := zc_3 (w := w47) BK384.1; have hcz49 := zc_5 (w := w47) BK406.1) | ((with_reducible refine gate_callee (f := 63) rfl ?_); refine goesL_ (some 55) rfl rfl Tryd.func63 (by kernel_rfl) rfl #[.agg #[.slice A1_0 l1_0.length c1_0, .int .i64 a1_1, .int .i64 a1_2], .agg #[.int .i64 t400, .int .i64 t401, .int .i64 t402, .int .i64 t403, .int .i64 t404], .int .i64 (rd l0 t407)] rfl zT ?_; (with_reducible refine (spec_Work.calls kj3 _ _ l1_0 a1_1 a1_2 t400 t401 t402 t403 t404 (rd l0 t407) t409 t412 t413 t414 _ ?side1 ?side2 A35.1).mono ?_); (case side1 => exact zC (Kd.C_below HR1_0.1 HB.1)); (case side2 => exact HC1_0.1); rintro e w50 ⟨v410, rfl, ho0, hb⟩; refine ⟨_, rfl, ?_⟩; have HO411 := zM (Kd.R_lower (Kd.R_new' ho0 (Kd.R_lt (zR HO_6.1))) (below_size zB3)); replace HO_6 := zM (Kd.R_elder' (zR HO_6.1) (Kd.R_base ho0) hb); replace BK384 := zM (zb BK384.1 hb); replace BK385 := zM (zb BK385.1 hb); replace BK406 := zM (zb BK406.1 hb); replace HB := zM (below_step zB3 hb); clear hb ho0) | ((with_reducible refine zBx 11 80 #[.slice none 0 0, .int .i64 0, .int .i64 0] ?_); intro gb415 hg w51 hbox hb; replace HO_6 := zM (Kd.R_below (zR HO_6.1) hb); replace HO411 := zM (Kd.R_below (zR HO411.1) hb); have BK415 := zM hbox; have GW415 := zM (zW hg (below_size zB3)); have GE415 := zM (zW hg (below_size zB3)); replace HB := zM (below_step zB3 hb); have NB384_415 := zM ((zn BK384.1 hg : gb384 ≠ gb415)); have NB415_384 := zM ((zm BK384.1 hg : gb415 ≠ gb384)); replace BK384 := zM (zb BK384.1 hb); have NB385_415 := zM ((zn BK385.1 hg : gb385 ≠ gb415)); have NB415_385 := zM ((zm BK385.1 hg : gb415 ≠ gb385)); replace BK385 := zM (zb BK385.1 hb); have NB406_415 := zM ((zn BK406.1 hg : gb406 ≠ gb415)); have NB415_406 := zM ((zm BK406.1 hg : gb415 ≠ gb406)); replace BK406 := zM (zb BK406.1 hb); clear hb hbox hg; obtain ⟨Ao52, co52, eo52⟩ := Kd.R_slice HO411.1; subst eo52; have hnb53 := NB415_384.1; have hnc53 := NB384_415.1; have hnb54 := NB415_385.1; have hnc54 := NB385_415.1; have hnb55 := NB415_406.1; have hnc55 := NB406_415.1; have hcz56 := zc_3 (w := w51) BK415.1) | ((with_reducible refine gate_store (t := 80) (p := 11) rfl ?_); refine store_event (t := 80) (p := 11) (v := ?vo_w57) (w1 := (((w51.setCell ⟨gb415, 0, none⟩ (.slice Ao52 t409.length co52)).setCell ⟨gb415, 1, none⟩ (.int .i64 t412)).setCell ⟨gb415, 2, none⟩ (.int .i64 t413))) ?hg ?ho ?hn ?hr ?_; (case ho => rfl); (case hg => rfl); (case hn => rfl); (case hr => exact zHH); intro w57 hw; have n0_ : Aside0 (Kd.R (Kd.int .i64) 3 w57 w.heap.size (fun k_ => some k_ ≠ (.slice Ao52 t409.length co52 : Value).ownBlock) v390 y389) := ⟨(by rw [hw]; exact (by refine zrR ?_; exact Kd.R_mono (zfR (zfR (zfR (Kd.R_types HO_6.1 BK415.1 (by decide))))) (fun _ hk => hk.1.2)))⟩; have n1_ : Aside0 (Kd.R (Kd.int .i64) 3 w57 w.heap.size (fun k_ => some k_ ≠ (v390 : Value).ownBlock) (.slice Ao52 t409.length co52) t409) := ⟨(by rw [hw]; exact (by refine zrR ?_; exact Kd.R_mono (zfR (zfR (zfR (Kd.R_types HO411.1 BK415.1 (by decide))))) (fun _ hk => hk.1.2)))⟩; have n2_ : Aside0 (w57.heap[gb384]? = some (.cells #[.slice A1_0 l1_0.length c1_0, .int .i64 a1_1, .int .i64 a1_2] 80 (0, 0))) := ⟨(by rw [hw]; exact zPq)⟩; have n3_ : Aside0 (w57.heap[gb385]? = some (.cells #[.slice none 0 0, .int .i64 0, .int .i64 0] 80 (0, 0))) := ⟨(by rw [hw]; exact zPq)⟩; have n4_ : Aside0 (w57.heap[gb406]? = some (.cells #[.int .i64 t400, .int .i64 t401, .int .i64 t402, .int .i64 t403, .int .i64 t404] 93 (0, 0))) := ⟨(by rw [hw]; exact zPq)⟩; have n5_ : Aside0 (w57.heap[gb415]? = some (.cells #[.slice Ao52 t409.length co52, .int .i64 t412, .int .i64 t413] 80 (0, 0))) := ⟨(by rw [hw]; exact (by exact zp3 (zK BK415.1)))⟩; have n6_ : Aside0 (Below w.heap.size w w57) := ⟨(by rw [hw]; exact zB3)⟩; clear hw; clear HO_6; clear HO411; clear BK384; clear BK385; clear BK406; clear BK415; clear HB; have HO_6 := n0_; have HO411 := n1_; have BK384 := n2_; have BK385 := n3_; have BK406 := n4_; have BK415 := n5_; have HB := n6_; clear n0_ n1_ n2_ n3_ n4_ n5_ n6_; have p38 : 0 ≤ (t407 : Int) := zA; have q38 : (t407 : Int) < ((y389.length : Int) : Int) := zA; obtain ⟨go38, co38, eo38, gb38, gl38, cl38, HG38⟩ := Kd.R_form HO_6.1 (by omega); (first | cases eo38 | (injection eo38 with ea_ en_ ec_; (first | subst ea_ | (injection ea_ with ea_; subst ea_)); subst ec_; clear en_)); have GB38 := zM gb38; have GG38 := zM HG38; clear gb38 gl38 HG38; obtain ⟨hx38_0, hf38_0⟩ := Kd.R_celln 0 HO_6.1 (t407 : Int) p38 q38; replace p38 := eq_true p38; replace q38 := eq_true q38; obtain ⟨hy58_, hz58_⟩ := Kd.R_celln 0 HO_6.1 (t407 : Int) zA zA; have HP58 := Kd.R_putg HO_6.1 (t407 : Int) t414) | ((with_reducible refine gate_store (t := 3) (p := 63) rfl ?_); refine store_event (t := 3) (p := 63) (v := ?vo_w59) (w1 := (w57.setCell ⟨go38, (t407 : Int).toNat, none⟩ (.int .i64 t414))) ?hg ?ho ?hn ?hr ?_; (case ho => rfl); (case hg => rfl); (case hn => rfl); (case hr => exact zHH); intro w59 hw; have hg : w57.grownBy w59 (some go38) := (by rw [hw]; exact HP58.2); have hp_ : Kd.R (Kd.int .i64) 3 w59 w.heap.size (fun k_ => some k_ ≠ (.slice Ao52 t409.length co52 : Value).ownBlock) (.slice (some ⟨go38, 0, none⟩) y389.length co38) y416 := (by rw [hw, Ny416.1]; exact HP58.1); clear HP58; replace BK384 := zM (zg BK384.1 hg (Kd.R_ne HO_6.1 BK384.1 (by decide))); replace BK385 := zM (zg BK385.1 hg (Kd.R_ne HO_6.1 BK385.1 (by decide))); replace BK406 := zM (zg BK406.1 hg (Kd.R_ne HO_6.1 BK406.1 (by decide))); replace HO411 := zM (Kd.R_after (v := (.slice (some ⟨go38, 0, none⟩) y389.length co38)) (v1 := (.slice (some ⟨go38, 0, none⟩) y389.length co38)) (ok := (fun _ => True)) (by refine zrR ?_; exact Kd.R_mono HO411.1 (fun _ hk => ⟨trivial, hk⟩)) hg (.inl rfl)); replace BK415 := zM (zg BK415.1 hg (Kd.R_ne HO_6.1 BK415.1 (by decide))); replace HO_6 := zM hp_; replace HB := zM ((by rw [hw]; exact below_set (HB.1) GB38.1 : Below w.heap.size w w59)); clear hg hw hp_))
   replace HO_6 := zM (Kd.R_drew HO_6.1)
   replace HO411 := zM (Kd.R_drew HO411.1)
   replace BK384 := zM (blk_drew BK384.1)
   replace BK385 := zM (blk_drew BK385.1)
   replace BK406 := zM (blk_drew BK406.1)
   replace BK415 := zM (blk_drew BK415.1)
   replace HB := zM (below_drew1 HB.1)
   refine start_ (n := 4) (S := fun w' => w'.cell? ⟨gb415, 0, none⟩ = some (.slice Ao52 t409.length co52) ∧ w'.cell? ⟨gb415, 1, none⟩ = some (.int .i64 t412) ∧ w'.cell? ⟨gb415, 2, none⟩ = some (.int .i64 t413)) (ds := []) #[false, false, false, false] (by kernel_rfl) rfl rfl ⟨(blk_cell BK415.1 0).trans rfl, (blk_cell BK415.1 1).trans rfl, (blk_cell BK415.1 2).trans rfl⟩ (fun hHeld => ?_)
   generalize w59.drew = w60 at HO_6 HO411 BK384 BK385 BK406 BK415 HB hHeld ⊢
   refine zPu 0 ?_
   refine zPu 2 ?_
   refine zTk3 1 hHeld ?_
   refine zOn 3 none fun K hK => ?_
   obtain ⟨hs61, hfs61⟩ := zHs BK385.1 0
   have hns61_0 := NB384_385.1
   have hns61_2 := NB406_385.1
   have hns61_3 := NB415_385.1
   have hms61_0 := NB385_384.1
   have hms61_2 := NB385_406.1
   have hms61_3 := NB385_415.1
   obtain ⟨hs62, hfs62⟩ := zHs BK385.1 1
   have hns62_0 := NB384_385.1
   have hns62_2 := NB406_385.1
   have hns62_3 := NB415_385.1
   have hms62_0 := NB385_384.1
   have hms62_2 := NB385_406.1
   have hms62_3 := NB385_415.1
   obtain ⟨hs63, hfs63⟩ := zHs BK385.1 2
   have hns63_0 := NB384_385.1
   have hns63_2 := NB406_385.1
   have hns63_3 := NB415_385.1
   have hms63_0 := NB385_384.1
   have hms63_2 := NB385_406.1
   have hms63_3 := NB385_415.1
   refine skip_ (w1 := ?_) (by rfl) rfl ?_ ?_
   rotate_left
   ·go_simp
    rfl
   refine hK.out _ _ zCs fun hHeld => ?_
   clear hK K
   refine done_ (by kernel_rfl) ?_
   try go_wp2
   refine bodyPost_ret (results_tc rfl _ _ gb385 80 #[.slice Ao52 t409.length co52, .int .i64 t412, .int .i64 t413] (0, 0) _ rfl (by exact zp3 (zK BK385.1)) Tryd.underlying80 rfl (by kernel_rfl)) rfl ?_
   exact ⟨_, _, zE, by refine zrR ?_; exact Kd.R_mono (zfR (zfR (zfR (Kd.R_types HO_6.1 BK385.1 (by decide))))) (fun _ hk => hk.1), by refine zrR ?_; exact Kd.R_mono (zfR (zfR (zfR (Kd.R_types HO411.1 BK385.1 (by decide))))) (fun _ hk => hk.1.2), zB3⟩

end Go.Proofs.YtaakcbgpmabaaaaDoor.PFnStories
