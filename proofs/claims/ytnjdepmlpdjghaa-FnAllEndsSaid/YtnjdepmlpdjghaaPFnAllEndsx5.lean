-- made by wip/tools/myprint.py out of the seat's translation
import Derived.Test.YtnjdepmlpdjghaaPFnAllEndsx0
import Derived.Test.YtnjdepmlpdjghaaPFnAllEndsx2
import Derived.Test.YtnjdepmlpdjghaaPFnAllEndsx3
import Derived.Test.YtnjdepmlpdjghaaPFnAllEndsx4
namespace Go.Proofs.Ytnjdepmlpdjghaa.PFnAllEnds
open Go.RowKit Go.Proofs.YtnjdepmlpdjghaaW.PrintWords Go.Proofs.YtnjdepmlpdjghaaW.PrintLast Go.Proofs.YtnjdepmlpdjghaaW.PrintMore
attribute [local go_sem] max2_int min2_int max_two min_two max_three min_three max_four min_four   -- for this text's walks alone
set_option linter.unusedVariables false
set_option linter.unusedSimpArgs false
set_option maxHeartbeats 8000000
set_option maxRecDepth 100000

/-! ### spec_FlatStep: function 77 -/
def spec_FlatStep.j0 : Nat → List Int → List Int → Bool → List Int → Int → Int → Option (List Int × List Int × Int × Int)
 | 0, _, _, _, _, _, _ => none
 | k + 1, x0, x6, x28, x171000, x171001, x171002 => if x28 = true then ((spec_l9Copy.f x171000 x171001 x171002).bind fun bt180 => (some (x6, bt180.1, bt180.2.1, bt180.2.2))) else (if 0 ≤ x171001 then (if x171001 < (x0.length : Int) then ((spec_Decode.f (rd x0 x171001)).bind fun bt186 => ((spec_Target.f bt186.1 bt186.2.1 bt186.2.2.1 bt186.2.2.2.1 bt186.2.2.2.2.1 x171000).bind fun t193 => (if t193 ≥ 0 then (if 0 ≤ t193 then (if t193 < (x0.length : Int) then ((spec_Work.f k x171000 x171001 x171002 bt186.1 bt186.2.1 bt186.2.2.1 bt186.2.2.2.1 bt186.2.2.2.2.1 (rd x0 t193)).bind fun bt195 => (if bt195.2.2.2 ≥ 0 then (if t193 < (x6.length : Int) then (some ((x6.set (t193 : Int).toNat bt195.2.2.2), bt195.1, bt195.2.1, bt195.2.2.1)) else (none)) else (some (x6, bt195.1, bt195.2.1, bt195.2.2.1)))) else (none)) else (none)) else ((spec_Work.f k x171000 x171001 x171002 bt186.1 bt186.2.1 bt186.2.2.1 bt186.2.2.2.1 bt186.2.2.2.2.1 0).bind fun bt203 => (if bt203.2.2.2 ≥ 0 then (if 0 ≤ t193 then (if t193 < (x6.length : Int) then (some ((x6.set (t193 : Int).toNat bt203.2.2.2), bt203.1, bt203.2.1, bt203.2.2.1)) else (none)) else (none)) else (some (x6, bt203.1, bt203.2.1, bt203.2.2.1))))))) else (none)) else (none))
def spec_FlatStep.f (k : Nat) (l0 : List Int) (l1_0 : List Int) (a1_1 : Int) (a1_2 : Int) : Option (List Int × List Int × Int × Int) := (some (([] : List Int) : List Int)).bind fun y172 => (if y172.length + l0.length < 17592186044416 then ((some (y172 ++ l0 : List Int)).bind fun y175 => ((spec_l1Words.f k l0 24).bind fun t178 => (if t178 = true then ((spec_HartOk.f k l1_0 a1_1 a1_2).bind fun t179 => (if t179 = true then (spec_FlatStep.j0 k l0 y175 (a1_2 != 0) l1_0 a1_1 a1_2) else (spec_FlatStep.j0 k l0 y175 true l1_0 a1_1 a1_2))) else (spec_FlatStep.j0 k l0 y175 true l1_0 a1_1 a1_2)))) else (none))
theorem spec_FlatStep.mono_l : ∀ k, (∀ y0 y1 y2 y3 y4 y5, LeO (spec_FlatStep.j0 k y0 y1 y2 y3 y4 y5) (spec_FlatStep.j0 (k + 1) y0 y1 y2 y3 y4 y5))
 | 0 => fun _ _ _ _ _ _ r h => by simp [spec_FlatStep.j0] at h
 | k + 1 => by
  have ih0 := spec_FlatStep.mono_l k
  ·intros
   unfold spec_FlatStep.j0
   have mo0 := @spec_HartOk.mono
   have mo1 := @spec_Work.mono
   have mo2 := @spec_l1Words.mono
   exact zL
theorem spec_FlatStep.mono : ∀ a0 a1 a2 a3 k, LeO (spec_FlatStep.f k a0 a1 a2 a3) (spec_FlatStep.f (k + 1) a0 a1 a2 a3) := by
 intro a0 a1 a2 a3 k
 have ih0 := spec_FlatStep.mono_l k
 unfold spec_FlatStep.f
 have mo0 := @spec_HartOk.mono
 have mo1 := @spec_Work.mono
 have mo2 := @spec_l1Words.mono
 exact zL
theorem spec_FlatStep.calls (k : Nat) (A0 : Option Addr) (c0 : Nat) (l0 : List Int) (A1_0 : Option Addr) (c1_0 : Nat) (l1_0 : List Int) (a1_1 : Int) (a1_2 : Int) (r1 : List Int) (r2 : List Int) (r3 : Int) (r4 : Int) (w : World) (hr0 : Kd.C (Kd.int .i64) w A0 l0.length l0) (hc0 : l0.length ≤ c0) (hr1_0 : Kd.C (Kd.int .i64) w A1_0 l1_0.length l1_0) (hc1_0 : l1_0.length ≤ c1_0) (h : spec_FlatStep.f k l0 l1_0 a1_1 a1_2 = some (r1, r2, r3, r4)) :
  Calls Try.prog 77 #[.slice A0 l0.length c0, .agg #[.slice A1_0 l1_0.length c1_0, .int .i64 a1_1, .int .i64 a1_2]] w fun e w' => ∃ v0_ v1_ : Value, e = .returned (.tuple #[v0_, .agg #[v1_, .int .i64 r3, .int .i64 r4]]) ∧ Kd.R (Kd.int .i64) 3 w' w.heap.size (fun k_ => some k_ ≠ (v1_ : Value).ownBlock) v0_ r1 ∧ Kd.R (Kd.int .i64) 3 w' w.heap.size (fun k_ => some k_ ≠ (v0_ : Value).ownBlock) v1_ r2 ∧ Below w.heap.size w w' := by
 have hu29 := Try.underlying29
 have hu59 := Try.underlying59
 have HR0 := zM hr0
 have HC0 := zM hc0
 clear hr0 hc0
 have HR1_0 := zM hr1_0
 have HC1_0 := zM hc1_0
 clear hr1_0 hc1_0
 have HB := zM (Below.refl w.heap.size w)
 unfold spec_FlatStep.f at h
 have H := h
 clear h
 replace H := zY H
 obtain ⟨y172, Ny172, H⟩ := H
 replace H := zIn H
 obtain ⟨LMc3, H⟩ := H
 replace H := zY H
 obtain ⟨y175, Ny175, H⟩ := H
 have HC4 := zM H
 clear H
 go_enter Try.func77, Try.ntmps77
 go_upto_region 2 with (first | ((with_reducible refine zBx 3 29 #[.slice A1_0 l1_0.length c1_0, .int .i64 a1_1, .int .i64 a1_2] ?_); intro gb170 hg w5 hbox hb; have BK170 := zM hbox; have GW170 := zM (zW hg (below_size zB0)); have GE170 := zM (zW hg (below_size zB0)); replace HB := zM (below_step zB0 hb); clear hb hbox hg) | ((with_reducible refine zBx 5 29 #[.slice none 0 0, .int .i64 0, .int .i64 0] ?_); intro gb171 hg w6 hbox hb; have BK171 := zM hbox; have GW171 := zM (zW hg (below_size zB0)); have GE171 := zM (zW hg (below_size zB0)); replace HB := zM (below_step zB0 hb); have NB170_171 := zM ((zn BK170.1 hg : gb170 ≠ gb171)); have NB171_170 := zM ((zm BK170.1 hg : gb171 ≠ gb170)); replace BK170 := zM (zb BK170.1 hb); clear hb hbox hg) | ((with_reducible refine gate_dst (N := 13) rfl ?_); refine Kd.R_lit (Kd.int .i64) _ 3 ?hg (N := 13) ?hd (xs := ([] : List Int)) (inner := []) (ok := fun _ => True) (okp := fun _ => True) ?hr ?hp (fun _ hk => hk) trivial (Below.refl _ _) (Nat.le_refl _) (by simp) ?_; (case hd => rfl); (case hg => rfl); (case hr => exact zHH); (case hp => exact (Reps.none _ _)); intro v173 w7 ho8 hb hg_ hnew_; clear hg_ hnew_; (first | rw [← Ny172.1] at ho8 | (simp only [Int.reduceToNat] at ho8; rw [← Ny172.1] at ho8)); have HO174 := zM (Kd.R_lower ho8 (below_size zB0)); replace BK170 := zM (zb BK170.1 hb); replace BK171 := zM (zb BK171.1 hb); replace HB := zM (below_step zB0 hb); clear hb ho8) | ((with_reducible refine gate_builtin (b := .append) (xs := #[.tmp 13, .tmp 14]) rfl ?_); at_builtin; refine Kd.R_append_rows (Kd.int .i64) (w0 := w) w.heap.size rfl (.tmp 13) (.tmp 14) 24 3 (.int .i64 0) 8 rfl Try.underlying24 info3 rfl (by decide) (by omega) v173 y172 l0 _ _ _ (fun _ => True) (fun _ => False) rfl rfl ?aO ?aR (fun _ _ h => h) (fun _ h => h.elim) ?aF ?aB ?aS ?aL ?_; (case aR => exact zC (Kd.C_below HR0.1 HB.1)); (case aB => exact zB0); (case aF => exact (fun _ _ => trivial)); (case aO => exact (zR HO174.1)); (case aS => exact (below_size zB0)); (case aL => have := LMc3.out; omega); intro v176 w9 ho hb hg hat; rw [← Ny175.1] at ho; replace BK170 := zM (zg BK170.1 hg (Kd.R_ne HO174.1 BK170.1 (by decide))); replace BK171 := zM (zg BK171.1 hg (Kd.R_ne HO174.1 BK171.1 (by decide))); replace HB := zM hb; have HO177 := zM ho; clear HO174; clear ho hb hg hat))
 (try simp only [Act.put, List.setIfInBounds_toArray, List.set_cons_zero, List.set_cons_succ])
 go_cut [28] (fun v28 wc => ∃ (kq : Nat) (x28_3 : Bool), v28 = .bool x28_3 ∧ Aside0 (spec_FlatStep.j0 kq l0 y175 x28_3 l1_0 a1_1 a1_2 = some (r1, r2, r3, r4)) ∧ Aside0 (kq ≤ k) ∧ Aside0 (Kd.R (Kd.int .i64) 3 wc w.heap.size (fun _ => True) v176 y175) ∧ Aside0 (wc.heap[gb170]? = some (.cells #[(.slice A1_0 l1_0.length c1_0), .int .i64 a1_1, .int .i64 a1_2] 29 (0, 0))) ∧ Aside0 (wc.heap[gb171]? = some (.cells #[(.slice none 0 0), .int .i64 0, .int .i64 0] 29 (0, 0))) ∧ Aside0 (Below w.heap.size w wc))
 case first =>
  have H := HC4.1
  clear HC4
  replace H := zO H
  obtain ⟨t178, A10, H⟩ := H
  by_cases c11 : t178 = true
  rotate_left
  ·replace c11 := Bool.eq_false_iff.mpr c11
   subst c11
   rw [if_neg zF] at H
   have H' := zM H
   clear H
   go_wp2_with (first | ((with_reducible refine zG Try.func53 17 #[.slice A0 l0.length c0, .int .i64 24] ?_); (with_reducible refine (spec_l1Words.calls k _ _ l0 24 false _ ?side1 ?side2 A10.1).mono ?_); (case side1 => exact zC (Kd.C_below HR0.1 HB.1)); (case side2 => exact HC0.1); rintro e w' ⟨rfl, ⟨nd, rfl⟩⟩; refine ⟨_, rfl, ?_⟩))
   go_meet
   case rel => exact ⟨_, (true), zJJ, H', ⟨by first | omega | exact Nat.le_refl _⟩, ⟨zR HO177.1⟩, ⟨zK BK170.1⟩, ⟨zK BK171.1⟩, ⟨zB0⟩⟩
  subst c11
  rw [if_pos rfl] at H
  replace H := zO H
  obtain ⟨t179, A12, H⟩ := H
  by_cases c13 : t179 = true
  rotate_left
  ·replace c13 := Bool.eq_false_iff.mpr c13
   subst c13
   rw [if_neg zF] at H
   have H' := zM H
   clear H
   go_wp2_with (first | ((with_reducible refine zG Try.func53 17 #[.slice A0 l0.length c0, .int .i64 24] ?_); (with_reducible refine (spec_l1Words.calls k _ _ l0 24 true _ ?side1 ?side2 A10.1).mono ?_); (case side1 => exact zC (Kd.C_below HR0.1 HB.1)); (case side2 => exact HC0.1); rintro e w' ⟨rfl, ⟨nd, rfl⟩⟩; refine ⟨_, rfl, ?_⟩; have hnb18 := NB170_171.1; have hnc18 := NB171_170.1; have hcz19 := zc_3 (w := w9) BK170.1) | (go_at_call 52; (with_reducible refine (spec_HartOk.calls k _ _ l1_0 a1_1 a1_2 false _ ?side1 ?side2 A12.1).mono ?_); (case side1 => repeat (first | exact (Kd.C_below HR1_0.1 zB0) | (with_reducible refine Kd.C_alloc ?_ _) | (with_reducible refine Kd.C_drewN ?_ _) | (with_reducible refine Kd.C_drew ?_))); (case side2 => exact HC1_0.1); rintro e w20 ⟨rfl, hb⟩; replace HO177 := zM (Kd.R_below (zR HO177.1) hb); replace BK170 := zM (zb BK170.1 hb); replace BK171 := zM (zb BK171.1 hb); replace HB := zM (below_step zB0 hb); clear hb))
   go_meet
   case rel => exact ⟨_, (true), zJJ, H', ⟨by first | omega | exact Nat.le_refl _⟩, ⟨zR HO177.1⟩, ⟨zK BK170.1⟩, ⟨zK BK171.1⟩, ⟨zB0⟩⟩
  subst c13
  rw [if_pos rfl] at H
  have H' := zM H
  clear H
  go_wp2_with (first | ((with_reducible refine zG Try.func53 17 #[.slice A0 l0.length c0, .int .i64 24] ?_); (with_reducible refine (spec_l1Words.calls k _ _ l0 24 true _ ?side1 ?side2 A10.1).mono ?_); (case side1 => exact zC (Kd.C_below HR0.1 HB.1)); (case side2 => exact HC0.1); rintro e w' ⟨rfl, ⟨nd, rfl⟩⟩; refine ⟨_, rfl, ?_⟩; have hnb14 := NB170_171.1; have hnc14 := NB171_170.1; have hcz15 := zc_3 (w := w9) BK170.1) | (go_at_call 52; (with_reducible refine (spec_HartOk.calls k _ _ l1_0 a1_1 a1_2 true _ ?side1 ?side2 A12.1).mono ?_); (case side1 => repeat (first | exact (Kd.C_below HR1_0.1 zB0) | (with_reducible refine Kd.C_alloc ?_ _) | (with_reducible refine Kd.C_drewN ?_ _) | (with_reducible refine Kd.C_drew ?_))); (case side2 => exact HC1_0.1); rintro e w16 ⟨rfl, hb⟩; replace HO177 := zM (Kd.R_below (zR HO177.1) hb); replace BK170 := zM (zb BK170.1 hb); replace BK171 := zM (zb BK171.1 hb); replace HB := zM (below_step zB0 hb); clear hb; have hcz17 := zc_3 (w := w16) BK170.1))
  go_meet
  case rel => exact ⟨_, ((a1_2 != 0)), zJJ, H', ⟨by first | omega | exact Nat.le_refl _⟩, ⟨zR HO177.1⟩, ⟨zK BK170.1⟩, ⟨zK BK171.1⟩, ⟨zB0⟩⟩
 case rest =>
  clear HC4
  obtain ⟨kq, x28_3, rfl, HA, HJ3, HO_6, BK170, BK171, HB⟩ := hcut
  cases kq with
  | zero => exact absurd HA.1 (by simp [spec_FlatStep.j0])
  | succ kj3 =>
   have H := HA.1
   clear HA
   simp only [spec_FlatStep.j0] at H
   by_cases c21 : x28_3 = true
   ·subst c21
    rw [if_pos rfl] at H
    replace H := zO H
    obtain ⟨⟨t180, t183, t184⟩, A22, H⟩ := H
    try dsimp only at H
    simp only [Option.some.injEq, Prod.mk.injEq] at H
    obtain ⟨rfl, rfl, rfl, rfl⟩ := H
    have hnb23 := NB170_171.1
    have hnc23 := NB171_170.1
    have hcz24 := zc_3 (w := wc) BK170.1
    go_wp2_with (first | ((with_reducible refine zG Try.func104 31 #[.agg #[.slice A1_0 l1_0.length c1_0, .int .i64 a1_1, .int .i64 a1_2]] ?_); (with_reducible refine (spec_l9Copy.calls _ _ l1_0 a1_1 a1_2 t180 t183 t184 _ ?side1 ?side2 A22.1).mono ?_); (case side1 => exact zC (Kd.C_below HR1_0.1 HB.1)); (case side2 => exact HC1_0.1); rintro e w25 ⟨v181, rfl, ho0, hb⟩; refine ⟨_, rfl, ?_⟩; have HO182 := zM (Kd.R_lower (Kd.R_new' ho0 (Kd.R_lt (zR HO_6.1))) (below_size zB0)); replace HO_6 := zM (Kd.R_elder' (zR HO_6.1) (Kd.R_base ho0) hb); replace BK170 := zM (zb BK170.1 hb); replace BK171 := zM (zb BK171.1 hb); replace HB := zM (below_step zB0 hb); clear hb ho0; obtain ⟨Ao26, co26, eo26⟩ := Kd.R_slice HO182.1; subst eo26; have hcz27 := zc_3 (w := w25) BK171.1))
    refine bodyPost_ret (results_tc rfl _ _ gb171 29 #[.slice Ao26 t180.length co26, .int .i64 t183, .int .i64 t184] (0, 0) _ rfl (by exact zp3 (zK BK171.1)) Try.underlying29 rfl (by kernel_rfl)) rfl ?_
    exact ⟨_, _, zE, by refine zrR ?_; exact Kd.R_mono (zfR (zfR (zfR (Kd.R_types HO_6.1 BK171.1 (by decide))))) (fun _ hk => hk.1.2), by refine zrR ?_; exact Kd.R_mono (zfR (zfR (zfR (Kd.R_types HO182.1 BK171.1 (by decide))))) (fun _ hk => hk.1.2), zB0⟩
   replace c21 := Bool.eq_false_iff.mpr c21
   subst c21
   rw [if_neg zF] at H
   replace H := zIt H
   obtain ⟨c28b0, H⟩ := H
   replace H := zIt H
   obtain ⟨c29b0, H⟩ := H
   replace H := zO H
   obtain ⟨⟨t186, t187, t188, t189, t190, t191⟩, A30, H⟩ := H
   try dsimp only at H
   replace H := zO H
   obtain ⟨t193, A31, H⟩ := H
   by_cases c32 : t193 ≥ 0
   rotate_left
   ·rw [if_neg c32] at H
    have c32b0 := decide_eq_false c32
    clear c32
    replace H := zO H
    obtain ⟨⟨t203, t206, t207, t208⟩, A87, H⟩ := H
    try dsimp only at H
    by_cases c88 : t208 ≥ 0
    rotate_left
    ·rw [if_neg c88] at H
     have c88b0 := decide_eq_false c88
     clear c88
     simp only [Option.some.injEq, Prod.mk.injEq] at H
     obtain ⟨rfl, rfl, rfl, rfl⟩ := H
     have hnb117 := NB170_171.1
     have hnc117 := NB171_170.1
     have hcz118 := zc_3 (w := wc) BK170.1
     obtain ⟨p185, q185, ad185, e185, hx185_0⟩ := zRd (Kd.at_int HR0.1 a1_1)
     cases e185
     replace hx185_0 := zHx HB.1 hx185_0
     try go_wp2_with (first | ((with_reducible refine zG Try.func105 38 #[.int .i64 (rd l0 a1_1)] ?_); (with_reducible refine (spec_Decode.calls (rd l0 a1_1) t186 t187 t188 t189 t190 t191 _ A30.1).mono ?_); rintro e w119 ⟨rfl, hb⟩; refine ⟨_, rfl, ?_⟩; replace HO_6 := zM (Kd.R_below (zR HO_6.1) hb); replace BK170 := zM (zb BK170.1 hb); replace BK171 := zM (zb BK171.1 hb); replace HB := zM (below_step zB0 hb); clear hb) | ((with_reducible refine zBx 7 59 #[.int .i64 0, .int .i64 0, .int .i64 0, .int .i64 0, .int .i64 0] ?_); intro gb192 hg w120 hbox hb; replace HO_6 := zM (Kd.R_below (zR HO_6.1) hb); have BK192 := zM hbox; have GW192 := zM (zW hg (below_size zB0)); have GE192 := zM (zW hg (below_size zB0)); replace HB := zM (below_step zB0 hb); have NB170_192 := zM ((zn BK170.1 hg : gb170 ≠ gb192)); have NB192_170 := zM ((zm BK170.1 hg : gb192 ≠ gb170)); replace BK170 := zM (zb BK170.1 hb); have NB171_192 := zM ((zn BK171.1 hg : gb171 ≠ gb192)); have NB192_171 := zM ((zm BK171.1 hg : gb192 ≠ gb171)); replace BK171 := zM (zb BK171.1 hb); clear hb hbox hg; have hnb121 := NB192_170.1; have hnc121 := NB170_192.1; have hnb122 := NB192_171.1; have hnc122 := NB171_192.1; have hcz123 := zc_5 (w := w120) BK192.1; have hcz124 := zc_3 (w := w120) BK170.1) | ((with_reducible refine zG Try.func106 44 #[.agg #[.int .i64 t186, .int .i64 t187, .int .i64 t188, .int .i64 t189, .int .i64 t190], .slice A1_0 l1_0.length c1_0] ?_); (with_reducible refine (spec_Target.calls t186 t187 t188 t189 t190 _ _ l1_0 t193 _ ?side1 ?side2 A31.1).mono ?_); (case side1 => exact Kd.C_below HR1_0.1 zB0); (case side2 => exact HC1_0.1); rintro e w125 ⟨rfl, hb⟩; refine ⟨_, rfl, ?_⟩; replace HO_6 := zM (Kd.R_below (by refine zrR ?_; exact (Kd.R_mono (zfR (zfR (zfR (zfR (zfR (Kd.R_types HO_6.1 BK192.1 (by decide))))))) (fun _ h_ => h_.1))) hb); replace BK170 := zM (zf BK170.1 hb); replace BK171 := zM (zf BK171.1 hb); replace BK192 := zM (blk_below (g := gb192) (o := .cells #[.int .i64 t186, .int .i64 t187, .int .i64 t188, .int .i64 t189, .int .i64 t190] 59 (0, 0)) (by exact zp5 (zK BK192.1)) hb); replace HB := zM (below_step zB0 hb); clear hb; have hcz126 := zc_3 (w := w125) BK170.1; have hcz127 := zc_5 (w := w125) BK192.1) | ((with_reducible refine zG Try.func107 55 #[.agg #[.slice A1_0 l1_0.length c1_0, .int .i64 a1_1, .int .i64 a1_2], .agg #[.int .i64 t186, .int .i64 t187, .int .i64 t188, .int .i64 t189, .int .i64 t190], .int .i64 0] ?_); (with_reducible refine (spec_Work.calls kj3 _ _ l1_0 a1_1 a1_2 t186 t187 t188 t189 t190 0 t203 t206 t207 t208 _ ?side1 ?side2 A87.1).mono ?_); (case side1 => exact zC (Kd.C_below HR1_0.1 HB.1)); (case side2 => exact HC1_0.1); rintro e w128 ⟨v204, rfl, ho0, hb⟩; refine ⟨_, rfl, ?_⟩; have HO205 := zM (Kd.R_lower (Kd.R_new' ho0 (Kd.R_lt (zR HO_6.1))) (below_size zB0)); replace HO_6 := zM (Kd.R_elder' (zR HO_6.1) (Kd.R_base ho0) hb); replace BK170 := zM (zb BK170.1 hb); replace BK171 := zM (zb BK171.1 hb); replace BK192 := zM (zb BK192.1 hb); replace HB := zM (below_step zB0 hb); clear hb ho0) | ((with_reducible refine zBx 11 29 #[.slice none 0 0, .int .i64 0, .int .i64 0] ?_); intro gb209 hg w129 hbox hb; replace HO_6 := zM (Kd.R_below (zR HO_6.1) hb); replace HO205 := zM (Kd.R_below (zR HO205.1) hb); have BK209 := zM hbox; have GW209 := zM (zW hg (below_size zB0)); have GE209 := zM (zW hg (below_size zB0)); replace HB := zM (below_step zB0 hb); have NB170_209 := zM ((zn BK170.1 hg : gb170 ≠ gb209)); have NB209_170 := zM ((zm BK170.1 hg : gb209 ≠ gb170)); replace BK170 := zM (zb BK170.1 hb); have NB171_209 := zM ((zn BK171.1 hg : gb171 ≠ gb209)); have NB209_171 := zM ((zm BK171.1 hg : gb209 ≠ gb171)); replace BK171 := zM (zb BK171.1 hb); have NB192_209 := zM ((zn BK192.1 hg : gb192 ≠ gb209)); have NB209_192 := zM ((zm BK192.1 hg : gb209 ≠ gb192)); replace BK192 := zM (zb BK192.1 hb); clear hb hbox hg; obtain ⟨Ao130, co130, eo130⟩ := Kd.R_slice HO205.1; subst eo130; have hnb131 := NB209_170.1; have hnc131 := NB170_209.1; have hnb132 := NB209_171.1; have hnc132 := NB171_209.1; have hnb133 := NB209_192.1; have hnc133 := NB192_209.1; have hcz134 := zc_3 (w := w129) BK209.1))
     generalize hw_ : (((w129.setCell ⟨gb209, 0, none⟩ (.slice Ao130 t203.length co130)).setCell ⟨gb209, 1, none⟩ (.int .i64 t206)).setCell ⟨gb209, 2, none⟩ (.int .i64 t207)) = w135
     have n0_ : Aside0 (Kd.R (Kd.int .i64) 3 w135 w.heap.size (fun k_ => some k_ ≠ (.slice Ao130 t203.length co130 : Value).ownBlock) v176 y175) := ⟨by rw [← hw_]; refine zrR ?_; exact Kd.R_mono (zfR (zfR (zfR (Kd.R_types HO_6.1 BK209.1 (by decide))))) (fun _ hk => hk.1.2)⟩
     have n1_ : Aside0 (Kd.R (Kd.int .i64) 3 w135 w.heap.size (fun k_ => some k_ ≠ (v176 : Value).ownBlock) (.slice Ao130 t203.length co130) t203) := ⟨by rw [← hw_]; refine zrR ?_; exact Kd.R_mono (zfR (zfR (zfR (Kd.R_types HO205.1 BK209.1 (by decide))))) (fun _ hk => hk.1.2)⟩
     have n2_ : Aside0 (w135.heap[gb170]? = some (.cells #[.slice A1_0 l1_0.length c1_0, .int .i64 a1_1, .int .i64 a1_2] 29 (0, 0))) := ⟨by rw [← hw_]; exact zPq⟩
     have n3_ : Aside0 (w135.heap[gb171]? = some (.cells #[.slice none 0 0, .int .i64 0, .int .i64 0] 29 (0, 0))) := ⟨by rw [← hw_]; exact zPq⟩
     have n4_ : Aside0 (w135.heap[gb192]? = some (.cells #[.int .i64 t186, .int .i64 t187, .int .i64 t188, .int .i64 t189, .int .i64 t190] 59 (0, 0))) := ⟨by rw [← hw_]; exact zPq⟩
     have n5_ : Aside0 (w135.heap[gb209]? = some (.cells #[.slice Ao130 t203.length co130, .int .i64 t206, .int .i64 t207] 29 (0, 0))) := ⟨by rw [← hw_]; exact zp3 (zK BK209.1)⟩
     have n6_ : Aside0 (Below w.heap.size w w135) := ⟨by rw [← hw_]; exact zB0⟩
     (try clear HO_6)
     (try clear HO205)
     (try clear BK170)
     (try clear BK171)
     (try clear BK192)
     (try clear BK209)
     (try clear HB)
     clear hw_
     have HO_6 := n0_
     have HO205 := n1_
     have BK170 := n2_
     have BK171 := n3_
     have BK192 := n4_
     have BK209 := n5_
     have HB := n6_
     clear n0_ n1_ n2_ n3_ n4_ n5_ n6_
     replace HO_6 := zM (Kd.R_drew HO_6.1)
     replace HO205 := zM (Kd.R_drew HO205.1)
     replace BK170 := zM (blk_drew BK170.1)
     replace BK171 := zM (blk_drew BK171.1)
     replace BK192 := zM (blk_drew BK192.1)
     replace BK209 := zM (blk_drew BK209.1)
     replace HB := zM (below_drew1 HB.1)
     refine start_ (n := 4) (S := fun w' => w'.cell? ⟨gb209, 0, none⟩ = some (.slice Ao130 t203.length co130) ∧ w'.cell? ⟨gb209, 1, none⟩ = some (.int .i64 t206) ∧ w'.cell? ⟨gb209, 2, none⟩ = some (.int .i64 t207)) (ds := []) #[false, false, false, false] (by kernel_rfl) rfl rfl ⟨(blk_cell BK209.1 0).trans rfl, (blk_cell BK209.1 1).trans rfl, (blk_cell BK209.1 2).trans rfl⟩ (fun hHeld => ?_)
     generalize w135.drew = w136 at HO_6 HO205 BK170 BK171 BK192 BK209 HB hHeld ⊢
     refine zPu 0 ?_
     refine zPu 2 ?_
     refine zTk3 1 hHeld ?_
     refine zOn 3 none fun K hK => ?_
     obtain ⟨hs137, hfs137⟩ := zHs BK171.1 0
     have hns137_0 := NB170_171.1
     have hns137_2 := NB192_171.1
     have hns137_3 := NB209_171.1
     have hms137_0 := NB171_170.1
     have hms137_2 := NB171_192.1
     have hms137_3 := NB171_209.1
     obtain ⟨hs138, hfs138⟩ := zHs BK171.1 1
     have hns138_0 := NB170_171.1
     have hns138_2 := NB192_171.1
     have hns138_3 := NB209_171.1
     have hms138_0 := NB171_170.1
     have hms138_2 := NB171_192.1
     have hms138_3 := NB171_209.1
     obtain ⟨hs139, hfs139⟩ := zHs BK171.1 2
     have hns139_0 := NB170_171.1
     have hns139_2 := NB192_171.1
     have hns139_3 := NB209_171.1
     have hms139_0 := NB171_170.1
     have hms139_2 := NB171_192.1
     have hms139_3 := NB171_209.1
     refine skip_ (w1 := ?_) (by rfl) rfl ?_ ?_
     rotate_left
     ·go_simp
      rfl
     refine hK.out _ _ zCs fun hHeld => ?_
     clear hK K
     refine done_ (by kernel_rfl) ?_
     try go_wp2
     refine bodyPost_ret (results_tc rfl _ _ gb171 29 #[.slice Ao130 t203.length co130, .int .i64 t206, .int .i64 t207] (0, 0) _ rfl (by exact zp3 (zK BK171.1)) Try.underlying29 rfl (by kernel_rfl)) rfl ?_
     exact ⟨_, _, zE, by refine zrR ?_; exact Kd.R_mono (zfR (zfR (zfR (Kd.R_types HO_6.1 BK171.1 (by decide))))) (fun _ hk => hk.1), by refine zrR ?_; exact Kd.R_mono (zfR (zfR (zfR (Kd.R_types HO205.1 BK171.1 (by decide))))) (fun _ hk => hk.1), zB0⟩
    rw [if_pos c88] at H
    have c88b0 := decide_eq_true c88
    clear c88
    replace H := zIt H
    obtain ⟨c89b0, H⟩ := H
    replace H := zIt H
    obtain ⟨c90b0, H⟩ := H
    generalize hy210 : ((y175.set (t193 : Int).toNat t208) : List Int) = y210 at H
    have Ny210 := zM hy210.symm
    clear hy210
    simp only [Option.some.injEq, Prod.mk.injEq] at H
    obtain ⟨rfl, rfl, rfl, rfl⟩ := H
    have hnb92 := NB170_171.1
    have hnc92 := NB171_170.1
    have hcz93 := zc_3 (w := wc) BK170.1
    obtain ⟨p185, q185, ad185, e185, hx185_0⟩ := zRd (Kd.at_int HR0.1 a1_1)
    cases e185
    replace hx185_0 := zHx HB.1 hx185_0
    try go_wp2_with (first | ((with_reducible refine zG Try.func105 38 #[.int .i64 (rd l0 a1_1)] ?_); (with_reducible refine (spec_Decode.calls (rd l0 a1_1) t186 t187 t188 t189 t190 t191 _ A30.1).mono ?_); rintro e w94 ⟨rfl, hb⟩; refine ⟨_, rfl, ?_⟩; replace HO_6 := zM (Kd.R_below (zR HO_6.1) hb); replace BK170 := zM (zb BK170.1 hb); replace BK171 := zM (zb BK171.1 hb); replace HB := zM (below_step zB0 hb); clear hb) | ((with_reducible refine zBx 7 59 #[.int .i64 0, .int .i64 0, .int .i64 0, .int .i64 0, .int .i64 0] ?_); intro gb192 hg w95 hbox hb; replace HO_6 := zM (Kd.R_below (zR HO_6.1) hb); have BK192 := zM hbox; have GW192 := zM (zW hg (below_size zB0)); have GE192 := zM (zW hg (below_size zB0)); replace HB := zM (below_step zB0 hb); have NB170_192 := zM ((zn BK170.1 hg : gb170 ≠ gb192)); have NB192_170 := zM ((zm BK170.1 hg : gb192 ≠ gb170)); replace BK170 := zM (zb BK170.1 hb); have NB171_192 := zM ((zn BK171.1 hg : gb171 ≠ gb192)); have NB192_171 := zM ((zm BK171.1 hg : gb192 ≠ gb171)); replace BK171 := zM (zb BK171.1 hb); clear hb hbox hg; have hnb96 := NB192_170.1; have hnc96 := NB170_192.1; have hnb97 := NB192_171.1; have hnc97 := NB171_192.1; have hcz98 := zc_5 (w := w95) BK192.1; have hcz99 := zc_3 (w := w95) BK170.1) | ((with_reducible refine zG Try.func106 44 #[.agg #[.int .i64 t186, .int .i64 t187, .int .i64 t188, .int .i64 t189, .int .i64 t190], .slice A1_0 l1_0.length c1_0] ?_); (with_reducible refine (spec_Target.calls t186 t187 t188 t189 t190 _ _ l1_0 t193 _ ?side1 ?side2 A31.1).mono ?_); (case side1 => exact Kd.C_below HR1_0.1 zB0); (case side2 => exact HC1_0.1); rintro e w100 ⟨rfl, hb⟩; refine ⟨_, rfl, ?_⟩; replace HO_6 := zM (Kd.R_below (by refine zrR ?_; exact (Kd.R_mono (zfR (zfR (zfR (zfR (zfR (Kd.R_types HO_6.1 BK192.1 (by decide))))))) (fun _ h_ => h_.1))) hb); replace BK170 := zM (zf BK170.1 hb); replace BK171 := zM (zf BK171.1 hb); replace BK192 := zM (blk_below (g := gb192) (o := .cells #[.int .i64 t186, .int .i64 t187, .int .i64 t188, .int .i64 t189, .int .i64 t190] 59 (0, 0)) (by exact zp5 (zK BK192.1)) hb); replace HB := zM (below_step zB0 hb); clear hb; have hcz101 := zc_3 (w := w100) BK170.1; have hcz102 := zc_5 (w := w100) BK192.1) | ((with_reducible refine zG Try.func107 55 #[.agg #[.slice A1_0 l1_0.length c1_0, .int .i64 a1_1, .int .i64 a1_2], .agg #[.int .i64 t186, .int .i64 t187, .int .i64 t188, .int .i64 t189, .int .i64 t190], .int .i64 0] ?_); (with_reducible refine (spec_Work.calls kj3 _ _ l1_0 a1_1 a1_2 t186 t187 t188 t189 t190 0 t203 t206 t207 t208 _ ?side1 ?side2 A87.1).mono ?_); (case side1 => exact zC (Kd.C_below HR1_0.1 HB.1)); (case side2 => exact HC1_0.1); rintro e w103 ⟨v204, rfl, ho0, hb⟩; refine ⟨_, rfl, ?_⟩; have HO205 := zM (Kd.R_lower (Kd.R_new' ho0 (Kd.R_lt (zR HO_6.1))) (below_size zB0)); replace HO_6 := zM (Kd.R_elder' (zR HO_6.1) (Kd.R_base ho0) hb); replace BK170 := zM (zb BK170.1 hb); replace BK171 := zM (zb BK171.1 hb); replace BK192 := zM (zb BK192.1 hb); replace HB := zM (below_step zB0 hb); clear hb ho0) | ((with_reducible refine zBx 11 29 #[.slice none 0 0, .int .i64 0, .int .i64 0] ?_); intro gb209 hg w104 hbox hb; replace HO_6 := zM (Kd.R_below (zR HO_6.1) hb); replace HO205 := zM (Kd.R_below (zR HO205.1) hb); have BK209 := zM hbox; have GW209 := zM (zW hg (below_size zB0)); have GE209 := zM (zW hg (below_size zB0)); replace HB := zM (below_step zB0 hb); have NB170_209 := zM ((zn BK170.1 hg : gb170 ≠ gb209)); have NB209_170 := zM ((zm BK170.1 hg : gb209 ≠ gb170)); replace BK170 := zM (zb BK170.1 hb); have NB171_209 := zM ((zn BK171.1 hg : gb171 ≠ gb209)); have NB209_171 := zM ((zm BK171.1 hg : gb209 ≠ gb171)); replace BK171 := zM (zb BK171.1 hb); have NB192_209 := zM ((zn BK192.1 hg : gb192 ≠ gb209)); have NB209_192 := zM ((zm BK192.1 hg : gb209 ≠ gb192)); replace BK192 := zM (zb BK192.1 hb); clear hb hbox hg; obtain ⟨Ao105, co105, eo105⟩ := Kd.R_slice HO205.1; subst eo105; have hnb106 := NB209_170.1; have hnc106 := NB170_209.1; have hnb107 := NB209_171.1; have hnc107 := NB171_209.1; have hnb108 := NB209_192.1; have hnc108 := NB192_209.1; have hcz109 := zc_3 (w := w104) BK209.1) | ((with_reducible refine gate_store (t := 29) (p := 11) rfl ?_); refine store_event (t := 29) (p := 11) (v := ?vo_w110) (w1 := (((w104.setCell ⟨gb209, 0, none⟩ (.slice Ao105 t203.length co105)).setCell ⟨gb209, 1, none⟩ (.int .i64 t206)).setCell ⟨gb209, 2, none⟩ (.int .i64 t207))) ?hg ?ho ?hn ?hr ?_; (case ho => rfl); (case hg => rfl); (case hn => rfl); (case hr => exact zHH); intro w110 hw; have n0_ : Aside0 (Kd.R (Kd.int .i64) 3 w110 w.heap.size (fun k_ => some k_ ≠ (.slice Ao105 t203.length co105 : Value).ownBlock) v176 y175) := ⟨(by rw [hw]; exact (by refine zrR ?_; exact Kd.R_mono (zfR (zfR (zfR (Kd.R_types HO_6.1 BK209.1 (by decide))))) (fun _ hk => hk.1.2)))⟩; have n1_ : Aside0 (Kd.R (Kd.int .i64) 3 w110 w.heap.size (fun k_ => some k_ ≠ (v176 : Value).ownBlock) (.slice Ao105 t203.length co105) t203) := ⟨(by rw [hw]; exact (by refine zrR ?_; exact Kd.R_mono (zfR (zfR (zfR (Kd.R_types HO205.1 BK209.1 (by decide))))) (fun _ hk => hk.1.2)))⟩; have n2_ : Aside0 (w110.heap[gb170]? = some (.cells #[.slice A1_0 l1_0.length c1_0, .int .i64 a1_1, .int .i64 a1_2] 29 (0, 0))) := ⟨(by rw [hw]; exact zPq)⟩; have n3_ : Aside0 (w110.heap[gb171]? = some (.cells #[.slice none 0 0, .int .i64 0, .int .i64 0] 29 (0, 0))) := ⟨(by rw [hw]; exact zPq)⟩; have n4_ : Aside0 (w110.heap[gb192]? = some (.cells #[.int .i64 t186, .int .i64 t187, .int .i64 t188, .int .i64 t189, .int .i64 t190] 59 (0, 0))) := ⟨(by rw [hw]; exact zPq)⟩; have n5_ : Aside0 (w110.heap[gb209]? = some (.cells #[.slice Ao105 t203.length co105, .int .i64 t206, .int .i64 t207] 29 (0, 0))) := ⟨(by rw [hw]; exact (by exact zp3 (zK BK209.1)))⟩; have n6_ : Aside0 (Below w.heap.size w w110) := ⟨(by rw [hw]; exact zB0)⟩; clear hw; clear HO_6; clear HO205; clear BK170; clear BK171; clear BK192; clear BK209; clear HB; have HO_6 := n0_; have HO205 := n1_; have BK170 := n2_; have BK171 := n3_; have BK192 := n4_; have BK209 := n5_; have HB := n6_; clear n0_ n1_ n2_ n3_ n4_ n5_ n6_; have p91 : 0 ≤ (t193 : Int) := zA; have q91 : (t193 : Int) < ((y175.length : Int) : Int) := zA; obtain ⟨go91, co91, eo91, gb91, gl91, cl91, HG91⟩ := Kd.R_form HO_6.1 (by omega); (first | cases eo91 | (injection eo91 with ea_ en_ ec_; (first | subst ea_ | (injection ea_ with ea_; subst ea_)); subst ec_; clear en_)); have GB91 := zM gb91; have GG91 := zM HG91; clear gb91 gl91 HG91; obtain ⟨hx91_0, hf91_0⟩ := Kd.R_celln 0 HO_6.1 (t193 : Int) p91 q91; replace p91 := eq_true p91; replace q91 := eq_true q91; obtain ⟨hy111_, hz111_⟩ := Kd.R_celln 0 HO_6.1 (t193 : Int) zA zA; have HP111 := Kd.R_putg HO_6.1 (t193 : Int) t208) | ((with_reducible refine gate_store (t := 3) (p := 63) rfl ?_); refine store_event (t := 3) (p := 63) (v := ?vo_w112) (w1 := (w110.setCell ⟨go91, (t193 : Int).toNat, none⟩ (.int .i64 t208))) ?hg ?ho ?hn ?hr ?_; (case ho => rfl); (case hg => rfl); (case hn => rfl); (case hr => exact zHH); intro w112 hw; have hg : w110.grownBy w112 (some go91) := (by rw [hw]; exact HP111.2); have hp_ : Kd.R (Kd.int .i64) 3 w112 w.heap.size (fun k_ => some k_ ≠ (.slice Ao105 t203.length co105 : Value).ownBlock) (.slice (some ⟨go91, 0, none⟩) y175.length co91) y210 := (by rw [hw, Ny210.1]; exact HP111.1); clear HP111; replace BK170 := zM (zg BK170.1 hg (Kd.R_ne HO_6.1 BK170.1 (by decide))); replace BK171 := zM (zg BK171.1 hg (Kd.R_ne HO_6.1 BK171.1 (by decide))); replace BK192 := zM (zg BK192.1 hg (Kd.R_ne HO_6.1 BK192.1 (by decide))); replace HO205 := zM (Kd.R_after (v := (.slice (some ⟨go91, 0, none⟩) y175.length co91)) (v1 := (.slice (some ⟨go91, 0, none⟩) y175.length co91)) (ok := (fun _ => True)) (by refine zrR ?_; exact Kd.R_mono HO205.1 (fun _ hk => ⟨trivial, hk⟩)) hg (.inl rfl)); replace BK209 := zM (zg BK209.1 hg (Kd.R_ne HO_6.1 BK209.1 (by decide))); replace HO_6 := zM hp_; replace HB := zM ((by rw [hw]; exact below_set (HB.1) GB91.1 : Below w.heap.size w w112)); clear hg hw hp_))
    replace HO_6 := zM (Kd.R_drew HO_6.1)
    replace HO205 := zM (Kd.R_drew HO205.1)
    replace BK170 := zM (blk_drew BK170.1)
    replace BK171 := zM (blk_drew BK171.1)
    replace BK192 := zM (blk_drew BK192.1)
    replace BK209 := zM (blk_drew BK209.1)
    replace HB := zM (below_drew1 HB.1)
    refine start_ (n := 4) (S := fun w' => w'.cell? ⟨gb209, 0, none⟩ = some (.slice Ao105 t203.length co105) ∧ w'.cell? ⟨gb209, 1, none⟩ = some (.int .i64 t206) ∧ w'.cell? ⟨gb209, 2, none⟩ = some (.int .i64 t207)) (ds := []) #[false, false, false, false] (by kernel_rfl) rfl rfl ⟨(blk_cell BK209.1 0).trans rfl, (blk_cell BK209.1 1).trans rfl, (blk_cell BK209.1 2).trans rfl⟩ (fun hHeld => ?_)
    generalize w112.drew = w113 at HO_6 HO205 BK170 BK171 BK192 BK209 HB hHeld ⊢
    refine zPu 0 ?_
    refine zPu 2 ?_
    refine zTk3 1 hHeld ?_
    refine zOn 3 none fun K hK => ?_
    obtain ⟨hs114, hfs114⟩ := zHs BK171.1 0
    have hns114_0 := NB170_171.1
    have hns114_2 := NB192_171.1
    have hns114_3 := NB209_171.1
    have hms114_0 := NB171_170.1
    have hms114_2 := NB171_192.1
    have hms114_3 := NB171_209.1
    obtain ⟨hs115, hfs115⟩ := zHs BK171.1 1
    have hns115_0 := NB170_171.1
    have hns115_2 := NB192_171.1
    have hns115_3 := NB209_171.1
    have hms115_0 := NB171_170.1
    have hms115_2 := NB171_192.1
    have hms115_3 := NB171_209.1
    obtain ⟨hs116, hfs116⟩ := zHs BK171.1 2
    have hns116_0 := NB170_171.1
    have hns116_2 := NB192_171.1
    have hns116_3 := NB209_171.1
    have hms116_0 := NB171_170.1
    have hms116_2 := NB171_192.1
    have hms116_3 := NB171_209.1
    refine skip_ (w1 := ?_) (by rfl) rfl ?_ ?_
    rotate_left
    ·go_simp
     rfl
    refine hK.out _ _ zCs fun hHeld => ?_
    clear hK K
    refine done_ (by kernel_rfl) ?_
    try go_wp2
    refine bodyPost_ret (results_tc rfl _ _ gb171 29 #[.slice Ao105 t203.length co105, .int .i64 t206, .int .i64 t207] (0, 0) _ rfl (by exact zp3 (zK BK171.1)) Try.underlying29 rfl (by kernel_rfl)) rfl ?_
    exact ⟨_, _, zE, by refine zrR ?_; exact Kd.R_mono (zfR (zfR (zfR (Kd.R_types HO_6.1 BK171.1 (by decide))))) (fun _ hk => hk.1), by refine zrR ?_; exact Kd.R_mono (zfR (zfR (zfR (Kd.R_types HO205.1 BK171.1 (by decide))))) (fun _ hk => hk.1.2), zB0⟩
   rw [if_pos c32] at H
   have c32b0 := decide_eq_true c32
   clear c32
   replace H := zIt H
   obtain ⟨c33b0, H⟩ := H
   replace H := zIt H
   obtain ⟨c34b0, H⟩ := H
   replace H := zO H
   obtain ⟨⟨t195, t198, t199, t200⟩, A35, H⟩ := H
   try dsimp only at H
   by_cases c36 : t200 ≥ 0
   rotate_left
   ·rw [if_neg c36] at H
    have c36b0 := decide_eq_false c36
    clear c36
    simp only [Option.some.injEq, Prod.mk.injEq] at H
    obtain ⟨rfl, rfl, rfl, rfl⟩ := H
    have hnb64 := NB170_171.1
    have hnc64 := NB171_170.1
    have hcz65 := zc_3 (w := wc) BK170.1
    obtain ⟨p185, q185, ad185, e185, hx185_0⟩ := zRd (Kd.at_int HR0.1 a1_1)
    cases e185
    replace hx185_0 := zHx HB.1 hx185_0
    try go_wp2_with (first | ((with_reducible refine zG Try.func105 38 #[.int .i64 (rd l0 a1_1)] ?_); (with_reducible refine (spec_Decode.calls (rd l0 a1_1) t186 t187 t188 t189 t190 t191 _ A30.1).mono ?_); rintro e w66 ⟨rfl, hb⟩; refine ⟨_, rfl, ?_⟩; replace HO_6 := zM (Kd.R_below (zR HO_6.1) hb); replace BK170 := zM (zb BK170.1 hb); replace BK171 := zM (zb BK171.1 hb); replace HB := zM (below_step zB0 hb); clear hb) | ((with_reducible refine zBx 7 59 #[.int .i64 0, .int .i64 0, .int .i64 0, .int .i64 0, .int .i64 0] ?_); intro gb192 hg w67 hbox hb; replace HO_6 := zM (Kd.R_below (zR HO_6.1) hb); have BK192 := zM hbox; have GW192 := zM (zW hg (below_size zB0)); have GE192 := zM (zW hg (below_size zB0)); replace HB := zM (below_step zB0 hb); have NB170_192 := zM ((zn BK170.1 hg : gb170 ≠ gb192)); have NB192_170 := zM ((zm BK170.1 hg : gb192 ≠ gb170)); replace BK170 := zM (zb BK170.1 hb); have NB171_192 := zM ((zn BK171.1 hg : gb171 ≠ gb192)); have NB192_171 := zM ((zm BK171.1 hg : gb192 ≠ gb171)); replace BK171 := zM (zb BK171.1 hb); clear hb hbox hg; have hnb68 := NB192_170.1; have hnc68 := NB170_192.1; have hnb69 := NB192_171.1; have hnc69 := NB171_192.1; have hcz70 := zc_5 (w := w67) BK192.1; have hcz71 := zc_3 (w := w67) BK170.1) | ((with_reducible refine zG Try.func106 44 #[.agg #[.int .i64 t186, .int .i64 t187, .int .i64 t188, .int .i64 t189, .int .i64 t190], .slice A1_0 l1_0.length c1_0] ?_); (with_reducible refine (spec_Target.calls t186 t187 t188 t189 t190 _ _ l1_0 t193 _ ?side1 ?side2 A31.1).mono ?_); (case side1 => exact Kd.C_below HR1_0.1 zB0); (case side2 => exact HC1_0.1); rintro e w72 ⟨rfl, hb⟩; refine ⟨_, rfl, ?_⟩; replace HO_6 := zM (Kd.R_below (by refine zrR ?_; exact (Kd.R_mono (zfR (zfR (zfR (zfR (zfR (Kd.R_types HO_6.1 BK192.1 (by decide))))))) (fun _ h_ => h_.1))) hb); replace BK170 := zM (zf BK170.1 hb); replace BK171 := zM (zf BK171.1 hb); replace BK192 := zM (blk_below (g := gb192) (o := .cells #[.int .i64 t186, .int .i64 t187, .int .i64 t188, .int .i64 t189, .int .i64 t190] 59 (0, 0)) (by exact zp5 (zK BK192.1)) hb); replace HB := zM (below_step zB0 hb); clear hb; have p194 : 0 ≤ (t193 : Int) := zA; have q194 : t193 < (l0.length : Int) := zA; obtain ⟨ad194, e194, hx194_0⟩ := Kd.at_int HR0.1 t193 p194 q194; obtain rfl : ad185 = ad194 := (by injection e194); replace hx194_0 := zHx HB.1 hx194_0; replace p194 := eq_true p194; replace q194 := eq_true q194; have hcz73 := zc_3 (w := w72) BK170.1; have hcz74 := zc_5 (w := w72) BK192.1) | ((with_reducible refine zG Try.func107 55 #[.agg #[.slice A1_0 l1_0.length c1_0, .int .i64 a1_1, .int .i64 a1_2], .agg #[.int .i64 t186, .int .i64 t187, .int .i64 t188, .int .i64 t189, .int .i64 t190], .int .i64 (rd l0 t193)] ?_); (with_reducible refine (spec_Work.calls kj3 _ _ l1_0 a1_1 a1_2 t186 t187 t188 t189 t190 (rd l0 t193) t195 t198 t199 t200 _ ?side1 ?side2 A35.1).mono ?_); (case side1 => exact zC (Kd.C_below HR1_0.1 HB.1)); (case side2 => exact HC1_0.1); rintro e w75 ⟨v196, rfl, ho0, hb⟩; refine ⟨_, rfl, ?_⟩; have HO197 := zM (Kd.R_lower (Kd.R_new' ho0 (Kd.R_lt (zR HO_6.1))) (below_size zB0)); replace HO_6 := zM (Kd.R_elder' (zR HO_6.1) (Kd.R_base ho0) hb); replace BK170 := zM (zb BK170.1 hb); replace BK171 := zM (zb BK171.1 hb); replace BK192 := zM (zb BK192.1 hb); replace HB := zM (below_step zB0 hb); clear hb ho0) | ((with_reducible refine zBx 11 29 #[.slice none 0 0, .int .i64 0, .int .i64 0] ?_); intro gb201 hg w76 hbox hb; replace HO_6 := zM (Kd.R_below (zR HO_6.1) hb); replace HO197 := zM (Kd.R_below (zR HO197.1) hb); have BK201 := zM hbox; have GW201 := zM (zW hg (below_size zB0)); have GE201 := zM (zW hg (below_size zB0)); replace HB := zM (below_step zB0 hb); have NB170_201 := zM ((zn BK170.1 hg : gb170 ≠ gb201)); have NB201_170 := zM ((zm BK170.1 hg : gb201 ≠ gb170)); replace BK170 := zM (zb BK170.1 hb); have NB171_201 := zM ((zn BK171.1 hg : gb171 ≠ gb201)); have NB201_171 := zM ((zm BK171.1 hg : gb201 ≠ gb171)); replace BK171 := zM (zb BK171.1 hb); have NB192_201 := zM ((zn BK192.1 hg : gb192 ≠ gb201)); have NB201_192 := zM ((zm BK192.1 hg : gb201 ≠ gb192)); replace BK192 := zM (zb BK192.1 hb); clear hb hbox hg; obtain ⟨Ao77, co77, eo77⟩ := Kd.R_slice HO197.1; subst eo77; have hnb78 := NB201_170.1; have hnc78 := NB170_201.1; have hnb79 := NB201_171.1; have hnc79 := NB171_201.1; have hnb80 := NB201_192.1; have hnc80 := NB192_201.1; have hcz81 := zc_3 (w := w76) BK201.1))
    generalize hw_ : (((w76.setCell ⟨gb201, 0, none⟩ (.slice Ao77 t195.length co77)).setCell ⟨gb201, 1, none⟩ (.int .i64 t198)).setCell ⟨gb201, 2, none⟩ (.int .i64 t199)) = w82
    have n0_ : Aside0 (Kd.R (Kd.int .i64) 3 w82 w.heap.size (fun k_ => some k_ ≠ (.slice Ao77 t195.length co77 : Value).ownBlock) v176 y175) := ⟨by rw [← hw_]; refine zrR ?_; exact Kd.R_mono (zfR (zfR (zfR (Kd.R_types HO_6.1 BK201.1 (by decide))))) (fun _ hk => hk.1.2)⟩
    have n1_ : Aside0 (Kd.R (Kd.int .i64) 3 w82 w.heap.size (fun k_ => some k_ ≠ (v176 : Value).ownBlock) (.slice Ao77 t195.length co77) t195) := ⟨by rw [← hw_]; refine zrR ?_; exact Kd.R_mono (zfR (zfR (zfR (Kd.R_types HO197.1 BK201.1 (by decide))))) (fun _ hk => hk.1.2)⟩
    have n2_ : Aside0 (w82.heap[gb170]? = some (.cells #[.slice A1_0 l1_0.length c1_0, .int .i64 a1_1, .int .i64 a1_2] 29 (0, 0))) := ⟨by rw [← hw_]; exact zPq⟩
    have n3_ : Aside0 (w82.heap[gb171]? = some (.cells #[.slice none 0 0, .int .i64 0, .int .i64 0] 29 (0, 0))) := ⟨by rw [← hw_]; exact zPq⟩
    have n4_ : Aside0 (w82.heap[gb192]? = some (.cells #[.int .i64 t186, .int .i64 t187, .int .i64 t188, .int .i64 t189, .int .i64 t190] 59 (0, 0))) := ⟨by rw [← hw_]; exact zPq⟩
    have n5_ : Aside0 (w82.heap[gb201]? = some (.cells #[.slice Ao77 t195.length co77, .int .i64 t198, .int .i64 t199] 29 (0, 0))) := ⟨by rw [← hw_]; exact zp3 (zK BK201.1)⟩
    have n6_ : Aside0 (Below w.heap.size w w82) := ⟨by rw [← hw_]; exact zB0⟩
    (try clear HO_6)
    (try clear HO197)
    (try clear BK170)
    (try clear BK171)
    (try clear BK192)
    (try clear BK201)
    (try clear HB)
    clear hw_
    have HO_6 := n0_
    have HO197 := n1_
    have BK170 := n2_
    have BK171 := n3_
    have BK192 := n4_
    have BK201 := n5_
    have HB := n6_
    clear n0_ n1_ n2_ n3_ n4_ n5_ n6_
    replace HO_6 := zM (Kd.R_drew HO_6.1)
    replace HO197 := zM (Kd.R_drew HO197.1)
    replace BK170 := zM (blk_drew BK170.1)
    replace BK171 := zM (blk_drew BK171.1)
    replace BK192 := zM (blk_drew BK192.1)
    replace BK201 := zM (blk_drew BK201.1)
    replace HB := zM (below_drew1 HB.1)
    refine start_ (n := 4) (S := fun w' => w'.cell? ⟨gb201, 0, none⟩ = some (.slice Ao77 t195.length co77) ∧ w'.cell? ⟨gb201, 1, none⟩ = some (.int .i64 t198) ∧ w'.cell? ⟨gb201, 2, none⟩ = some (.int .i64 t199)) (ds := []) #[false, false, false, false] (by kernel_rfl) rfl rfl ⟨(blk_cell BK201.1 0).trans rfl, (blk_cell BK201.1 1).trans rfl, (blk_cell BK201.1 2).trans rfl⟩ (fun hHeld => ?_)
    generalize w82.drew = w83 at HO_6 HO197 BK170 BK171 BK192 BK201 HB hHeld ⊢
    refine zPu 0 ?_
    refine zPu 2 ?_
    refine zTk3 1 hHeld ?_
    refine zOn 3 none fun K hK => ?_
    obtain ⟨hs84, hfs84⟩ := zHs BK171.1 0
    have hns84_0 := NB170_171.1
    have hns84_2 := NB192_171.1
    have hns84_3 := NB201_171.1
    have hms84_0 := NB171_170.1
    have hms84_2 := NB171_192.1
    have hms84_3 := NB171_201.1
    obtain ⟨hs85, hfs85⟩ := zHs BK171.1 1
    have hns85_0 := NB170_171.1
    have hns85_2 := NB192_171.1
    have hns85_3 := NB201_171.1
    have hms85_0 := NB171_170.1
    have hms85_2 := NB171_192.1
    have hms85_3 := NB171_201.1
    obtain ⟨hs86, hfs86⟩ := zHs BK171.1 2
    have hns86_0 := NB170_171.1
    have hns86_2 := NB192_171.1
    have hns86_3 := NB201_171.1
    have hms86_0 := NB171_170.1
    have hms86_2 := NB171_192.1
    have hms86_3 := NB171_201.1
    refine skip_ (w1 := ?_) (by rfl) rfl ?_ ?_
    rotate_left
    ·go_simp
     rfl
    refine hK.out _ _ zCs fun hHeld => ?_
    clear hK K
    refine done_ (by kernel_rfl) ?_
    try go_wp2
    refine bodyPost_ret (results_tc rfl _ _ gb171 29 #[.slice Ao77 t195.length co77, .int .i64 t198, .int .i64 t199] (0, 0) _ rfl (by exact zp3 (zK BK171.1)) Try.underlying29 rfl (by kernel_rfl)) rfl ?_
    exact ⟨_, _, zE, by refine zrR ?_; exact Kd.R_mono (zfR (zfR (zfR (Kd.R_types HO_6.1 BK171.1 (by decide))))) (fun _ hk => hk.1), by refine zrR ?_; exact Kd.R_mono (zfR (zfR (zfR (Kd.R_types HO197.1 BK171.1 (by decide))))) (fun _ hk => hk.1), zB0⟩
   rw [if_pos c36] at H
   have c36b0 := decide_eq_true c36
   clear c36
   replace H := zIt H
   obtain ⟨c37b0, H⟩ := H
   generalize hy202 : ((y175.set (t193 : Int).toNat t200) : List Int) = y202 at H
   have Ny202 := zM hy202.symm
   clear hy202
   simp only [Option.some.injEq, Prod.mk.injEq] at H
   obtain ⟨rfl, rfl, rfl, rfl⟩ := H
   have hnb39 := NB170_171.1
   have hnc39 := NB171_170.1
   have hcz40 := zc_3 (w := wc) BK170.1
   obtain ⟨p185, q185, ad185, e185, hx185_0⟩ := zRd (Kd.at_int HR0.1 a1_1)
   cases e185
   replace hx185_0 := zHx HB.1 hx185_0
   try go_wp2_with (first | ((with_reducible refine zG Try.func105 38 #[.int .i64 (rd l0 a1_1)] ?_); (with_reducible refine (spec_Decode.calls (rd l0 a1_1) t186 t187 t188 t189 t190 t191 _ A30.1).mono ?_); rintro e w41 ⟨rfl, hb⟩; refine ⟨_, rfl, ?_⟩; replace HO_6 := zM (Kd.R_below (zR HO_6.1) hb); replace BK170 := zM (zb BK170.1 hb); replace BK171 := zM (zb BK171.1 hb); replace HB := zM (below_step zB0 hb); clear hb) | ((with_reducible refine zBx 7 59 #[.int .i64 0, .int .i64 0, .int .i64 0, .int .i64 0, .int .i64 0] ?_); intro gb192 hg w42 hbox hb; replace HO_6 := zM (Kd.R_below (zR HO_6.1) hb); have BK192 := zM hbox; have GW192 := zM (zW hg (below_size zB0)); have GE192 := zM (zW hg (below_size zB0)); replace HB := zM (below_step zB0 hb); have NB170_192 := zM ((zn BK170.1 hg : gb170 ≠ gb192)); have NB192_170 := zM ((zm BK170.1 hg : gb192 ≠ gb170)); replace BK170 := zM (zb BK170.1 hb); have NB171_192 := zM ((zn BK171.1 hg : gb171 ≠ gb192)); have NB192_171 := zM ((zm BK171.1 hg : gb192 ≠ gb171)); replace BK171 := zM (zb BK171.1 hb); clear hb hbox hg; have hnb43 := NB192_170.1; have hnc43 := NB170_192.1; have hnb44 := NB192_171.1; have hnc44 := NB171_192.1; have hcz45 := zc_5 (w := w42) BK192.1; have hcz46 := zc_3 (w := w42) BK170.1) | ((with_reducible refine zG Try.func106 44 #[.agg #[.int .i64 t186, .int .i64 t187, .int .i64 t188, .int .i64 t189, .int .i64 t190], .slice A1_0 l1_0.length c1_0] ?_); (with_reducible refine (spec_Target.calls t186 t187 t188 t189 t190 _ _ l1_0 t193 _ ?side1 ?side2 A31.1).mono ?_); (case side1 => exact Kd.C_below HR1_0.1 zB0); (case side2 => exact HC1_0.1); rintro e w47 ⟨rfl, hb⟩; refine ⟨_, rfl, ?_⟩; replace HO_6 := zM (Kd.R_below (by refine zrR ?_; exact (Kd.R_mono (zfR (zfR (zfR (zfR (zfR (Kd.R_types HO_6.1 BK192.1 (by decide))))))) (fun _ h_ => h_.1))) hb); replace BK170 := zM (zf BK170.1 hb); replace BK171 := zM (zf BK171.1 hb); replace BK192 := zM (blk_below (g := gb192) (o := .cells #[.int .i64 t186, .int .i64 t187, .int .i64 t188, .int .i64 t189, .int .i64 t190] 59 (0, 0)) (by exact zp5 (zK BK192.1)) hb); replace HB := zM (below_step zB0 hb); clear hb; have p194 : 0 ≤ (t193 : Int) := zA; have q194 : t193 < (l0.length : Int) := zA; obtain ⟨ad194, e194, hx194_0⟩ := Kd.at_int HR0.1 t193 p194 q194; obtain rfl : ad185 = ad194 := (by injection e194); replace hx194_0 := zHx HB.1 hx194_0; replace p194 := eq_true p194; replace q194 := eq_true q194; have hcz48 := zc_3 (w := w47) BK170.1; have hcz49 := zc_5 (w := w47) BK192.1) | ((with_reducible refine zG Try.func107 55 #[.agg #[.slice A1_0 l1_0.length c1_0, .int .i64 a1_1, .int .i64 a1_2], .agg #[.int .i64 t186, .int .i64 t187, .int .i64 t188, .int .i64 t189, .int .i64 t190], .int .i64 (rd l0 t193)] ?_); (with_reducible refine (spec_Work.calls kj3 _ _ l1_0 a1_1 a1_2 t186 t187 t188 t189 t190 (rd l0 t193) t195 t198 t199 t200 _ ?side1 ?side2 A35.1).mono ?_); (case side1 => exact zC (Kd.C_below HR1_0.1 HB.1)); (case side2 => exact HC1_0.1); rintro e w50 ⟨v196, rfl, ho0, hb⟩; refine ⟨_, rfl, ?_⟩; have HO197 := zM (Kd.R_lower (Kd.R_new' ho0 (Kd.R_lt (zR HO_6.1))) (below_size zB0)); replace HO_6 := zM (Kd.R_elder' (zR HO_6.1) (Kd.R_base ho0) hb); replace BK170 := zM (zb BK170.1 hb); replace BK171 := zM (zb BK171.1 hb); replace BK192 := zM (zb BK192.1 hb); replace HB := zM (below_step zB0 hb); clear hb ho0) | ((with_reducible refine zBx 11 29 #[.slice none 0 0, .int .i64 0, .int .i64 0] ?_); intro gb201 hg w51 hbox hb; replace HO_6 := zM (Kd.R_below (zR HO_6.1) hb); replace HO197 := zM (Kd.R_below (zR HO197.1) hb); have BK201 := zM hbox; have GW201 := zM (zW hg (below_size zB0)); have GE201 := zM (zW hg (below_size zB0)); replace HB := zM (below_step zB0 hb); have NB170_201 := zM ((zn BK170.1 hg : gb170 ≠ gb201)); have NB201_170 := zM ((zm BK170.1 hg : gb201 ≠ gb170)); replace BK170 := zM (zb BK170.1 hb); have NB171_201 := zM ((zn BK171.1 hg : gb171 ≠ gb201)); have NB201_171 := zM ((zm BK171.1 hg : gb201 ≠ gb171)); replace BK171 := zM (zb BK171.1 hb); have NB192_201 := zM ((zn BK192.1 hg : gb192 ≠ gb201)); have NB201_192 := zM ((zm BK192.1 hg : gb201 ≠ gb192)); replace BK192 := zM (zb BK192.1 hb); clear hb hbox hg; obtain ⟨Ao52, co52, eo52⟩ := Kd.R_slice HO197.1; subst eo52; have hnb53 := NB201_170.1; have hnc53 := NB170_201.1; have hnb54 := NB201_171.1; have hnc54 := NB171_201.1; have hnb55 := NB201_192.1; have hnc55 := NB192_201.1; have hcz56 := zc_3 (w := w51) BK201.1) | ((with_reducible refine gate_store (t := 29) (p := 11) rfl ?_); refine store_event (t := 29) (p := 11) (v := ?vo_w57) (w1 := (((w51.setCell ⟨gb201, 0, none⟩ (.slice Ao52 t195.length co52)).setCell ⟨gb201, 1, none⟩ (.int .i64 t198)).setCell ⟨gb201, 2, none⟩ (.int .i64 t199))) ?hg ?ho ?hn ?hr ?_; (case ho => rfl); (case hg => rfl); (case hn => rfl); (case hr => exact zHH); intro w57 hw; have n0_ : Aside0 (Kd.R (Kd.int .i64) 3 w57 w.heap.size (fun k_ => some k_ ≠ (.slice Ao52 t195.length co52 : Value).ownBlock) v176 y175) := ⟨(by rw [hw]; exact (by refine zrR ?_; exact Kd.R_mono (zfR (zfR (zfR (Kd.R_types HO_6.1 BK201.1 (by decide))))) (fun _ hk => hk.1.2)))⟩; have n1_ : Aside0 (Kd.R (Kd.int .i64) 3 w57 w.heap.size (fun k_ => some k_ ≠ (v176 : Value).ownBlock) (.slice Ao52 t195.length co52) t195) := ⟨(by rw [hw]; exact (by refine zrR ?_; exact Kd.R_mono (zfR (zfR (zfR (Kd.R_types HO197.1 BK201.1 (by decide))))) (fun _ hk => hk.1.2)))⟩; have n2_ : Aside0 (w57.heap[gb170]? = some (.cells #[.slice A1_0 l1_0.length c1_0, .int .i64 a1_1, .int .i64 a1_2] 29 (0, 0))) := ⟨(by rw [hw]; exact zPq)⟩; have n3_ : Aside0 (w57.heap[gb171]? = some (.cells #[.slice none 0 0, .int .i64 0, .int .i64 0] 29 (0, 0))) := ⟨(by rw [hw]; exact zPq)⟩; have n4_ : Aside0 (w57.heap[gb192]? = some (.cells #[.int .i64 t186, .int .i64 t187, .int .i64 t188, .int .i64 t189, .int .i64 t190] 59 (0, 0))) := ⟨(by rw [hw]; exact zPq)⟩; have n5_ : Aside0 (w57.heap[gb201]? = some (.cells #[.slice Ao52 t195.length co52, .int .i64 t198, .int .i64 t199] 29 (0, 0))) := ⟨(by rw [hw]; exact (by exact zp3 (zK BK201.1)))⟩; have n6_ : Aside0 (Below w.heap.size w w57) := ⟨(by rw [hw]; exact zB0)⟩; clear hw; clear HO_6; clear HO197; clear BK170; clear BK171; clear BK192; clear BK201; clear HB; have HO_6 := n0_; have HO197 := n1_; have BK170 := n2_; have BK171 := n3_; have BK192 := n4_; have BK201 := n5_; have HB := n6_; clear n0_ n1_ n2_ n3_ n4_ n5_ n6_; have p38 : 0 ≤ (t193 : Int) := zA; have q38 : (t193 : Int) < ((y175.length : Int) : Int) := zA; obtain ⟨go38, co38, eo38, gb38, gl38, cl38, HG38⟩ := Kd.R_form HO_6.1 (by omega); (first | cases eo38 | (injection eo38 with ea_ en_ ec_; (first | subst ea_ | (injection ea_ with ea_; subst ea_)); subst ec_; clear en_)); have GB38 := zM gb38; have GG38 := zM HG38; clear gb38 gl38 HG38; obtain ⟨hx38_0, hf38_0⟩ := Kd.R_celln 0 HO_6.1 (t193 : Int) p38 q38; replace p38 := eq_true p38; replace q38 := eq_true q38; obtain ⟨hy58_, hz58_⟩ := Kd.R_celln 0 HO_6.1 (t193 : Int) zA zA; have HP58 := Kd.R_putg HO_6.1 (t193 : Int) t200) | ((with_reducible refine gate_store (t := 3) (p := 63) rfl ?_); refine store_event (t := 3) (p := 63) (v := ?vo_w59) (w1 := (w57.setCell ⟨go38, (t193 : Int).toNat, none⟩ (.int .i64 t200))) ?hg ?ho ?hn ?hr ?_; (case ho => rfl); (case hg => rfl); (case hn => rfl); (case hr => exact zHH); intro w59 hw; have hg : w57.grownBy w59 (some go38) := (by rw [hw]; exact HP58.2); have hp_ : Kd.R (Kd.int .i64) 3 w59 w.heap.size (fun k_ => some k_ ≠ (.slice Ao52 t195.length co52 : Value).ownBlock) (.slice (some ⟨go38, 0, none⟩) y175.length co38) y202 := (by rw [hw, Ny202.1]; exact HP58.1); clear HP58; replace BK170 := zM (zg BK170.1 hg (Kd.R_ne HO_6.1 BK170.1 (by decide))); replace BK171 := zM (zg BK171.1 hg (Kd.R_ne HO_6.1 BK171.1 (by decide))); replace BK192 := zM (zg BK192.1 hg (Kd.R_ne HO_6.1 BK192.1 (by decide))); replace HO197 := zM (Kd.R_after (v := (.slice (some ⟨go38, 0, none⟩) y175.length co38)) (v1 := (.slice (some ⟨go38, 0, none⟩) y175.length co38)) (ok := (fun _ => True)) (by refine zrR ?_; exact Kd.R_mono HO197.1 (fun _ hk => ⟨trivial, hk⟩)) hg (.inl rfl)); replace BK201 := zM (zg BK201.1 hg (Kd.R_ne HO_6.1 BK201.1 (by decide))); replace HO_6 := zM hp_; replace HB := zM ((by rw [hw]; exact below_set (HB.1) GB38.1 : Below w.heap.size w w59)); clear hg hw hp_))
   replace HO_6 := zM (Kd.R_drew HO_6.1)
   replace HO197 := zM (Kd.R_drew HO197.1)
   replace BK170 := zM (blk_drew BK170.1)
   replace BK171 := zM (blk_drew BK171.1)
   replace BK192 := zM (blk_drew BK192.1)
   replace BK201 := zM (blk_drew BK201.1)
   replace HB := zM (below_drew1 HB.1)
   refine start_ (n := 4) (S := fun w' => w'.cell? ⟨gb201, 0, none⟩ = some (.slice Ao52 t195.length co52) ∧ w'.cell? ⟨gb201, 1, none⟩ = some (.int .i64 t198) ∧ w'.cell? ⟨gb201, 2, none⟩ = some (.int .i64 t199)) (ds := []) #[false, false, false, false] (by kernel_rfl) rfl rfl ⟨(blk_cell BK201.1 0).trans rfl, (blk_cell BK201.1 1).trans rfl, (blk_cell BK201.1 2).trans rfl⟩ (fun hHeld => ?_)
   generalize w59.drew = w60 at HO_6 HO197 BK170 BK171 BK192 BK201 HB hHeld ⊢
   refine zPu 0 ?_
   refine zPu 2 ?_
   refine zTk3 1 hHeld ?_
   refine zOn 3 none fun K hK => ?_
   obtain ⟨hs61, hfs61⟩ := zHs BK171.1 0
   have hns61_0 := NB170_171.1
   have hns61_2 := NB192_171.1
   have hns61_3 := NB201_171.1
   have hms61_0 := NB171_170.1
   have hms61_2 := NB171_192.1
   have hms61_3 := NB171_201.1
   obtain ⟨hs62, hfs62⟩ := zHs BK171.1 1
   have hns62_0 := NB170_171.1
   have hns62_2 := NB192_171.1
   have hns62_3 := NB201_171.1
   have hms62_0 := NB171_170.1
   have hms62_2 := NB171_192.1
   have hms62_3 := NB171_201.1
   obtain ⟨hs63, hfs63⟩ := zHs BK171.1 2
   have hns63_0 := NB170_171.1
   have hns63_2 := NB192_171.1
   have hns63_3 := NB201_171.1
   have hms63_0 := NB171_170.1
   have hms63_2 := NB171_192.1
   have hms63_3 := NB171_201.1
   refine skip_ (w1 := ?_) (by rfl) rfl ?_ ?_
   rotate_left
   ·go_simp
    rfl
   refine hK.out _ _ zCs fun hHeld => ?_
   clear hK K
   refine done_ (by kernel_rfl) ?_
   try go_wp2
   refine bodyPost_ret (results_tc rfl _ _ gb171 29 #[.slice Ao52 t195.length co52, .int .i64 t198, .int .i64 t199] (0, 0) _ rfl (by exact zp3 (zK BK171.1)) Try.underlying29 rfl (by kernel_rfl)) rfl ?_
   exact ⟨_, _, zE, by refine zrR ?_; exact Kd.R_mono (zfR (zfR (zfR (Kd.R_types HO_6.1 BK171.1 (by decide))))) (fun _ hk => hk.1), by refine zrR ?_; exact Kd.R_mono (zfR (zfR (zfR (Kd.R_types HO197.1 BK171.1 (by decide))))) (fun _ hk => hk.1.2), zB0⟩

end Go.Proofs.Ytnjdepmlpdjghaa.PFnAllEnds
