-- made by wip/tools/myprint.py out of the seat's translation
import Derived.Test.YtnjdepmlpdjghaaPFnExactEnds2x0
import Derived.Test.YtnjdepmlpdjghaaPFnExactEnds2x2
import Derived.Test.YtnjdepmlpdjghaaPFnExactEnds2x3
import Derived.Test.YtnjdepmlpdjghaaPFnExactEnds2x4
namespace Go.Proofs.Ytnjdepmlpdjghaa.PFnExactEnds2
open Go.RowKit Go.Proofs.YtnjdepmlpdjghaaW.PrintWords Go.Proofs.YtnjdepmlpdjghaaW.PrintLast Go.Proofs.YtnjdepmlpdjghaaW.PrintMore
attribute [local go_sem] max2_int min2_int max_two min_two max_three min_three max_four min_four   -- for this text's walks alone
set_option linter.unusedVariables false
set_option linter.unusedSimpArgs false
set_option maxHeartbeats 8000000
set_option maxRecDepth 100000

/-! ### spec_FlatStep: function 77 -/
def spec_FlatStep.j0 : Nat → List Int → List Int → Bool → List Int → Int → Int → Option (List Int × List Int × Int × Int)
 | 0, _, _, _, _, _, _ => none
 | k + 1, x0, x6, x28, x172000, x172001, x172002 => if x28 = true then ((spec_l9Copy.f x172000 x172001 x172002).bind fun bt181 => (some (x6, bt181.1, bt181.2.1, bt181.2.2))) else (if 0 ≤ x172001 then (if x172001 < (x0.length : Int) then ((spec_Decode.f (rd x0 x172001)).bind fun bt187 => ((spec_Target.f bt187.1 bt187.2.1 bt187.2.2.1 bt187.2.2.2.1 bt187.2.2.2.2.1 x172000).bind fun t194 => (if t194 ≥ 0 then (if 0 ≤ t194 then (if t194 < (x0.length : Int) then ((spec_Work.f k x172000 x172001 x172002 bt187.1 bt187.2.1 bt187.2.2.1 bt187.2.2.2.1 bt187.2.2.2.2.1 (rd x0 t194)).bind fun bt196 => (if bt196.2.2.2 ≥ 0 then (if t194 < (x6.length : Int) then (some ((x6.set (t194 : Int).toNat bt196.2.2.2), bt196.1, bt196.2.1, bt196.2.2.1)) else (none)) else (some (x6, bt196.1, bt196.2.1, bt196.2.2.1)))) else (none)) else (none)) else ((spec_Work.f k x172000 x172001 x172002 bt187.1 bt187.2.1 bt187.2.2.1 bt187.2.2.2.1 bt187.2.2.2.2.1 0).bind fun bt204 => (if bt204.2.2.2 ≥ 0 then (if 0 ≤ t194 then (if t194 < (x6.length : Int) then (some ((x6.set (t194 : Int).toNat bt204.2.2.2), bt204.1, bt204.2.1, bt204.2.2.1)) else (none)) else (none)) else (some (x6, bt204.1, bt204.2.1, bt204.2.2.1))))))) else (none)) else (none))
def spec_FlatStep.f (k : Nat) (l0 : List Int) (l1_0 : List Int) (a1_1 : Int) (a1_2 : Int) : Option (List Int × List Int × Int × Int) := (some (([] : List Int) : List Int)).bind fun y173 => (if y173.length + l0.length < 17592186044416 then ((some (y173 ++ l0 : List Int)).bind fun y176 => ((spec_l1Words.f k l0 24).bind fun t179 => (if t179 = true then ((spec_HartOk.f k l1_0 a1_1 a1_2).bind fun t180 => (if t180 = true then (spec_FlatStep.j0 k l0 y176 (a1_2 != 0) l1_0 a1_1 a1_2) else (spec_FlatStep.j0 k l0 y176 true l1_0 a1_1 a1_2))) else (spec_FlatStep.j0 k l0 y176 true l1_0 a1_1 a1_2)))) else (none))
theorem spec_FlatStep.mono_l : ∀ k, (∀ y0 y1 y2 y3 y4 y5, LeO (spec_FlatStep.j0 k y0 y1 y2 y3 y4 y5) (spec_FlatStep.j0 (k + 1) y0 y1 y2 y3 y4 y5))
 | 0 => fun _ _ _ _ _ _ r h => by simp [spec_FlatStep.j0] at h
 | k + 1 => by
  have ih0 := spec_FlatStep.mono_l k
  ·intros
   unfold spec_FlatStep.j0
   have mo0 := @spec_HartOk.mono
   have mo1 := @spec_Work.mono
   have mo2 := @spec_l1Words.mono
   exact zL
theorem spec_FlatStep.mono : ∀ a0 a1 a2 a3 k, LeO (spec_FlatStep.f k a0 a1 a2 a3) (spec_FlatStep.f (k + 1) a0 a1 a2 a3) := by
 intro a0 a1 a2 a3 k
 have ih0 := spec_FlatStep.mono_l k
 unfold spec_FlatStep.f
 have mo0 := @spec_HartOk.mono
 have mo1 := @spec_Work.mono
 have mo2 := @spec_l1Words.mono
 exact zL
theorem spec_FlatStep.calls (k : Nat) (A0 : Option Addr) (c0 : Nat) (l0 : List Int) (A1_0 : Option Addr) (c1_0 : Nat) (l1_0 : List Int) (a1_1 : Int) (a1_2 : Int) (r1 : List Int) (r2 : List Int) (r3 : Int) (r4 : Int) (w : World) (hr0 : Kd.C (Kd.int .i64) w A0 l0.length l0) (hc0 : l0.length ≤ c0) (hr1_0 : Kd.C (Kd.int .i64) w A1_0 l1_0.length l1_0) (hc1_0 : l1_0.length ≤ c1_0) (h : spec_FlatStep.f k l0 l1_0 a1_1 a1_2 = some (r1, r2, r3, r4)) :
  Calls Try.prog 77 #[.slice A0 l0.length c0, .agg #[.slice A1_0 l1_0.length c1_0, .int .i64 a1_1, .int .i64 a1_2]] w fun e w' => ∃ v0_ v1_ : Value, e = .returned (.tuple #[v0_, .agg #[v1_, .int .i64 r3, .int .i64 r4]]) ∧ Kd.R (Kd.int .i64) 3 w' w.heap.size (fun k_ => some k_ ≠ (v1_ : Value).ownBlock) v0_ r1 ∧ Kd.R (Kd.int .i64) 3 w' w.heap.size (fun k_ => some k_ ≠ (v0_ : Value).ownBlock) v1_ r2 ∧ Below w.heap.size w w' := by
 have hu29 := Try.underlying29
 have hu59 := Try.underlying59
 have HR0 := zM hr0
 have HC0 := zM hc0
 clear hr0 hc0
 have HR1_0 := zM hr1_0
 have HC1_0 := zM hc1_0
 clear hr1_0 hc1_0
 have HB := zM (Below.refl w.heap.size w)
 unfold spec_FlatStep.f at h
 have H := h
 clear h
 obtain ⟨y173, hy173⟩ : ∃ y_ : List Int, y_ = (([] : List Int)) := ⟨_, rfl⟩
 replace H : (if y173.length + l0.length < 17592186044416 then ((some (y173 ++ l0 : List Int)).bind fun y176 => ((spec_l1Words.f k l0 24).bind fun t179 => (if t179 = true then ((spec_HartOk.f k l1_0 a1_1 a1_2).bind fun t180 => (if t180 = true then (spec_FlatStep.j0 k l0 y176 (a1_2 != 0) l1_0 a1_1 a1_2) else (spec_FlatStep.j0 k l0 y176 true l1_0 a1_1 a1_2))) else (spec_FlatStep.j0 k l0 y176 true l1_0 a1_1 a1_2)))) else (none)) = some (r1, r2, r3, r4) := by first | (rw [hy173]; with_reducible exact H) | (have H2_ := (Option.bind_some _ _).symm.trans H; rw [hy173]; with_reducible exact H2_) | (have H2_ := (Option.bind_some _ _).symm.trans H; with_reducible exact H2_) | with_reducible exact H | (rw [hy173]; exact H) | exact H
 have Ny173 := zM hy173
 clear hy173
 by_cases c3 : y173.length + l0.length < 17592186044416
 rotate_left
 ·rw [if_neg c3] at H
  exact absurd H (by simp)
 rw [if_pos c3] at H
 have LMc3 := zM c3
 clear c3
 obtain ⟨y176, hy176⟩ : ∃ y_ : List Int, y_ = (y173 ++ l0) := ⟨_, rfl⟩
 replace H : ((spec_l1Words.f k l0 24).bind fun t179 => (if t179 = true then ((spec_HartOk.f k l1_0 a1_1 a1_2).bind fun t180 => (if t180 = true then (spec_FlatStep.j0 k l0 y176 (a1_2 != 0) l1_0 a1_1 a1_2) else (spec_FlatStep.j0 k l0 y176 true l1_0 a1_1 a1_2))) else (spec_FlatStep.j0 k l0 y176 true l1_0 a1_1 a1_2))) = some (r1, r2, r3, r4) := by first | (rw [hy176]; with_reducible exact H) | (have H2_ := (Option.bind_some _ _).symm.trans H; rw [hy176]; with_reducible exact H2_) | (have H2_ := (Option.bind_some _ _).symm.trans H; with_reducible exact H2_) | with_reducible exact H | (rw [hy176]; exact H) | exact H
 have Ny176 := zM hy176
 clear hy176
 have HC4 := zM H
 clear H
 go_enter Try.func77, Try.ntmps77
 go_upto_region 2 with (first | ((with_reducible refine gate_dst (N := 3) rfl ?_); refine box_event ?hg (N := 3) ?hd (cs := #[.slice A1_0 l1_0.length c1_0, .int .i64 a1_1, .int .i64 a1_2]) (t := 29) ?hr ?_; (case hd => rfl); (case hg => rfl); (case hr => exact zHH); intro gb171 hg w5 hbox hb; have BK171 := zM hbox; have GW171 := zM (zW hg (below_size zB0)); have GE171 := zM (zW hg (below_size zB0)); replace HB := zM (below_step zB0 hb); clear hb hbox hg) | ((with_reducible refine gate_dst (N := 5) rfl ?_); refine box_event ?hg (N := 5) ?hd (cs := #[.slice none 0 0, .int .i64 0, .int .i64 0]) (t := 29) ?hr ?_; (case hd => rfl); (case hg => rfl); (case hr => exact zHH); intro gb172 hg w6 hbox hb; have BK172 := zM hbox; have GW172 := zM (zW hg (below_size zB16)); have GE172 := zM (zW hg (below_size zB16)); replace HB := zM (below_step zB16 hb); have NB171_172 := zM ((zn BK171.1 hg : gb171 ≠ gb172)); have NB172_171 := zM ((zm BK171.1 hg : gb172 ≠ gb171)); replace BK171 := zM (zb BK171.1 hb); clear hb hbox hg) | ((with_reducible refine gate_dst (N := 13) rfl ?_); refine Kd.R_lit (Kd.int .i64) _ 3 ?hg (N := 13) ?hd (xs := ([] : List Int)) (inner := []) (ok := fun _ => True) (okp := fun _ => True) ?hr ?hp (fun _ hk => hk) trivial (Below.refl _ _) (Nat.le_refl _) (by simp) ?_; (case hd => rfl); (case hg => rfl); (case hr => exact zHH); (case hp => exact (Reps.none _ _)); intro v174 w7 ho8 hb hg_ hnew_; clear hg_ hnew_; (first | rw [← Ny173.1] at ho8 | (simp only [Int.reduceToNat] at ho8; rw [← Ny173.1] at ho8)); have HO175 := zM (Kd.R_lower ho8 (below_size zB17)); replace BK171 := zM (zb BK171.1 hb); replace BK172 := zM (zb BK172.1 hb); replace HB := zM (below_step zB17 hb); clear hb ho8) | ((with_reducible refine gate_builtin (b := .append) (xs := #[.tmp 13, .tmp 14]) rfl ?_); at_builtin; refine Kd.R_append_rows (Kd.int .i64) (w0 := w) w.heap.size rfl (.tmp 13) (.tmp 14) 24 3 (.int .i64 0) 8 rfl Try.underlying24 info3 rfl (by decide) (by omega) v174 y173 l0 _ _ _ (fun _ => True) (fun _ => False) rfl rfl ?aO ?aR (fun _ _ h => h) (fun _ h => h.elim) ?aF ?aB ?aS ?aL ?_; (case aR => exact zC (Kd.C_below HR0.1 HB.1)); (case aB => exact zB17); (case aF => exact (fun _ _ => trivial)); (case aO => exact (zR HO175.1)); (case aS => exact (below_size zB17)); (case aL => have := LMc3.out; omega); intro v177 w9 ho hb hg hat; rw [← Ny176.1] at ho; replace BK171 := zM (zg BK171.1 hg (Kd.R_ne HO175.1 BK171.1 (by decide))); replace BK172 := zM (zg BK172.1 hg (Kd.R_ne HO175.1 BK172.1 (by decide))); replace HB := zM hb; have HO178 := zM ho; clear HO175; clear ho hb hg hat))
 (try simp only [Act.put, List.setIfInBounds_toArray, List.set_cons_zero, List.set_cons_succ])
 go_cut [28] (fun v28 wc => ∃ (kq : Nat) (x28_3 : Bool), v28 = .bool x28_3 ∧ Aside0 (spec_FlatStep.j0 kq l0 y176 x28_3 l1_0 a1_1 a1_2 = some (r1, r2, r3, r4)) ∧ Aside0 (kq ≤ k) ∧ Aside0 (Kd.R (Kd.int .i64) 3 wc w.heap.size (fun _ => True) v177 y176) ∧ Aside0 (wc.heap[gb171]? = some (.cells #[(.slice A1_0 l1_0.length c1_0), .int .i64 a1_1, .int .i64 a1_2] 29 (0, 0))) ∧ Aside0 (wc.heap[gb172]? = some (.cells #[(.slice none 0 0), .int .i64 0, .int .i64 0] 29 (0, 0))) ∧ Aside0 (Below w.heap.size w wc))
 case first =>
  have H := HC4.1
  clear HC4
  replace H := zO H
  obtain ⟨t179, A10, H⟩ := H
  by_cases c11 : t179 = true
  rotate_left
  ·replace c11 := Bool.eq_false_iff.mpr c11
   subst c11
   rw [if_neg zF] at H
   have H' := zM H
   clear H
   go_wp2_with (first | ((with_reducible refine gate_callee (f := 53) rfl ?_); refine goesL_ (some 17) rfl rfl Try.func53 (by kernel_rfl) rfl #[.slice A0 l0.length c0, .int .i64 24] rfl zT ?_; (with_reducible refine (spec_l1Words.calls k _ _ l0 24 false _ ?side1 ?side2 A10.1).mono ?_); (case side1 => exact zC (Kd.C_below HR0.1 HB.1)); (case side2 => exact HC0.1); rintro e w' ⟨rfl, ⟨nd, rfl⟩⟩; refine ⟨_, rfl, ?_⟩))
   go_meet
   case rel => exact ⟨_, (true), zJJ, H', ⟨by first | omega | exact Nat.le_refl _⟩, ⟨zR HO178.1⟩, ⟨zK BK171.1⟩, ⟨zK BK172.1⟩, ⟨zB17⟩⟩
  subst c11
  rw [if_pos rfl] at H
  replace H := zO H
  obtain ⟨t180, A12, H⟩ := H
  by_cases c13 : t180 = true
  rotate_left
  ·replace c13 := Bool.eq_false_iff.mpr c13
   subst c13
   rw [if_neg zF] at H
   have H' := zM H
   clear H
   go_wp2_with (first | ((with_reducible refine gate_callee (f := 53) rfl ?_); refine goesL_ (some 17) rfl rfl Try.func53 (by kernel_rfl) rfl #[.slice A0 l0.length c0, .int .i64 24] rfl zT ?_; (with_reducible refine (spec_l1Words.calls k _ _ l0 24 true _ ?side1 ?side2 A10.1).mono ?_); (case side1 => exact zC (Kd.C_below HR0.1 HB.1)); (case side2 => exact HC0.1); rintro e w' ⟨rfl, ⟨nd, rfl⟩⟩; refine ⟨_, rfl, ?_⟩; have hnb18 := NB171_172.1; have hnc18 := NB172_171.1; have hcz19 := zc_3 (w := w9) BK171.1) | (go_at_call 52; (with_reducible refine (spec_HartOk.calls k _ _ l1_0 a1_1 a1_2 false _ ?side1 ?side2 A12.1).mono ?_); (case side1 => repeat (first | exact (Kd.C_below HR1_0.1 zB17) | (with_reducible refine Kd.C_alloc ?_ _) | (with_reducible refine Kd.C_drewN ?_ _) | (with_reducible refine Kd.C_drew ?_))); (case side2 => exact HC1_0.1); rintro e w20 ⟨rfl, hb⟩; replace HO178 := zM (Kd.R_below (zR HO178.1) hb); replace BK171 := zM (zb BK171.1 hb); replace BK172 := zM (zb BK172.1 hb); replace HB := zM (below_step zB17 hb); clear hb))
   go_meet
   case rel => exact ⟨_, (true), zJJ, H', ⟨by first | omega | exact Nat.le_refl _⟩, ⟨zR HO178.1⟩, ⟨zK BK171.1⟩, ⟨zK BK172.1⟩, ⟨zB17⟩⟩
  subst c13
  rw [if_pos rfl] at H
  have H' := zM H
  clear H
  go_wp2_with (first | ((with_reducible refine gate_callee (f := 53) rfl ?_); refine goesL_ (some 17) rfl rfl Try.func53 (by kernel_rfl) rfl #[.slice A0 l0.length c0, .int .i64 24] rfl zT ?_; (with_reducible refine (spec_l1Words.calls k _ _ l0 24 true _ ?side1 ?side2 A10.1).mono ?_); (case side1 => exact zC (Kd.C_below HR0.1 HB.1)); (case side2 => exact HC0.1); rintro e w' ⟨rfl, ⟨nd, rfl⟩⟩; refine ⟨_, rfl, ?_⟩; have hnb14 := NB171_172.1; have hnc14 := NB172_171.1; have hcz15 := zc_3 (w := w9) BK171.1) | (go_at_call 52; (with_reducible refine (spec_HartOk.calls k _ _ l1_0 a1_1 a1_2 true _ ?side1 ?side2 A12.1).mono ?_); (case side1 => repeat (first | exact (Kd.C_below HR1_0.1 zB17) | (with_reducible refine Kd.C_alloc ?_ _) | (with_reducible refine Kd.C_drewN ?_ _) | (with_reducible refine Kd.C_drew ?_))); (case side2 => exact HC1_0.1); rintro e w16 ⟨rfl, hb⟩; replace HO178 := zM (Kd.R_below (zR HO178.1) hb); replace BK171 := zM (zb BK171.1 hb); replace BK172 := zM (zb BK172.1 hb); replace HB := zM (below_step zB17 hb); clear hb; have hcz17 := zc_3 (w := w16) BK171.1))
  go_meet
  case rel => exact ⟨_, ((a1_2 != 0)), zJJ, H', ⟨by first | omega | exact Nat.le_refl _⟩, ⟨zR HO178.1⟩, ⟨zK BK171.1⟩, ⟨zK BK172.1⟩, ⟨zB17⟩⟩
 case rest =>
  clear HC4
  try clear c1
  try clear p2
  try clear c3
  try clear c5
  try clear c7
  try clear c11
  try clear c13
  try clear c14
  try clear c18
  try clear hcz15
  try clear hcz17
  try clear hcz19
  obtain ⟨kq, x28_3, rfl, HA, HJ3, HO_6, BK171, BK172, HB⟩ := hcut
  cases kq with
  | zero => exact absurd HA.1 (by simp [spec_FlatStep.j0])
  | succ kj3 =>
   have H := HA.1
   clear HA
   simp only [spec_FlatStep.j0] at H
   by_cases c21 : x28_3 = true
   ·subst c21
    rw [if_pos rfl] at H
    replace H := zO H
    obtain ⟨⟨t181, t184, t185⟩, A22, H⟩ := H
    try dsimp only at H
    simp only [Option.some.injEq, Prod.mk.injEq] at H
    obtain ⟨rfl, rfl, rfl, rfl⟩ := H
    have hnb23 := NB171_172.1
    have hnc23 := NB172_171.1
    have hcz24 := zc_3 (w := wc) BK171.1
    go_wp2_with (first | ((with_reducible refine gate_callee (f := 104) rfl ?_); refine goesL_ (some 31) rfl rfl Try.func104 (by kernel_rfl) rfl #[.agg #[.slice A1_0 l1_0.length c1_0, .int .i64 a1_1, .int .i64 a1_2]] rfl zT ?_; (with_reducible refine (spec_l9Copy.calls _ _ l1_0 a1_1 a1_2 t181 t184 t185 _ ?side1 ?side2 A22.1).mono ?_); (case side1 => exact zC (Kd.C_below HR1_0.1 HB.1)); (case side2 => exact HC1_0.1); rintro e w25 ⟨v182, rfl, ho0, hb⟩; refine ⟨_, rfl, ?_⟩; have HO183 := zM (Kd.R_lower (Kd.R_new' ho0 (Kd.R_lt (zR HO_6.1))) (below_size zB17)); replace HO_6 := zM (Kd.R_elder' (zR HO_6.1) (Kd.R_base ho0) hb); replace BK171 := zM (zb BK171.1 hb); replace BK172 := zM (zb BK172.1 hb); replace HB := zM (below_step zB17 hb); clear hb ho0; obtain ⟨Ao26, co26, eo26⟩ := Kd.R_slice HO183.1; subst eo26; have hcz27 := zc_3 (w := w25) BK172.1))
    refine bodyPost_ret (results_tc rfl _ _ gb172 29 #[.slice Ao26 t181.length co26, .int .i64 t184, .int .i64 t185] (0, 0) _ rfl (by exact zp3 (zK BK172.1)) Try.underlying29 rfl (by kernel_rfl)) rfl ?_
    exact ⟨_, _, zE, by refine zrR ?_; exact Kd.R_mono (Kd.R_far (p := ⟨gb172, 2, none⟩) (Kd.R_far (p := ⟨gb172, 1, none⟩) (Kd.R_far (p := ⟨gb172, 0, none⟩) (Kd.R_types HO_6.1 BK172.1 (by decide)) (fun _ hk => hk.2) (.slice Ao26 t181.length co26)) (fun _ hk => hk.2) (.int .i64 t184)) (fun _ hk => hk.2) (.int .i64 t185)) (fun _ hk => hk.1.2), by refine zrR ?_; exact Kd.R_mono (Kd.R_far (p := ⟨gb172, 2, none⟩) (Kd.R_far (p := ⟨gb172, 1, none⟩) (Kd.R_far (p := ⟨gb172, 0, none⟩) (Kd.R_types HO183.1 BK172.1 (by decide)) (fun _ hk => hk.2) (.slice Ao26 t181.length co26)) (fun _ hk => hk.2) (.int .i64 t184)) (fun _ hk => hk.2) (.int .i64 t185)) (fun _ hk => hk.1.2), zB17⟩
   replace c21 := Bool.eq_false_iff.mpr c21
   subst c21
   rw [if_neg zF] at H
   by_cases c28 : 0 ≤ a1_1
   rotate_left
   ·rw [if_neg c28] at H
    exact absurd H (by simp)
   rw [if_pos c28] at H
   have c28b0 := decide_eq_true c28
   clear c28
   by_cases c29 : a1_1 < (l0.length : Int)
   rotate_left
   ·rw [if_neg c29] at H
    exact absurd H (by simp)
   rw [if_pos c29] at H
   have c29b0 := decide_eq_true c29
   clear c29
   replace H := zO H
   obtain ⟨⟨t187, t188, t189, t190, t191, t192⟩, A30, H⟩ := H
   try dsimp only at H
   replace H := zO H
   obtain ⟨t194, A31, H⟩ := H
   by_cases c32 : t194 ≥ 0
   rotate_left
   ·rw [if_neg c32] at H
    have c32b0 := decide_eq_false c32
    clear c32
    replace H := zO H
    obtain ⟨⟨t204, t207, t208, t209⟩, A87, H⟩ := H
    try dsimp only at H
    by_cases c88 : t209 ≥ 0
    rotate_left
    ·rw [if_neg c88] at H
     have c88b0 := decide_eq_false c88
     clear c88
     simp only [Option.some.injEq, Prod.mk.injEq] at H
     obtain ⟨rfl, rfl, rfl, rfl⟩ := H
     have hnb117 := NB171_172.1
     have hnc117 := NB172_171.1
     have hcz118 := zc_3 (w := wc) BK171.1
     have p186 : 0 ≤ (a1_1 : Int) := zA
     have q186 : a1_1 < (l0.length : Int) := zA
     obtain ⟨ad186, e186, hx186_0⟩ := Kd.at_int HR0.1 a1_1 p186 q186
     cases e186
     replace hx186_0 := (HB.1.cell (World.block_lt_of_cell? w _ hx186_0)).trans hx186_0
     replace p186 := eq_true p186
     replace q186 := eq_true q186
     try go_wp2_with (first | ((with_reducible refine gate_callee (f := 105) rfl ?_); refine goesL_ (some 38) rfl rfl Try.func105 (by kernel_rfl) rfl #[.int .i64 (rd l0 a1_1)] rfl zT ?_; (with_reducible refine (spec_Decode.calls (rd l0 a1_1) t187 t188 t189 t190 t191 t192 _ A30.1).mono ?_); rintro e w119 ⟨rfl, hb⟩; refine ⟨_, rfl, ?_⟩; replace HO_6 := zM (Kd.R_below (zR HO_6.1) hb); replace BK171 := zM (zb BK171.1 hb); replace BK172 := zM (zb BK172.1 hb); replace HB := zM (below_step zB17 hb); clear hb) | ((with_reducible refine gate_dst (N := 7) rfl ?_); refine box_event ?hg (N := 7) ?hd (cs := #[.int .i64 0, .int .i64 0, .int .i64 0, .int .i64 0, .int .i64 0]) (t := 59) ?hr ?_; (case hd => rfl); (case hg => rfl); (case hr => exact zHH); intro gb193 hg w120 hbox hb; replace HO_6 := zM (Kd.R_below (zR HO_6.1) hb); have BK193 := zM hbox; have GW193 := zM (zW hg (below_size zB17)); have GE193 := zM (zW hg (below_size zB17)); replace HB := zM (below_step zB17 hb); have NB171_193 := zM ((zn BK171.1 hg : gb171 ≠ gb193)); have NB193_171 := zM ((zm BK171.1 hg : gb193 ≠ gb171)); replace BK171 := zM (zb BK171.1 hb); have NB172_193 := zM ((zn BK172.1 hg : gb172 ≠ gb193)); have NB193_172 := zM ((zm BK172.1 hg : gb193 ≠ gb172)); replace BK172 := zM (zb BK172.1 hb); clear hb hbox hg; have hnb121 := NB193_171.1; have hnc121 := NB171_193.1; have hnb122 := NB193_172.1; have hnc122 := NB172_193.1; have hcz123 := zc_5 (w := w120) BK193.1; have hcz124 := zc_3 (w := w120) BK171.1) | ((with_reducible refine gate_callee (f := 106) rfl ?_); refine goesL_ (some 44) rfl rfl Try.func106 (by kernel_rfl) rfl #[.agg #[.int .i64 t187, .int .i64 t188, .int .i64 t189, .int .i64 t190, .int .i64 t191], .slice A1_0 l1_0.length c1_0] rfl zT ?_; (with_reducible refine (spec_Target.calls t187 t188 t189 t190 t191 _ _ l1_0 t194 _ ?side1 ?side2 A31.1).mono ?_); (case side1 => exact Kd.C_below HR1_0.1 zB18); (case side2 => exact HC1_0.1); rintro e w125 ⟨rfl, hb⟩; refine ⟨_, rfl, ?_⟩; replace HO_6 := zM (Kd.R_below (by refine zrR ?_; exact (Kd.R_mono (Kd.R_far (p := ⟨gb193, 4, none⟩) (Kd.R_far (p := ⟨gb193, 3, none⟩) (Kd.R_far (p := ⟨gb193, 2, none⟩) (Kd.R_far (p := ⟨gb193, 1, none⟩) (Kd.R_far (p := ⟨gb193, 0, none⟩) (Kd.R_types HO_6.1 BK193.1 (by decide)) (fun _ hk => hk.2) (.int .i64 t187)) (fun _ hk => hk.2) (.int .i64 t188)) (fun _ hk => hk.2) (.int .i64 t189)) (fun _ hk => hk.2) (.int .i64 t190)) (fun _ hk => hk.2) (.int .i64 t191)) (fun _ h_ => h_.1))) hb); replace BK171 := zM (zf BK171.1 hb); replace BK172 := zM (zf BK172.1 hb); replace BK193 := zM (blk_below (g := gb193) (o := .cells #[.int .i64 t187, .int .i64 t188, .int .i64 t189, .int .i64 t190, .int .i64 t191] 59 (0, 0)) (by exact zp5 (zK BK193.1)) hb); replace HB := zM (below_step zB18 hb); clear hb; have hcz126 := zc_3 (w := w125) BK171.1; have hcz127 := zc_5 (w := w125) BK193.1) | ((with_reducible refine gate_callee (f := 107) rfl ?_); refine goesL_ (some 55) rfl rfl Try.func107 (by kernel_rfl) rfl #[.agg #[.slice A1_0 l1_0.length c1_0, .int .i64 a1_1, .int .i64 a1_2], .agg #[.int .i64 t187, .int .i64 t188, .int .i64 t189, .int .i64 t190, .int .i64 t191], .int .i64 0] rfl zT ?_; (with_reducible refine (spec_Work.calls kj3 _ _ l1_0 a1_1 a1_2 t187 t188 t189 t190 t191 0 t204 t207 t208 t209 _ ?side1 ?side2 A87.1).mono ?_); (case side1 => exact zC (Kd.C_below HR1_0.1 HB.1)); (case side2 => exact HC1_0.1); rintro e w128 ⟨v205, rfl, ho0, hb⟩; refine ⟨_, rfl, ?_⟩; have HO206 := zM (Kd.R_lower (Kd.R_new' ho0 (Kd.R_lt (zR HO_6.1))) (below_size zB18)); replace HO_6 := zM (Kd.R_elder' (zR HO_6.1) (Kd.R_base ho0) hb); replace BK171 := zM (zb BK171.1 hb); replace BK172 := zM (zb BK172.1 hb); replace BK193 := zM (zb BK193.1 hb); replace HB := zM (below_step zB18 hb); clear hb ho0) | ((with_reducible refine gate_dst (N := 11) rfl ?_); refine box_event ?hg (N := 11) ?hd (cs := #[.slice none 0 0, .int .i64 0, .int .i64 0]) (t := 29) ?hr ?_; (case hd => rfl); (case hg => rfl); (case hr => exact zHH); intro gb210 hg w129 hbox hb; replace HO_6 := zM (Kd.R_below (zR HO_6.1) hb); replace HO206 := zM (Kd.R_below (zR HO206.1) hb); have BK210 := zM hbox; have GW210 := zM (zW hg (below_size zB18)); have GE210 := zM (zW hg (below_size zB18)); replace HB := zM (below_step zB18 hb); have NB171_210 := zM ((zn BK171.1 hg : gb171 ≠ gb210)); have NB210_171 := zM ((zm BK171.1 hg : gb210 ≠ gb171)); replace BK171 := zM (zb BK171.1 hb); have NB172_210 := zM ((zn BK172.1 hg : gb172 ≠ gb210)); have NB210_172 := zM ((zm BK172.1 hg : gb210 ≠ gb172)); replace BK172 := zM (zb BK172.1 hb); have NB193_210 := zM ((zn BK193.1 hg : gb193 ≠ gb210)); have NB210_193 := zM ((zm BK193.1 hg : gb210 ≠ gb193)); replace BK193 := zM (zb BK193.1 hb); clear hb hbox hg; obtain ⟨Ao130, co130, eo130⟩ := Kd.R_slice HO206.1; subst eo130; have hnb131 := NB210_171.1; have hnc131 := NB171_210.1; have hnb132 := NB210_172.1; have hnc132 := NB172_210.1; have hnb133 := NB210_193.1; have hnc133 := NB193_210.1; have hcz134 := zc_3 (w := w129) BK210.1))
     have n0_ : Aside0 (Kd.R (Kd.int .i64) 3 (((w129.setCell ⟨gb210, 0, none⟩ (.slice Ao130 t204.length co130)).setCell ⟨gb210, 1, none⟩ (.int .i64 t207)).setCell ⟨gb210, 2, none⟩ (.int .i64 t208)) w.heap.size (fun k_ => some k_ ≠ (.slice Ao130 t204.length co130 : Value).ownBlock) v177 y176) := ⟨by refine zrR ?_; exact Kd.R_mono (Kd.R_far (p := ⟨gb210, 2, none⟩) (Kd.R_far (p := ⟨gb210, 1, none⟩) (Kd.R_far (p := ⟨gb210, 0, none⟩) (Kd.R_types HO_6.1 BK210.1 (by decide)) (fun _ hk => hk.2) (.slice Ao130 t204.length co130)) (fun _ hk => hk.2) (.int .i64 t207)) (fun _ hk => hk.2) (.int .i64 t208)) (fun _ hk => hk.1.2)⟩
     have n1_ : Aside0 (Kd.R (Kd.int .i64) 3 (((w129.setCell ⟨gb210, 0, none⟩ (.slice Ao130 t204.length co130)).setCell ⟨gb210, 1, none⟩ (.int .i64 t207)).setCell ⟨gb210, 2, none⟩ (.int .i64 t208)) w.heap.size (fun k_ => some k_ ≠ (v177 : Value).ownBlock) (.slice Ao130 t204.length co130) t204) := ⟨by refine zrR ?_; exact Kd.R_mono (Kd.R_far (p := ⟨gb210, 2, none⟩) (Kd.R_far (p := ⟨gb210, 1, none⟩) (Kd.R_far (p := ⟨gb210, 0, none⟩) (Kd.R_types HO206.1 BK210.1 (by decide)) (fun _ hk => hk.2) (.slice Ao130 t204.length co130)) (fun _ hk => hk.2) (.int .i64 t207)) (fun _ hk => hk.2) (.int .i64 t208)) (fun _ hk => hk.1.2)⟩
     have n2_ : Aside0 ((((w129.setCell ⟨gb210, 0, none⟩ (.slice Ao130 t204.length co130)).setCell ⟨gb210, 1, none⟩ (.int .i64 t207)).setCell ⟨gb210, 2, none⟩ (.int .i64 t208)).heap[gb171]? = some (.cells #[.slice A1_0 l1_0.length c1_0, .int .i64 a1_1, .int .i64 a1_2] 29 (0, 0))) := ⟨by refine zP ?_; refine blk_far ?_ NB171_210.1 _; refine zP ?_; refine blk_far ?_ NB171_210.1 _; refine zP ?_; refine blk_far ?_ NB171_210.1 _; refine zP ?_; exact BK171.1⟩
     have n3_ : Aside0 ((((w129.setCell ⟨gb210, 0, none⟩ (.slice Ao130 t204.length co130)).setCell ⟨gb210, 1, none⟩ (.int .i64 t207)).setCell ⟨gb210, 2, none⟩ (.int .i64 t208)).heap[gb172]? = some (.cells #[.slice none 0 0, .int .i64 0, .int .i64 0] 29 (0, 0))) := ⟨by refine zP ?_; refine blk_far ?_ NB172_210.1 _; refine zP ?_; refine blk_far ?_ NB172_210.1 _; refine zP ?_; refine blk_far ?_ NB172_210.1 _; refine zP ?_; exact BK172.1⟩
     have n4_ : Aside0 ((((w129.setCell ⟨gb210, 0, none⟩ (.slice Ao130 t204.length co130)).setCell ⟨gb210, 1, none⟩ (.int .i64 t207)).setCell ⟨gb210, 2, none⟩ (.int .i64 t208)).heap[gb193]? = some (.cells #[.int .i64 t187, .int .i64 t188, .int .i64 t189, .int .i64 t190, .int .i64 t191] 59 (0, 0))) := ⟨by refine zP ?_; refine blk_far ?_ NB193_210.1 _; refine zP ?_; refine blk_far ?_ NB193_210.1 _; refine zP ?_; refine blk_far ?_ NB193_210.1 _; refine zP ?_; exact BK193.1⟩
     have n5_ : Aside0 ((((w129.setCell ⟨gb210, 0, none⟩ (.slice Ao130 t204.length co130)).setCell ⟨gb210, 1, none⟩ (.int .i64 t207)).setCell ⟨gb210, 2, none⟩ (.int .i64 t208)).heap[gb210]? = some (.cells #[.slice Ao130 t204.length co130, .int .i64 t207, .int .i64 t208] 29 (0, 0))) := ⟨by exact zp3 (zK BK210.1)⟩
     have n6_ : Aside0 (Below w.heap.size w (((w129.setCell ⟨gb210, 0, none⟩ (.slice Ao130 t204.length co130)).setCell ⟨gb210, 1, none⟩ (.int .i64 t207)).setCell ⟨gb210, 2, none⟩ (.int .i64 t208))) := ⟨zB20⟩
     (try clear HO_6)
     (try clear HO206)
     (try clear BK171)
     (try clear BK172)
     (try clear BK193)
     (try clear BK210)
     (try clear HB)
     generalize (((w129.setCell ⟨gb210, 0, none⟩ (.slice Ao130 t204.length co130)).setCell ⟨gb210, 1, none⟩ (.int .i64 t207)).setCell ⟨gb210, 2, none⟩ (.int .i64 t208)) = w135 at n0_ n1_ n2_ n3_ n4_ n5_ n6_ ⊢
     have HO_6 := n0_
     have HO206 := n1_
     have BK171 := n2_
     have BK172 := n3_
     have BK193 := n4_
     have BK210 := n5_
     have HB := n6_
     clear n0_ n1_ n2_ n3_ n4_ n5_ n6_
     replace HO_6 := zM (Kd.R_drew HO_6.1)
     replace HO206 := zM (Kd.R_drew HO206.1)
     replace BK171 := zM (blk_drew BK171.1)
     replace BK172 := zM (blk_drew BK172.1)
     replace BK193 := zM (blk_drew BK193.1)
     replace BK210 := zM (blk_drew BK210.1)
     replace HB := zM (below_drew1 HB.1)
     refine start_ (n := 4) (S := fun w' => w'.cell? ⟨gb210, 0, none⟩ = some (.slice Ao130 t204.length co130) ∧ w'.cell? ⟨gb210, 1, none⟩ = some (.int .i64 t207) ∧ w'.cell? ⟨gb210, 2, none⟩ = some (.int .i64 t208)) (ds := []) #[false, false, false, false] (by kernel_rfl) rfl rfl ⟨(blk_cell BK210.1 0).trans rfl, (blk_cell BK210.1 1).trans rfl, (blk_cell BK210.1 2).trans rfl⟩ (fun hHeld => ?_)
     generalize w135.drew = w136 at HO_6 HO206 BK171 BK172 BK193 BK210 HB hHeld ⊢
     refine pure_ (i := 0) (N := some 64) (v := ?_) (a' := ?_) #[true, false, false, false] rfl rfl (by kernel_rfl) (fun _ _ _ h => h) (Or.inl ⟨by rfl, ?_⟩) ?_ ?_
     rotate_left
     ·intro w'
      go_simp
      with_reducible rfl
     rotate_left
     ·exact zV
     refine pure_ (i := 2) (N := some 4) (v := ?_) (a' := ?_) #[true, false, true, false] rfl rfl (by kernel_rfl) (fun _ _ _ h => h) (Or.inl ⟨by rfl, ?_⟩) ?_ ?_
     rotate_left
     ·intro w'
      go_simp
      with_reducible rfl
     rotate_left
     ·exact zV
     refine take_ (i := 1) (N := some 65) (v := ?_) (a' := ?_) #[true, true, true, false] rfl rfl (by kernel_rfl) (fun _ _ _ h => h) (Or.inl ⟨by rfl, ?_⟩) hHeld ?_ ?_
     rotate_left
     ·rintro w' ⟨s0, s1, s2⟩
      go_simp
      with_reducible rfl
     rotate_left
     ·exact zV
     refine one_ (i := 3) (N := none) #[true, true, true, true] rfl rfl (by kernel_rfl) (by decide) (fun K hK => ?_)
     have hs137 : w136.cell? ⟨gb172, 0, none⟩ = some (.slice none 0 0) := (blk_cell BK172.1 0).trans rfl
     have hfs137 := blk_frozen BK172.1 0
     have hns137_0 := NB171_172.1
     have hns137_2 := NB193_172.1
     have hns137_3 := NB210_172.1
     have hms137_0 := NB172_171.1
     have hms137_2 := NB172_193.1
     have hms137_3 := NB172_210.1
     have hs138 : w136.cell? ⟨gb172, 1, none⟩ = some (.int .i64 0) := (blk_cell BK172.1 1).trans rfl
     have hfs138 := blk_frozen BK172.1 1
     have hns138_0 := NB171_172.1
     have hns138_2 := NB193_172.1
     have hns138_3 := NB210_172.1
     have hms138_0 := NB172_171.1
     have hms138_2 := NB172_193.1
     have hms138_3 := NB172_210.1
     have hs139 : w136.cell? ⟨gb172, 2, none⟩ = some (.int .i64 0) := (blk_cell BK172.1 2).trans rfl
     have hfs139 := blk_frozen BK172.1 2
     have hns139_0 := NB171_172.1
     have hns139_2 := NB193_172.1
     have hns139_3 := NB210_172.1
     have hms139_0 := NB172_171.1
     have hms139_2 := NB172_193.1
     have hms139_3 := NB172_210.1
     refine skip_ (w1 := ?_) (by rfl) rfl ?_ ?_
     rotate_left
     ·go_simp
      rfl
     refine hK.out _ _ ⟨((cell_far (p := ⟨gb172, _, none⟩) NB210_172.1 _).trans (((cell_far (p := ⟨gb172, _, none⟩) NB210_172.1 _).trans (((cell_far (p := ⟨gb172, _, none⟩) NB210_172.1 _).trans (hHeld.1)))))), ((cell_far (p := ⟨gb172, _, none⟩) NB210_172.1 _).trans (((cell_far (p := ⟨gb172, _, none⟩) NB210_172.1 _).trans (((cell_far (p := ⟨gb172, _, none⟩) NB210_172.1 _).trans (hHeld.2.1)))))), ((cell_far (p := ⟨gb172, _, none⟩) NB210_172.1 _).trans (((cell_far (p := ⟨gb172, _, none⟩) NB210_172.1 _).trans (((cell_far (p := ⟨gb172, _, none⟩) NB210_172.1 _).trans (hHeld.2.2))))))⟩ (fun hHeld => ?_)
     clear hK K
     refine done_ (by kernel_rfl) ?_
     try go_wp2
     refine bodyPost_ret (results_tc rfl _ _ gb172 29 #[.slice Ao130 t204.length co130, .int .i64 t207, .int .i64 t208] (0, 0) _ rfl (by exact zp3 (zK BK172.1)) Try.underlying29 rfl (by kernel_rfl)) rfl ?_
     exact ⟨_, _, zE, by refine zrR ?_; exact Kd.R_mono (Kd.R_far (p := ⟨gb172, 2, none⟩) (Kd.R_far (p := ⟨gb172, 1, none⟩) (Kd.R_far (p := ⟨gb172, 0, none⟩) (Kd.R_types HO_6.1 BK172.1 (by decide)) (fun _ hk => hk.2) (.slice Ao130 t204.length co130)) (fun _ hk => hk.2) (.int .i64 t207)) (fun _ hk => hk.2) (.int .i64 t208)) (fun _ hk => hk.1), by refine zrR ?_; exact Kd.R_mono (Kd.R_far (p := ⟨gb172, 2, none⟩) (Kd.R_far (p := ⟨gb172, 1, none⟩) (Kd.R_far (p := ⟨gb172, 0, none⟩) (Kd.R_types HO206.1 BK172.1 (by decide)) (fun _ hk => hk.2) (.slice Ao130 t204.length co130)) (fun _ hk => hk.2) (.int .i64 t207)) (fun _ hk => hk.2) (.int .i64 t208)) (fun _ hk => hk.1), zB20⟩
    rw [if_pos c88] at H
    have c88b0 := decide_eq_true c88
    clear c88
    by_cases c89 : 0 ≤ t194
    rotate_left
    ·rw [if_neg c89] at H
     exact absurd H (by simp)
    rw [if_pos c89] at H
    have c89b0 := decide_eq_true c89
    clear c89
    by_cases c90 : t194 < (y176.length : Int)
    rotate_left
    ·rw [if_neg c90] at H
     exact absurd H (by simp)
    rw [if_pos c90] at H
    have c90b0 := decide_eq_true c90
    clear c90
    obtain ⟨y211, hy211⟩ : ∃ y_ : List Int, y_ = (y176.set (t194 : Int).toNat t209) := ⟨_, rfl⟩
    replace H : (some (y211, t204, t207, t208)) = some (r1, r2, r3, r4) := by first | (rw [hy211]; with_reducible exact H) | (have H2_ := (Option.bind_some _ _).symm.trans H; rw [hy211]; with_reducible exact H2_) | (have H2_ := (Option.bind_some _ _).symm.trans H; with_reducible exact H2_) | with_reducible exact H | (rw [hy211]; exact H) | exact H
    have Ny211 := zM hy211
    clear hy211
    simp only [Option.some.injEq, Prod.mk.injEq] at H
    obtain ⟨rfl, rfl, rfl, rfl⟩ := H
    have hnb92 := NB171_172.1
    have hnc92 := NB172_171.1
    have hcz93 := zc_3 (w := wc) BK171.1
    have p186 : 0 ≤ (a1_1 : Int) := zA
    have q186 : a1_1 < (l0.length : Int) := zA
    obtain ⟨ad186, e186, hx186_0⟩ := Kd.at_int HR0.1 a1_1 p186 q186
    cases e186
    replace hx186_0 := (HB.1.cell (World.block_lt_of_cell? w _ hx186_0)).trans hx186_0
    replace p186 := eq_true p186
    replace q186 := eq_true q186
    try go_wp2_with (first | ((with_reducible refine gate_callee (f := 105) rfl ?_); refine goesL_ (some 38) rfl rfl Try.func105 (by kernel_rfl) rfl #[.int .i64 (rd l0 a1_1)] rfl zT ?_; (with_reducible refine (spec_Decode.calls (rd l0 a1_1) t187 t188 t189 t190 t191 t192 _ A30.1).mono ?_); rintro e w94 ⟨rfl, hb⟩; refine ⟨_, rfl, ?_⟩; replace HO_6 := zM (Kd.R_below (zR HO_6.1) hb); replace BK171 := zM (zb BK171.1 hb); replace BK172 := zM (zb BK172.1 hb); replace HB := zM (below_step zB17 hb); clear hb) | ((with_reducible refine gate_dst (N := 7) rfl ?_); refine box_event ?hg (N := 7) ?hd (cs := #[.int .i64 0, .int .i64 0, .int .i64 0, .int .i64 0, .int .i64 0]) (t := 59) ?hr ?_; (case hd => rfl); (case hg => rfl); (case hr => exact zHH); intro gb193 hg w95 hbox hb; replace HO_6 := zM (Kd.R_below (zR HO_6.1) hb); have BK193 := zM hbox; have GW193 := zM (zW hg (below_size zB17)); have GE193 := zM (zW hg (below_size zB17)); replace HB := zM (below_step zB17 hb); have NB171_193 := zM ((zn BK171.1 hg : gb171 ≠ gb193)); have NB193_171 := zM ((zm BK171.1 hg : gb193 ≠ gb171)); replace BK171 := zM (zb BK171.1 hb); have NB172_193 := zM ((zn BK172.1 hg : gb172 ≠ gb193)); have NB193_172 := zM ((zm BK172.1 hg : gb193 ≠ gb172)); replace BK172 := zM (zb BK172.1 hb); clear hb hbox hg; have hnb96 := NB193_171.1; have hnc96 := NB171_193.1; have hnb97 := NB193_172.1; have hnc97 := NB172_193.1; have hcz98 := zc_5 (w := w95) BK193.1; have hcz99 := zc_3 (w := w95) BK171.1) | ((with_reducible refine gate_callee (f := 106) rfl ?_); refine goesL_ (some 44) rfl rfl Try.func106 (by kernel_rfl) rfl #[.agg #[.int .i64 t187, .int .i64 t188, .int .i64 t189, .int .i64 t190, .int .i64 t191], .slice A1_0 l1_0.length c1_0] rfl zT ?_; (with_reducible refine (spec_Target.calls t187 t188 t189 t190 t191 _ _ l1_0 t194 _ ?side1 ?side2 A31.1).mono ?_); (case side1 => exact Kd.C_below HR1_0.1 zB18); (case side2 => exact HC1_0.1); rintro e w100 ⟨rfl, hb⟩; refine ⟨_, rfl, ?_⟩; replace HO_6 := zM (Kd.R_below (by refine zrR ?_; exact (Kd.R_mono (Kd.R_far (p := ⟨gb193, 4, none⟩) (Kd.R_far (p := ⟨gb193, 3, none⟩) (Kd.R_far (p := ⟨gb193, 2, none⟩) (Kd.R_far (p := ⟨gb193, 1, none⟩) (Kd.R_far (p := ⟨gb193, 0, none⟩) (Kd.R_types HO_6.1 BK193.1 (by decide)) (fun _ hk => hk.2) (.int .i64 t187)) (fun _ hk => hk.2) (.int .i64 t188)) (fun _ hk => hk.2) (.int .i64 t189)) (fun _ hk => hk.2) (.int .i64 t190)) (fun _ hk => hk.2) (.int .i64 t191)) (fun _ h_ => h_.1))) hb); replace BK171 := zM (zf BK171.1 hb); replace BK172 := zM (zf BK172.1 hb); replace BK193 := zM (blk_below (g := gb193) (o := .cells #[.int .i64 t187, .int .i64 t188, .int .i64 t189, .int .i64 t190, .int .i64 t191] 59 (0, 0)) (by exact zp5 (zK BK193.1)) hb); replace HB := zM (below_step zB18 hb); clear hb; have hcz101 := zc_3 (w := w100) BK171.1; have hcz102 := zc_5 (w := w100) BK193.1) | ((with_reducible refine gate_callee (f := 107) rfl ?_); refine goesL_ (some 55) rfl rfl Try.func107 (by kernel_rfl) rfl #[.agg #[.slice A1_0 l1_0.length c1_0, .int .i64 a1_1, .int .i64 a1_2], .agg #[.int .i64 t187, .int .i64 t188, .int .i64 t189, .int .i64 t190, .int .i64 t191], .int .i64 0] rfl zT ?_; (with_reducible refine (spec_Work.calls kj3 _ _ l1_0 a1_1 a1_2 t187 t188 t189 t190 t191 0 t204 t207 t208 t209 _ ?side1 ?side2 A87.1).mono ?_); (case side1 => exact zC (Kd.C_below HR1_0.1 HB.1)); (case side2 => exact HC1_0.1); rintro e w103 ⟨v205, rfl, ho0, hb⟩; refine ⟨_, rfl, ?_⟩; have HO206 := zM (Kd.R_lower (Kd.R_new' ho0 (Kd.R_lt (zR HO_6.1))) (below_size zB18)); replace HO_6 := zM (Kd.R_elder' (zR HO_6.1) (Kd.R_base ho0) hb); replace BK171 := zM (zb BK171.1 hb); replace BK172 := zM (zb BK172.1 hb); replace BK193 := zM (zb BK193.1 hb); replace HB := zM (below_step zB18 hb); clear hb ho0) | ((with_reducible refine gate_dst (N := 11) rfl ?_); refine box_event ?hg (N := 11) ?hd (cs := #[.slice none 0 0, .int .i64 0, .int .i64 0]) (t := 29) ?hr ?_; (case hd => rfl); (case hg => rfl); (case hr => exact zHH); intro gb210 hg w104 hbox hb; replace HO_6 := zM (Kd.R_below (zR HO_6.1) hb); replace HO206 := zM (Kd.R_below (zR HO206.1) hb); have BK210 := zM hbox; have GW210 := zM (zW hg (below_size zB18)); have GE210 := zM (zW hg (below_size zB18)); replace HB := zM (below_step zB18 hb); have NB171_210 := zM ((zn BK171.1 hg : gb171 ≠ gb210)); have NB210_171 := zM ((zm BK171.1 hg : gb210 ≠ gb171)); replace BK171 := zM (zb BK171.1 hb); have NB172_210 := zM ((zn BK172.1 hg : gb172 ≠ gb210)); have NB210_172 := zM ((zm BK172.1 hg : gb210 ≠ gb172)); replace BK172 := zM (zb BK172.1 hb); have NB193_210 := zM ((zn BK193.1 hg : gb193 ≠ gb210)); have NB210_193 := zM ((zm BK193.1 hg : gb210 ≠ gb193)); replace BK193 := zM (zb BK193.1 hb); clear hb hbox hg; obtain ⟨Ao105, co105, eo105⟩ := Kd.R_slice HO206.1; subst eo105; have hnb106 := NB210_171.1; have hnc106 := NB171_210.1; have hnb107 := NB210_172.1; have hnc107 := NB172_210.1; have hnb108 := NB210_193.1; have hnc108 := NB193_210.1; have hcz109 := zc_3 (w := w104) BK210.1) | ((with_reducible refine gate_store (t := 29) (p := 11) rfl ?_); refine store_event (t := 29) (p := 11) (v := ?vo_w110) (w1 := (((w104.setCell ⟨gb210, 0, none⟩ (.slice Ao105 t204.length co105)).setCell ⟨gb210, 1, none⟩ (.int .i64 t207)).setCell ⟨gb210, 2, none⟩ (.int .i64 t208))) ?hg ?ho ?hn ?hr ?_; (case ho => rfl); (case hg => rfl); (case hn => rfl); (case hr => exact zHH); intro w110 hw; have n0_ : Aside0 (Kd.R (Kd.int .i64) 3 w110 w.heap.size (fun k_ => some k_ ≠ (.slice Ao105 t204.length co105 : Value).ownBlock) v177 y176) := ⟨(by rw [hw]; exact (by refine zrR ?_; exact Kd.R_mono (Kd.R_far (p := ⟨gb210, 2, none⟩) (Kd.R_far (p := ⟨gb210, 1, none⟩) (Kd.R_far (p := ⟨gb210, 0, none⟩) (Kd.R_types HO_6.1 BK210.1 (by decide)) (fun _ hk => hk.2) (.slice Ao105 t204.length co105)) (fun _ hk => hk.2) (.int .i64 t207)) (fun _ hk => hk.2) (.int .i64 t208)) (fun _ hk => hk.1.2)))⟩; have n1_ : Aside0 (Kd.R (Kd.int .i64) 3 w110 w.heap.size (fun k_ => some k_ ≠ (v177 : Value).ownBlock) (.slice Ao105 t204.length co105) t204) := ⟨(by rw [hw]; exact (by refine zrR ?_; exact Kd.R_mono (Kd.R_far (p := ⟨gb210, 2, none⟩) (Kd.R_far (p := ⟨gb210, 1, none⟩) (Kd.R_far (p := ⟨gb210, 0, none⟩) (Kd.R_types HO206.1 BK210.1 (by decide)) (fun _ hk => hk.2) (.slice Ao105 t204.length co105)) (fun _ hk => hk.2) (.int .i64 t207)) (fun _ hk => hk.2) (.int .i64 t208)) (fun _ hk => hk.1.2)))⟩; have n2_ : Aside0 (w110.heap[gb171]? = some (.cells #[.slice A1_0 l1_0.length c1_0, .int .i64 a1_1, .int .i64 a1_2] 29 (0, 0))) := ⟨(by rw [hw]; exact (by refine zP ?_; refine blk_far ?_ NB171_210.1 _; refine zP ?_; refine blk_far ?_ NB171_210.1 _; refine zP ?_; refine blk_far ?_ NB171_210.1 _; refine zP ?_; exact BK171.1))⟩; have n3_ : Aside0 (w110.heap[gb172]? = some (.cells #[.slice none 0 0, .int .i64 0, .int .i64 0] 29 (0, 0))) := ⟨(by rw [hw]; exact (by refine zP ?_; refine blk_far ?_ NB172_210.1 _; refine zP ?_; refine blk_far ?_ NB172_210.1 _; refine zP ?_; refine blk_far ?_ NB172_210.1 _; refine zP ?_; exact BK172.1))⟩; have n4_ : Aside0 (w110.heap[gb193]? = some (.cells #[.int .i64 t187, .int .i64 t188, .int .i64 t189, .int .i64 t190, .int .i64 t191] 59 (0, 0))) := ⟨(by rw [hw]; exact (by refine zP ?_; refine blk_far ?_ NB193_210.1 _; refine zP ?_; refine blk_far ?_ NB193_210.1 _; refine zP ?_; refine blk_far ?_ NB193_210.1 _; refine zP ?_; exact BK193.1))⟩; have n5_ : Aside0 (w110.heap[gb210]? = some (.cells #[.slice Ao105 t204.length co105, .int .i64 t207, .int .i64 t208] 29 (0, 0))) := ⟨(by rw [hw]; exact (by exact zp3 (zK BK210.1)))⟩; have n6_ : Aside0 (Below w.heap.size w w110) := ⟨(by rw [hw]; exact zB20)⟩; clear hw; clear HO_6; clear HO206; clear BK171; clear BK172; clear BK193; clear BK210; clear HB; have HO_6 := n0_; have HO206 := n1_; have BK171 := n2_; have BK172 := n3_; have BK193 := n4_; have BK210 := n5_; have HB := n6_; clear n0_ n1_ n2_ n3_ n4_ n5_ n6_; have p91 : 0 ≤ (t194 : Int) := zA; have q91 : (t194 : Int) < ((y176.length : Int) : Int) := zA; obtain ⟨go91, co91, eo91, gb91, gl91, cl91, HG91⟩ := Kd.R_form HO_6.1 (by omega); (first | cases eo91 | (injection eo91 with ea_ en_ ec_; (first | subst ea_ | (injection ea_ with ea_; subst ea_)); subst ec_; clear en_)); have GB91 := zM gb91; have GG91 := zM HG91; clear gb91 gl91 HG91; obtain ⟨hx91_0, hf91_0⟩ := Kd.R_celln 0 HO_6.1 (t194 : Int) p91 q91; replace p91 := eq_true p91; replace q91 := eq_true q91; obtain ⟨hy111_, hz111_⟩ := Kd.R_celln 0 HO_6.1 (t194 : Int) zA zA; have HP111 := Kd.R_putg HO_6.1 (t194 : Int) t209) | ((with_reducible refine gate_store (t := 3) (p := 63) rfl ?_); refine store_event (t := 3) (p := 63) (v := ?vo_w112) (w1 := (w110.setCell ⟨go91, (t194 : Int).toNat, none⟩ (.int .i64 t209))) ?hg ?ho ?hn ?hr ?_; (case ho => rfl); (case hg => rfl); (case hn => rfl); (case hr => exact zHH); intro w112 hw; have hg : w110.grownBy w112 (some go91) := (by rw [hw]; exact HP111.2); have hp_ : Kd.R (Kd.int .i64) 3 w112 w.heap.size (fun k_ => some k_ ≠ (.slice Ao105 t204.length co105 : Value).ownBlock) (.slice (some ⟨go91, 0, none⟩) y176.length co91) y211 := (by rw [hw, Ny211.1]; exact HP111.1); clear HP111; replace BK171 := zM (zg BK171.1 hg (Kd.R_ne HO_6.1 BK171.1 (by decide))); replace BK172 := zM (zg BK172.1 hg (Kd.R_ne HO_6.1 BK172.1 (by decide))); replace BK193 := zM (zg BK193.1 hg (Kd.R_ne HO_6.1 BK193.1 (by decide))); replace HO206 := zM (Kd.R_after (v := (.slice (some ⟨go91, 0, none⟩) y176.length co91)) (v1 := (.slice (some ⟨go91, 0, none⟩) y176.length co91)) (ok := (fun _ => True)) (by refine zrR ?_; exact Kd.R_mono HO206.1 (fun _ hk => ⟨trivial, hk⟩)) hg (.inl rfl)); replace BK210 := zM (zg BK210.1 hg (Kd.R_ne HO_6.1 BK210.1 (by decide))); replace HO_6 := zM hp_; replace HB := zM ((by rw [hw]; exact below_set (HB.1) GB91.1 : Below w.heap.size w w112)); clear hg hw hp_))
    replace HO_6 := zM (Kd.R_drew HO_6.1)
    replace HO206 := zM (Kd.R_drew HO206.1)
    replace BK171 := zM (blk_drew BK171.1)
    replace BK172 := zM (blk_drew BK172.1)
    replace BK193 := zM (blk_drew BK193.1)
    replace BK210 := zM (blk_drew BK210.1)
    replace HB := zM (below_drew1 HB.1)
    refine start_ (n := 4) (S := fun w' => w'.cell? ⟨gb210, 0, none⟩ = some (.slice Ao105 t204.length co105) ∧ w'.cell? ⟨gb210, 1, none⟩ = some (.int .i64 t207) ∧ w'.cell? ⟨gb210, 2, none⟩ = some (.int .i64 t208)) (ds := []) #[false, false, false, false] (by kernel_rfl) rfl rfl ⟨(blk_cell BK210.1 0).trans rfl, (blk_cell BK210.1 1).trans rfl, (blk_cell BK210.1 2).trans rfl⟩ (fun hHeld => ?_)
    generalize w112.drew = w113 at HO_6 HO206 BK171 BK172 BK193 BK210 HB hHeld ⊢
    refine pure_ (i := 0) (N := some 64) (v := ?_) (a' := ?_) #[true, false, false, false] rfl rfl (by kernel_rfl) (fun _ _ _ h => h) (Or.inl ⟨by rfl, ?_⟩) ?_ ?_
    rotate_left
    ·intro w'
     go_simp
     with_reducible rfl
    rotate_left
    ·exact zV
    refine pure_ (i := 2) (N := some 4) (v := ?_) (a' := ?_) #[true, false, true, false] rfl rfl (by kernel_rfl) (fun _ _ _ h => h) (Or.inl ⟨by rfl, ?_⟩) ?_ ?_
    rotate_left
    ·intro w'
     go_simp
     with_reducible rfl
    rotate_left
    ·exact zV
    refine take_ (i := 1) (N := some 65) (v := ?_) (a' := ?_) #[true, true, true, false] rfl rfl (by kernel_rfl) (fun _ _ _ h => h) (Or.inl ⟨by rfl, ?_⟩) hHeld ?_ ?_
    rotate_left
    ·rintro w' ⟨s0, s1, s2⟩
     go_simp
     with_reducible rfl
    rotate_left
    ·exact zV
    refine one_ (i := 3) (N := none) #[true, true, true, true] rfl rfl (by kernel_rfl) (by decide) (fun K hK => ?_)
    have hs114 : w113.cell? ⟨gb172, 0, none⟩ = some (.slice none 0 0) := (blk_cell BK172.1 0).trans rfl
    have hfs114 := blk_frozen BK172.1 0
    have hns114_0 := NB171_172.1
    have hns114_2 := NB193_172.1
    have hns114_3 := NB210_172.1
    have hms114_0 := NB172_171.1
    have hms114_2 := NB172_193.1
    have hms114_3 := NB172_210.1
    have hs115 : w113.cell? ⟨gb172, 1, none⟩ = some (.int .i64 0) := (blk_cell BK172.1 1).trans rfl
    have hfs115 := blk_frozen BK172.1 1
    have hns115_0 := NB171_172.1
    have hns115_2 := NB193_172.1
    have hns115_3 := NB210_172.1
    have hms115_0 := NB172_171.1
    have hms115_2 := NB172_193.1
    have hms115_3 := NB172_210.1
    have hs116 : w113.cell? ⟨gb172, 2, none⟩ = some (.int .i64 0) := (blk_cell BK172.1 2).trans rfl
    have hfs116 := blk_frozen BK172.1 2
    have hns116_0 := NB171_172.1
    have hns116_2 := NB193_172.1
    have hns116_3 := NB210_172.1
    have hms116_0 := NB172_171.1
    have hms116_2 := NB172_193.1
    have hms116_3 := NB172_210.1
    refine skip_ (w1 := ?_) (by rfl) rfl ?_ ?_
    rotate_left
    ·go_simp
     rfl
    refine hK.out _ _ ⟨((cell_far (p := ⟨gb172, _, none⟩) NB210_172.1 _).trans (((cell_far (p := ⟨gb172, _, none⟩) NB210_172.1 _).trans (((cell_far (p := ⟨gb172, _, none⟩) NB210_172.1 _).trans (hHeld.1)))))), ((cell_far (p := ⟨gb172, _, none⟩) NB210_172.1 _).trans (((cell_far (p := ⟨gb172, _, none⟩) NB210_172.1 _).trans (((cell_far (p := ⟨gb172, _, none⟩) NB210_172.1 _).trans (hHeld.2.1)))))), ((cell_far (p := ⟨gb172, _, none⟩) NB210_172.1 _).trans (((cell_far (p := ⟨gb172, _, none⟩) NB210_172.1 _).trans (((cell_far (p := ⟨gb172, _, none⟩) NB210_172.1 _).trans (hHeld.2.2))))))⟩ (fun hHeld => ?_)
    clear hK K
    refine done_ (by kernel_rfl) ?_
    try go_wp2
    refine bodyPost_ret (results_tc rfl _ _ gb172 29 #[.slice Ao105 t204.length co105, .int .i64 t207, .int .i64 t208] (0, 0) _ rfl (by exact zp3 (zK BK172.1)) Try.underlying29 rfl (by kernel_rfl)) rfl ?_
    exact ⟨_, _, zE, by refine zrR ?_; exact Kd.R_mono (Kd.R_far (p := ⟨gb172, 2, none⟩) (Kd.R_far (p := ⟨gb172, 1, none⟩) (Kd.R_far (p := ⟨gb172, 0, none⟩) (Kd.R_types HO_6.1 BK172.1 (by decide)) (fun _ hk => hk.2) (.slice Ao105 t204.length co105)) (fun _ hk => hk.2) (.int .i64 t207)) (fun _ hk => hk.2) (.int .i64 t208)) (fun _ hk => hk.1), by refine zrR ?_; exact Kd.R_mono (Kd.R_far (p := ⟨gb172, 2, none⟩) (Kd.R_far (p := ⟨gb172, 1, none⟩) (Kd.R_far (p := ⟨gb172, 0, none⟩) (Kd.R_types HO206.1 BK172.1 (by decide)) (fun _ hk => hk.2) (.slice Ao105 t204.length co105)) (fun _ hk => hk.2) (.int .i64 t207)) (fun _ hk => hk.2) (.int .i64 t208)) (fun _ hk => hk.1.2), zB20⟩
   rw [if_pos c32] at H
   have c32b0 := decide_eq_true c32
   clear c32
   by_cases c33 : 0 ≤ t194
   rotate_left
   ·rw [if_neg c33] at H
    exact absurd H (by simp)
   rw [if_pos c33] at H
   have c33b0 := decide_eq_true c33
   clear c33
   by_cases c34 : t194 < (l0.length : Int)
   rotate_left
   ·rw [if_neg c34] at H
    exact absurd H (by simp)
   rw [if_pos c34] at H
   have c34b0 := decide_eq_true c34
   clear c34
   replace H := zO H
   obtain ⟨⟨t196, t199, t200, t201⟩, A35, H⟩ := H
   try dsimp only at H
   by_cases c36 : t201 ≥ 0
   rotate_left
   ·rw [if_neg c36] at H
    have c36b0 := decide_eq_false c36
    clear c36
    simp only [Option.some.injEq, Prod.mk.injEq] at H
    obtain ⟨rfl, rfl, rfl, rfl⟩ := H
    have hnb64 := NB171_172.1
    have hnc64 := NB172_171.1
    have hcz65 := zc_3 (w := wc) BK171.1
    have p186 : 0 ≤ (a1_1 : Int) := zA
    have q186 : a1_1 < (l0.length : Int) := zA
    obtain ⟨ad186, e186, hx186_0⟩ := Kd.at_int HR0.1 a1_1 p186 q186
    cases e186
    replace hx186_0 := (HB.1.cell (World.block_lt_of_cell? w _ hx186_0)).trans hx186_0
    replace p186 := eq_true p186
    replace q186 := eq_true q186
    try go_wp2_with (first | ((with_reducible refine gate_callee (f := 105) rfl ?_); refine goesL_ (some 38) rfl rfl Try.func105 (by kernel_rfl) rfl #[.int .i64 (rd l0 a1_1)] rfl zT ?_; (with_reducible refine (spec_Decode.calls (rd l0 a1_1) t187 t188 t189 t190 t191 t192 _ A30.1).mono ?_); rintro e w66 ⟨rfl, hb⟩; refine ⟨_, rfl, ?_⟩; replace HO_6 := zM (Kd.R_below (zR HO_6.1) hb); replace BK171 := zM (zb BK171.1 hb); replace BK172 := zM (zb BK172.1 hb); replace HB := zM (below_step zB17 hb); clear hb) | ((with_reducible refine gate_dst (N := 7) rfl ?_); refine box_event ?hg (N := 7) ?hd (cs := #[.int .i64 0, .int .i64 0, .int .i64 0, .int .i64 0, .int .i64 0]) (t := 59) ?hr ?_; (case hd => rfl); (case hg => rfl); (case hr => exact zHH); intro gb193 hg w67 hbox hb; replace HO_6 := zM (Kd.R_below (zR HO_6.1) hb); have BK193 := zM hbox; have GW193 := zM (zW hg (below_size zB17)); have GE193 := zM (zW hg (below_size zB17)); replace HB := zM (below_step zB17 hb); have NB171_193 := zM ((zn BK171.1 hg : gb171 ≠ gb193)); have NB193_171 := zM ((zm BK171.1 hg : gb193 ≠ gb171)); replace BK171 := zM (zb BK171.1 hb); have NB172_193 := zM ((zn BK172.1 hg : gb172 ≠ gb193)); have NB193_172 := zM ((zm BK172.1 hg : gb193 ≠ gb172)); replace BK172 := zM (zb BK172.1 hb); clear hb hbox hg; have hnb68 := NB193_171.1; have hnc68 := NB171_193.1; have hnb69 := NB193_172.1; have hnc69 := NB172_193.1; have hcz70 := zc_5 (w := w67) BK193.1; have hcz71 := zc_3 (w := w67) BK171.1) | ((with_reducible refine gate_callee (f := 106) rfl ?_); refine goesL_ (some 44) rfl rfl Try.func106 (by kernel_rfl) rfl #[.agg #[.int .i64 t187, .int .i64 t188, .int .i64 t189, .int .i64 t190, .int .i64 t191], .slice A1_0 l1_0.length c1_0] rfl zT ?_; (with_reducible refine (spec_Target.calls t187 t188 t189 t190 t191 _ _ l1_0 t194 _ ?side1 ?side2 A31.1).mono ?_); (case side1 => exact Kd.C_below HR1_0.1 zB18); (case side2 => exact HC1_0.1); rintro e w72 ⟨rfl, hb⟩; refine ⟨_, rfl, ?_⟩; replace HO_6 := zM (Kd.R_below (by refine zrR ?_; exact (Kd.R_mono (Kd.R_far (p := ⟨gb193, 4, none⟩) (Kd.R_far (p := ⟨gb193, 3, none⟩) (Kd.R_far (p := ⟨gb193, 2, none⟩) (Kd.R_far (p := ⟨gb193, 1, none⟩) (Kd.R_far (p := ⟨gb193, 0, none⟩) (Kd.R_types HO_6.1 BK193.1 (by decide)) (fun _ hk => hk.2) (.int .i64 t187)) (fun _ hk => hk.2) (.int .i64 t188)) (fun _ hk => hk.2) (.int .i64 t189)) (fun _ hk => hk.2) (.int .i64 t190)) (fun _ hk => hk.2) (.int .i64 t191)) (fun _ h_ => h_.1))) hb); replace BK171 := zM (zf BK171.1 hb); replace BK172 := zM (zf BK172.1 hb); replace BK193 := zM (blk_below (g := gb193) (o := .cells #[.int .i64 t187, .int .i64 t188, .int .i64 t189, .int .i64 t190, .int .i64 t191] 59 (0, 0)) (by exact zp5 (zK BK193.1)) hb); replace HB := zM (below_step zB18 hb); clear hb; have p195 : 0 ≤ (t194 : Int) := zA; have q195 : t194 < (l0.length : Int) := zA; obtain ⟨ad195, e195, hx195_0⟩ := Kd.at_int HR0.1 t194 p195 q195; obtain rfl : ad186 = ad195 := (by injection e195); replace hx195_0 := (HB.1.cell (World.block_lt_of_cell? w _ hx195_0)).trans hx195_0; replace p195 := eq_true p195; replace q195 := eq_true q195; have hcz73 := zc_3 (w := w72) BK171.1; have hcz74 := zc_5 (w := w72) BK193.1) | ((with_reducible refine gate_callee (f := 107) rfl ?_); refine goesL_ (some 55) rfl rfl Try.func107 (by kernel_rfl) rfl #[.agg #[.slice A1_0 l1_0.length c1_0, .int .i64 a1_1, .int .i64 a1_2], .agg #[.int .i64 t187, .int .i64 t188, .int .i64 t189, .int .i64 t190, .int .i64 t191], .int .i64 (rd l0 t194)] rfl zT ?_; (with_reducible refine (spec_Work.calls kj3 _ _ l1_0 a1_1 a1_2 t187 t188 t189 t190 t191 (rd l0 t194) t196 t199 t200 t201 _ ?side1 ?side2 A35.1).mono ?_); (case side1 => exact zC (Kd.C_below HR1_0.1 HB.1)); (case side2 => exact HC1_0.1); rintro e w75 ⟨v197, rfl, ho0, hb⟩; refine ⟨_, rfl, ?_⟩; have HO198 := zM (Kd.R_lower (Kd.R_new' ho0 (Kd.R_lt (zR HO_6.1))) (below_size zB18)); replace HO_6 := zM (Kd.R_elder' (zR HO_6.1) (Kd.R_base ho0) hb); replace BK171 := zM (zb BK171.1 hb); replace BK172 := zM (zb BK172.1 hb); replace BK193 := zM (zb BK193.1 hb); replace HB := zM (below_step zB18 hb); clear hb ho0) | ((with_reducible refine gate_dst (N := 11) rfl ?_); refine box_event ?hg (N := 11) ?hd (cs := #[.slice none 0 0, .int .i64 0, .int .i64 0]) (t := 29) ?hr ?_; (case hd => rfl); (case hg => rfl); (case hr => exact zHH); intro gb202 hg w76 hbox hb; replace HO_6 := zM (Kd.R_below (zR HO_6.1) hb); replace HO198 := zM (Kd.R_below (zR HO198.1) hb); have BK202 := zM hbox; have GW202 := zM (zW hg (below_size zB18)); have GE202 := zM (zW hg (below_size zB18)); replace HB := zM (below_step zB18 hb); have NB171_202 := zM ((zn BK171.1 hg : gb171 ≠ gb202)); have NB202_171 := zM ((zm BK171.1 hg : gb202 ≠ gb171)); replace BK171 := zM (zb BK171.1 hb); have NB172_202 := zM ((zn BK172.1 hg : gb172 ≠ gb202)); have NB202_172 := zM ((zm BK172.1 hg : gb202 ≠ gb172)); replace BK172 := zM (zb BK172.1 hb); have NB193_202 := zM ((zn BK193.1 hg : gb193 ≠ gb202)); have NB202_193 := zM ((zm BK193.1 hg : gb202 ≠ gb193)); replace BK193 := zM (zb BK193.1 hb); clear hb hbox hg; obtain ⟨Ao77, co77, eo77⟩ := Kd.R_slice HO198.1; subst eo77; have hnb78 := NB202_171.1; have hnc78 := NB171_202.1; have hnb79 := NB202_172.1; have hnc79 := NB172_202.1; have hnb80 := NB202_193.1; have hnc80 := NB193_202.1; have hcz81 := zc_3 (w := w76) BK202.1))
    have n0_ : Aside0 (Kd.R (Kd.int .i64) 3 (((w76.setCell ⟨gb202, 0, none⟩ (.slice Ao77 t196.length co77)).setCell ⟨gb202, 1, none⟩ (.int .i64 t199)).setCell ⟨gb202, 2, none⟩ (.int .i64 t200)) w.heap.size (fun k_ => some k_ ≠ (.slice Ao77 t196.length co77 : Value).ownBlock) v177 y176) := ⟨by refine zrR ?_; exact Kd.R_mono (Kd.R_far (p := ⟨gb202, 2, none⟩) (Kd.R_far (p := ⟨gb202, 1, none⟩) (Kd.R_far (p := ⟨gb202, 0, none⟩) (Kd.R_types HO_6.1 BK202.1 (by decide)) (fun _ hk => hk.2) (.slice Ao77 t196.length co77)) (fun _ hk => hk.2) (.int .i64 t199)) (fun _ hk => hk.2) (.int .i64 t200)) (fun _ hk => hk.1.2)⟩
    have n1_ : Aside0 (Kd.R (Kd.int .i64) 3 (((w76.setCell ⟨gb202, 0, none⟩ (.slice Ao77 t196.length co77)).setCell ⟨gb202, 1, none⟩ (.int .i64 t199)).setCell ⟨gb202, 2, none⟩ (.int .i64 t200)) w.heap.size (fun k_ => some k_ ≠ (v177 : Value).ownBlock) (.slice Ao77 t196.length co77) t196) := ⟨by refine zrR ?_; exact Kd.R_mono (Kd.R_far (p := ⟨gb202, 2, none⟩) (Kd.R_far (p := ⟨gb202, 1, none⟩) (Kd.R_far (p := ⟨gb202, 0, none⟩) (Kd.R_types HO198.1 BK202.1 (by decide)) (fun _ hk => hk.2) (.slice Ao77 t196.length co77)) (fun _ hk => hk.2) (.int .i64 t199)) (fun _ hk => hk.2) (.int .i64 t200)) (fun _ hk => hk.1.2)⟩
    have n2_ : Aside0 ((((w76.setCell ⟨gb202, 0, none⟩ (.slice Ao77 t196.length co77)).setCell ⟨gb202, 1, none⟩ (.int .i64 t199)).setCell ⟨gb202, 2, none⟩ (.int .i64 t200)).heap[gb171]? = some (.cells #[.slice A1_0 l1_0.length c1_0, .int .i64 a1_1, .int .i64 a1_2] 29 (0, 0))) := ⟨by refine zP ?_; refine blk_far ?_ NB171_202.1 _; refine zP ?_; refine blk_far ?_ NB171_202.1 _; refine zP ?_; refine blk_far ?_ NB171_202.1 _; refine zP ?_; exact BK171.1⟩
    have n3_ : Aside0 ((((w76.setCell ⟨gb202, 0, none⟩ (.slice Ao77 t196.length co77)).setCell ⟨gb202, 1, none⟩ (.int .i64 t199)).setCell ⟨gb202, 2, none⟩ (.int .i64 t200)).heap[gb172]? = some (.cells #[.slice none 0 0, .int .i64 0, .int .i64 0] 29 (0, 0))) := ⟨by refine zP ?_; refine blk_far ?_ NB172_202.1 _; refine zP ?_; refine blk_far ?_ NB172_202.1 _; refine zP ?_; refine blk_far ?_ NB172_202.1 _; refine zP ?_; exact BK172.1⟩
    have n4_ : Aside0 ((((w76.setCell ⟨gb202, 0, none⟩ (.slice Ao77 t196.length co77)).setCell ⟨gb202, 1, none⟩ (.int .i64 t199)).setCell ⟨gb202, 2, none⟩ (.int .i64 t200)).heap[gb193]? = some (.cells #[.int .i64 t187, .int .i64 t188, .int .i64 t189, .int .i64 t190, .int .i64 t191] 59 (0, 0))) := ⟨by refine zP ?_; refine blk_far ?_ NB193_202.1 _; refine zP ?_; refine blk_far ?_ NB193_202.1 _; refine zP ?_; refine blk_far ?_ NB193_202.1 _; refine zP ?_; exact BK193.1⟩
    have n5_ : Aside0 ((((w76.setCell ⟨gb202, 0, none⟩ (.slice Ao77 t196.length co77)).setCell ⟨gb202, 1, none⟩ (.int .i64 t199)).setCell ⟨gb202, 2, none⟩ (.int .i64 t200)).heap[gb202]? = some (.cells #[.slice Ao77 t196.length co77, .int .i64 t199, .int .i64 t200] 29 (0, 0))) := ⟨by exact zp3 (zK BK202.1)⟩
    have n6_ : Aside0 (Below w.heap.size w (((w76.setCell ⟨gb202, 0, none⟩ (.slice Ao77 t196.length co77)).setCell ⟨gb202, 1, none⟩ (.int .i64 t199)).setCell ⟨gb202, 2, none⟩ (.int .i64 t200))) := ⟨zB19⟩
    (try clear HO_6)
    (try clear HO198)
    (try clear BK171)
    (try clear BK172)
    (try clear BK193)
    (try clear BK202)
    (try clear HB)
    generalize (((w76.setCell ⟨gb202, 0, none⟩ (.slice Ao77 t196.length co77)).setCell ⟨gb202, 1, none⟩ (.int .i64 t199)).setCell ⟨gb202, 2, none⟩ (.int .i64 t200)) = w82 at n0_ n1_ n2_ n3_ n4_ n5_ n6_ ⊢
    have HO_6 := n0_
    have HO198 := n1_
    have BK171 := n2_
    have BK172 := n3_
    have BK193 := n4_
    have BK202 := n5_
    have HB := n6_
    clear n0_ n1_ n2_ n3_ n4_ n5_ n6_
    replace HO_6 := zM (Kd.R_drew HO_6.1)
    replace HO198 := zM (Kd.R_drew HO198.1)
    replace BK171 := zM (blk_drew BK171.1)
    replace BK172 := zM (blk_drew BK172.1)
    replace BK193 := zM (blk_drew BK193.1)
    replace BK202 := zM (blk_drew BK202.1)
    replace HB := zM (below_drew1 HB.1)
    refine start_ (n := 4) (S := fun w' => w'.cell? ⟨gb202, 0, none⟩ = some (.slice Ao77 t196.length co77) ∧ w'.cell? ⟨gb202, 1, none⟩ = some (.int .i64 t199) ∧ w'.cell? ⟨gb202, 2, none⟩ = some (.int .i64 t200)) (ds := []) #[false, false, false, false] (by kernel_rfl) rfl rfl ⟨(blk_cell BK202.1 0).trans rfl, (blk_cell BK202.1 1).trans rfl, (blk_cell BK202.1 2).trans rfl⟩ (fun hHeld => ?_)
    generalize w82.drew = w83 at HO_6 HO198 BK171 BK172 BK193 BK202 HB hHeld ⊢
    refine pure_ (i := 0) (N := some 64) (v := ?_) (a' := ?_) #[true, false, false, false] rfl rfl (by kernel_rfl) (fun _ _ _ h => h) (Or.inl ⟨by rfl, ?_⟩) ?_ ?_
    rotate_left
    ·intro w'
     go_simp
     with_reducible rfl
    rotate_left
    ·exact zV
    refine pure_ (i := 2) (N := some 4) (v := ?_) (a' := ?_) #[true, false, true, false] rfl rfl (by kernel_rfl) (fun _ _ _ h => h) (Or.inl ⟨by rfl, ?_⟩) ?_ ?_
    rotate_left
    ·intro w'
     go_simp
     with_reducible rfl
    rotate_left
    ·exact zV
    refine take_ (i := 1) (N := some 65) (v := ?_) (a' := ?_) #[true, true, true, false] rfl rfl (by kernel_rfl) (fun _ _ _ h => h) (Or.inl ⟨by rfl, ?_⟩) hHeld ?_ ?_
    rotate_left
    ·rintro w' ⟨s0, s1, s2⟩
     go_simp
     with_reducible rfl
    rotate_left
    ·exact zV
    refine one_ (i := 3) (N := none) #[true, true, true, true] rfl rfl (by kernel_rfl) (by decide) (fun K hK => ?_)
    have hs84 : w83.cell? ⟨gb172, 0, none⟩ = some (.slice none 0 0) := (blk_cell BK172.1 0).trans rfl
    have hfs84 := blk_frozen BK172.1 0
    have hns84_0 := NB171_172.1
    have hns84_2 := NB193_172.1
    have hns84_3 := NB202_172.1
    have hms84_0 := NB172_171.1
    have hms84_2 := NB172_193.1
    have hms84_3 := NB172_202.1
    have hs85 : w83.cell? ⟨gb172, 1, none⟩ = some (.int .i64 0) := (blk_cell BK172.1 1).trans rfl
    have hfs85 := blk_frozen BK172.1 1
    have hns85_0 := NB171_172.1
    have hns85_2 := NB193_172.1
    have hns85_3 := NB202_172.1
    have hms85_0 := NB172_171.1
    have hms85_2 := NB172_193.1
    have hms85_3 := NB172_202.1
    have hs86 : w83.cell? ⟨gb172, 2, none⟩ = some (.int .i64 0) := (blk_cell BK172.1 2).trans rfl
    have hfs86 := blk_frozen BK172.1 2
    have hns86_0 := NB171_172.1
    have hns86_2 := NB193_172.1
    have hns86_3 := NB202_172.1
    have hms86_0 := NB172_171.1
    have hms86_2 := NB172_193.1
    have hms86_3 := NB172_202.1
    refine skip_ (w1 := ?_) (by rfl) rfl ?_ ?_
    rotate_left
    ·go_simp
     rfl
    refine hK.out _ _ ⟨((cell_far (p := ⟨gb172, _, none⟩) NB202_172.1 _).trans (((cell_far (p := ⟨gb172, _, none⟩) NB202_172.1 _).trans (((cell_far (p := ⟨gb172, _, none⟩) NB202_172.1 _).trans (hHeld.1)))))), ((cell_far (p := ⟨gb172, _, none⟩) NB202_172.1 _).trans (((cell_far (p := ⟨gb172, _, none⟩) NB202_172.1 _).trans (((cell_far (p := ⟨gb172, _, none⟩) NB202_172.1 _).trans (hHeld.2.1)))))), ((cell_far (p := ⟨gb172, _, none⟩) NB202_172.1 _).trans (((cell_far (p := ⟨gb172, _, none⟩) NB202_172.1 _).trans (((cell_far (p := ⟨gb172, _, none⟩) NB202_172.1 _).trans (hHeld.2.2))))))⟩ (fun hHeld => ?_)
    clear hK K
    refine done_ (by kernel_rfl) ?_
    try go_wp2
    refine bodyPost_ret (results_tc rfl _ _ gb172 29 #[.slice Ao77 t196.length co77, .int .i64 t199, .int .i64 t200] (0, 0) _ rfl (by exact zp3 (zK BK172.1)) Try.underlying29 rfl (by kernel_rfl)) rfl ?_
    exact ⟨_, _, zE, by refine zrR ?_; exact Kd.R_mono (Kd.R_far (p := ⟨gb172, 2, none⟩) (Kd.R_far (p := ⟨gb172, 1, none⟩) (Kd.R_far (p := ⟨gb172, 0, none⟩) (Kd.R_types HO_6.1 BK172.1 (by decide)) (fun _ hk => hk.2) (.slice Ao77 t196.length co77)) (fun _ hk => hk.2) (.int .i64 t199)) (fun _ hk => hk.2) (.int .i64 t200)) (fun _ hk => hk.1), by refine zrR ?_; exact Kd.R_mono (Kd.R_far (p := ⟨gb172, 2, none⟩) (Kd.R_far (p := ⟨gb172, 1, none⟩) (Kd.R_far (p := ⟨gb172, 0, none⟩) (Kd.R_types HO198.1 BK172.1 (by decide)) (fun _ hk => hk.2) (.slice Ao77 t196.length co77)) (fun _ hk => hk.2) (.int .i64 t199)) (fun _ hk => hk.2) (.int .i64 t200)) (fun _ hk => hk.1), zB19⟩
   rw [if_pos c36] at H
   have c36b0 := decide_eq_true c36
   clear c36
   by_cases c37 : t194 < (y176.length : Int)
   rotate_left
   ·rw [if_neg c37] at H
    exact absurd H (by simp)
   rw [if_pos c37] at H
   have c37b0 := decide_eq_true c37
   clear c37
   obtain ⟨y203, hy203⟩ : ∃ y_ : List Int, y_ = (y176.set (t194 : Int).toNat t201) := ⟨_, rfl⟩
   replace H : (some (y203, t196, t199, t200)) = some (r1, r2, r3, r4) := by first | (rw [hy203]; with_reducible exact H) | (have H2_ := (Option.bind_some _ _).symm.trans H; rw [hy203]; with_reducible exact H2_) | (have H2_ := (Option.bind_some _ _).symm.trans H; with_reducible exact H2_) | with_reducible exact H | (rw [hy203]; exact H) | exact H
   have Ny203 := zM hy203
   clear hy203
   simp only [Option.some.injEq, Prod.mk.injEq] at H
   obtain ⟨rfl, rfl, rfl, rfl⟩ := H
   have hnb39 := NB171_172.1
   have hnc39 := NB172_171.1
   have hcz40 := zc_3 (w := wc) BK171.1
   have p186 : 0 ≤ (a1_1 : Int) := zA
   have q186 : a1_1 < (l0.length : Int) := zA
   obtain ⟨ad186, e186, hx186_0⟩ := Kd.at_int HR0.1 a1_1 p186 q186
   cases e186
   replace hx186_0 := (HB.1.cell (World.block_lt_of_cell? w _ hx186_0)).trans hx186_0
   replace p186 := eq_true p186
   replace q186 := eq_true q186
   try go_wp2_with (first | ((with_reducible refine gate_callee (f := 105) rfl ?_); refine goesL_ (some 38) rfl rfl Try.func105 (by kernel_rfl) rfl #[.int .i64 (rd l0 a1_1)] rfl zT ?_; (with_reducible refine (spec_Decode.calls (rd l0 a1_1) t187 t188 t189 t190 t191 t192 _ A30.1).mono ?_); rintro e w41 ⟨rfl, hb⟩; refine ⟨_, rfl, ?_⟩; replace HO_6 := zM (Kd.R_below (zR HO_6.1) hb); replace BK171 := zM (zb BK171.1 hb); replace BK172 := zM (zb BK172.1 hb); replace HB := zM (below_step zB17 hb); clear hb) | ((with_reducible refine gate_dst (N := 7) rfl ?_); refine box_event ?hg (N := 7) ?hd (cs := #[.int .i64 0, .int .i64 0, .int .i64 0, .int .i64 0, .int .i64 0]) (t := 59) ?hr ?_; (case hd => rfl); (case hg => rfl); (case hr => exact zHH); intro gb193 hg w42 hbox hb; replace HO_6 := zM (Kd.R_below (zR HO_6.1) hb); have BK193 := zM hbox; have GW193 := zM (zW hg (below_size zB17)); have GE193 := zM (zW hg (below_size zB17)); replace HB := zM (below_step zB17 hb); have NB171_193 := zM ((zn BK171.1 hg : gb171 ≠ gb193)); have NB193_171 := zM ((zm BK171.1 hg : gb193 ≠ gb171)); replace BK171 := zM (zb BK171.1 hb); have NB172_193 := zM ((zn BK172.1 hg : gb172 ≠ gb193)); have NB193_172 := zM ((zm BK172.1 hg : gb193 ≠ gb172)); replace BK172 := zM (zb BK172.1 hb); clear hb hbox hg; have hnb43 := NB193_171.1; have hnc43 := NB171_193.1; have hnb44 := NB193_172.1; have hnc44 := NB172_193.1; have hcz45 := zc_5 (w := w42) BK193.1; have hcz46 := zc_3 (w := w42) BK171.1) | ((with_reducible refine gate_callee (f := 106) rfl ?_); refine goesL_ (some 44) rfl rfl Try.func106 (by kernel_rfl) rfl #[.agg #[.int .i64 t187, .int .i64 t188, .int .i64 t189, .int .i64 t190, .int .i64 t191], .slice A1_0 l1_0.length c1_0] rfl zT ?_; (with_reducible refine (spec_Target.calls t187 t188 t189 t190 t191 _ _ l1_0 t194 _ ?side1 ?side2 A31.1).mono ?_); (case side1 => exact Kd.C_below HR1_0.1 zB18); (case side2 => exact HC1_0.1); rintro e w47 ⟨rfl, hb⟩; refine ⟨_, rfl, ?_⟩; replace HO_6 := zM (Kd.R_below (by refine zrR ?_; exact (Kd.R_mono (Kd.R_far (p := ⟨gb193, 4, none⟩) (Kd.R_far (p := ⟨gb193, 3, none⟩) (Kd.R_far (p := ⟨gb193, 2, none⟩) (Kd.R_far (p := ⟨gb193, 1, none⟩) (Kd.R_far (p := ⟨gb193, 0, none⟩) (Kd.R_types HO_6.1 BK193.1 (by decide)) (fun _ hk => hk.2) (.int .i64 t187)) (fun _ hk => hk.2) (.int .i64 t188)) (fun _ hk => hk.2) (.int .i64 t189)) (fun _ hk => hk.2) (.int .i64 t190)) (fun _ hk => hk.2) (.int .i64 t191)) (fun _ h_ => h_.1))) hb); replace BK171 := zM (zf BK171.1 hb); replace BK172 := zM (zf BK172.1 hb); replace BK193 := zM (blk_below (g := gb193) (o := .cells #[.int .i64 t187, .int .i64 t188, .int .i64 t189, .int .i64 t190, .int .i64 t191] 59 (0, 0)) (by exact zp5 (zK BK193.1)) hb); replace HB := zM (below_step zB18 hb); clear hb; have p195 : 0 ≤ (t194 : Int) := zA; have q195 : t194 < (l0.length : Int) := zA; obtain ⟨ad195, e195, hx195_0⟩ := Kd.at_int HR0.1 t194 p195 q195; obtain rfl : ad186 = ad195 := (by injection e195); replace hx195_0 := (HB.1.cell (World.block_lt_of_cell? w _ hx195_0)).trans hx195_0; replace p195 := eq_true p195; replace q195 := eq_true q195; have hcz48 := zc_3 (w := w47) BK171.1; have hcz49 := zc_5 (w := w47) BK193.1) | ((with_reducible refine gate_callee (f := 107) rfl ?_); refine goesL_ (some 55) rfl rfl Try.func107 (by kernel_rfl) rfl #[.agg #[.slice A1_0 l1_0.length c1_0, .int .i64 a1_1, .int .i64 a1_2], .agg #[.int .i64 t187, .int .i64 t188, .int .i64 t189, .int .i64 t190, .int .i64 t191], .int .i64 (rd l0 t194)] rfl zT ?_; (with_reducible refine (spec_Work.calls kj3 _ _ l1_0 a1_1 a1_2 t187 t188 t189 t190 t191 (rd l0 t194) t196 t199 t200 t201 _ ?side1 ?side2 A35.1).mono ?_); (case side1 => exact zC (Kd.C_below HR1_0.1 HB.1)); (case side2 => exact HC1_0.1); rintro e w50 ⟨v197, rfl, ho0, hb⟩; refine ⟨_, rfl, ?_⟩; have HO198 := zM (Kd.R_lower (Kd.R_new' ho0 (Kd.R_lt (zR HO_6.1))) (below_size zB18)); replace HO_6 := zM (Kd.R_elder' (zR HO_6.1) (Kd.R_base ho0) hb); replace BK171 := zM (zb BK171.1 hb); replace BK172 := zM (zb BK172.1 hb); replace BK193 := zM (zb BK193.1 hb); replace HB := zM (below_step zB18 hb); clear hb ho0) | ((with_reducible refine gate_dst (N := 11) rfl ?_); refine box_event ?hg (N := 11) ?hd (cs := #[.slice none 0 0, .int .i64 0, .int .i64 0]) (t := 29) ?hr ?_; (case hd => rfl); (case hg => rfl); (case hr => exact zHH); intro gb202 hg w51 hbox hb; replace HO_6 := zM (Kd.R_below (zR HO_6.1) hb); replace HO198 := zM (Kd.R_below (zR HO198.1) hb); have BK202 := zM hbox; have GW202 := zM (zW hg (below_size zB18)); have GE202 := zM (zW hg (below_size zB18)); replace HB := zM (below_step zB18 hb); have NB171_202 := zM ((zn BK171.1 hg : gb171 ≠ gb202)); have NB202_171 := zM ((zm BK171.1 hg : gb202 ≠ gb171)); replace BK171 := zM (zb BK171.1 hb); have NB172_202 := zM ((zn BK172.1 hg : gb172 ≠ gb202)); have NB202_172 := zM ((zm BK172.1 hg : gb202 ≠ gb172)); replace BK172 := zM (zb BK172.1 hb); have NB193_202 := zM ((zn BK193.1 hg : gb193 ≠ gb202)); have NB202_193 := zM ((zm BK193.1 hg : gb202 ≠ gb193)); replace BK193 := zM (zb BK193.1 hb); clear hb hbox hg; obtain ⟨Ao52, co52, eo52⟩ := Kd.R_slice HO198.1; subst eo52; have hnb53 := NB202_171.1; have hnc53 := NB171_202.1; have hnb54 := NB202_172.1; have hnc54 := NB172_202.1; have hnb55 := NB202_193.1; have hnc55 := NB193_202.1; have hcz56 := zc_3 (w := w51) BK202.1) | ((with_reducible refine gate_store (t := 29) (p := 11) rfl ?_); refine store_event (t := 29) (p := 11) (v := ?vo_w57) (w1 := (((w51.setCell ⟨gb202, 0, none⟩ (.slice Ao52 t196.length co52)).setCell ⟨gb202, 1, none⟩ (.int .i64 t199)).setCell ⟨gb202, 2, none⟩ (.int .i64 t200))) ?hg ?ho ?hn ?hr ?_; (case ho => rfl); (case hg => rfl); (case hn => rfl); (case hr => exact zHH); intro w57 hw; have n0_ : Aside0 (Kd.R (Kd.int .i64) 3 w57 w.heap.size (fun k_ => some k_ ≠ (.slice Ao52 t196.length co52 : Value).ownBlock) v177 y176) := ⟨(by rw [hw]; exact (by refine zrR ?_; exact Kd.R_mono (Kd.R_far (p := ⟨gb202, 2, none⟩) (Kd.R_far (p := ⟨gb202, 1, none⟩) (Kd.R_far (p := ⟨gb202, 0, none⟩) (Kd.R_types HO_6.1 BK202.1 (by decide)) (fun _ hk => hk.2) (.slice Ao52 t196.length co52)) (fun _ hk => hk.2) (.int .i64 t199)) (fun _ hk => hk.2) (.int .i64 t200)) (fun _ hk => hk.1.2)))⟩; have n1_ : Aside0 (Kd.R (Kd.int .i64) 3 w57 w.heap.size (fun k_ => some k_ ≠ (v177 : Value).ownBlock) (.slice Ao52 t196.length co52) t196) := ⟨(by rw [hw]; exact (by refine zrR ?_; exact Kd.R_mono (Kd.R_far (p := ⟨gb202, 2, none⟩) (Kd.R_far (p := ⟨gb202, 1, none⟩) (Kd.R_far (p := ⟨gb202, 0, none⟩) (Kd.R_types HO198.1 BK202.1 (by decide)) (fun _ hk => hk.2) (.slice Ao52 t196.length co52)) (fun _ hk => hk.2) (.int .i64 t199)) (fun _ hk => hk.2) (.int .i64 t200)) (fun _ hk => hk.1.2)))⟩; have n2_ : Aside0 (w57.heap[gb171]? = some (.cells #[.slice A1_0 l1_0.length c1_0, .int .i64 a1_1, .int .i64 a1_2] 29 (0, 0))) := ⟨(by rw [hw]; exact (by refine zP ?_; refine blk_far ?_ NB171_202.1 _; refine zP ?_; refine blk_far ?_ NB171_202.1 _; refine zP ?_; refine blk_far ?_ NB171_202.1 _; refine zP ?_; exact BK171.1))⟩; have n3_ : Aside0 (w57.heap[gb172]? = some (.cells #[.slice none 0 0, .int .i64 0, .int .i64 0] 29 (0, 0))) := ⟨(by rw [hw]; exact (by refine zP ?_; refine blk_far ?_ NB172_202.1 _; refine zP ?_; refine blk_far ?_ NB172_202.1 _; refine zP ?_; refine blk_far ?_ NB172_202.1 _; refine zP ?_; exact BK172.1))⟩; have n4_ : Aside0 (w57.heap[gb193]? = some (.cells #[.int .i64 t187, .int .i64 t188, .int .i64 t189, .int .i64 t190, .int .i64 t191] 59 (0, 0))) := ⟨(by rw [hw]; exact (by refine zP ?_; refine blk_far ?_ NB193_202.1 _; refine zP ?_; refine blk_far ?_ NB193_202.1 _; refine zP ?_; refine blk_far ?_ NB193_202.1 _; refine zP ?_; exact BK193.1))⟩; have n5_ : Aside0 (w57.heap[gb202]? = some (.cells #[.slice Ao52 t196.length co52, .int .i64 t199, .int .i64 t200] 29 (0, 0))) := ⟨(by rw [hw]; exact (by exact zp3 (zK BK202.1)))⟩; have n6_ : Aside0 (Below w.heap.size w w57) := ⟨(by rw [hw]; exact zB19)⟩; clear hw; clear HO_6; clear HO198; clear BK171; clear BK172; clear BK193; clear BK202; clear HB; have HO_6 := n0_; have HO198 := n1_; have BK171 := n2_; have BK172 := n3_; have BK193 := n4_; have BK202 := n5_; have HB := n6_; clear n0_ n1_ n2_ n3_ n4_ n5_ n6_; have p38 : 0 ≤ (t194 : Int) := zA; have q38 : (t194 : Int) < ((y176.length : Int) : Int) := zA; obtain ⟨go38, co38, eo38, gb38, gl38, cl38, HG38⟩ := Kd.R_form HO_6.1 (by omega); (first | cases eo38 | (injection eo38 with ea_ en_ ec_; (first | subst ea_ | (injection ea_ with ea_; subst ea_)); subst ec_; clear en_)); have GB38 := zM gb38; have GG38 := zM HG38; clear gb38 gl38 HG38; obtain ⟨hx38_0, hf38_0⟩ := Kd.R_celln 0 HO_6.1 (t194 : Int) p38 q38; replace p38 := eq_true p38; replace q38 := eq_true q38; obtain ⟨hy58_, hz58_⟩ := Kd.R_celln 0 HO_6.1 (t194 : Int) zA zA; have HP58 := Kd.R_putg HO_6.1 (t194 : Int) t201) | ((with_reducible refine gate_store (t := 3) (p := 63) rfl ?_); refine store_event (t := 3) (p := 63) (v := ?vo_w59) (w1 := (w57.setCell ⟨go38, (t194 : Int).toNat, none⟩ (.int .i64 t201))) ?hg ?ho ?hn ?hr ?_; (case ho => rfl); (case hg => rfl); (case hn => rfl); (case hr => exact zHH); intro w59 hw; have hg : w57.grownBy w59 (some go38) := (by rw [hw]; exact HP58.2); have hp_ : Kd.R (Kd.int .i64) 3 w59 w.heap.size (fun k_ => some k_ ≠ (.slice Ao52 t196.length co52 : Value).ownBlock) (.slice (some ⟨go38, 0, none⟩) y176.length co38) y203 := (by rw [hw, Ny203.1]; exact HP58.1); clear HP58; replace BK171 := zM (zg BK171.1 hg (Kd.R_ne HO_6.1 BK171.1 (by decide))); replace BK172 := zM (zg BK172.1 hg (Kd.R_ne HO_6.1 BK172.1 (by decide))); replace BK193 := zM (zg BK193.1 hg (Kd.R_ne HO_6.1 BK193.1 (by decide))); replace HO198 := zM (Kd.R_after (v := (.slice (some ⟨go38, 0, none⟩) y176.length co38)) (v1 := (.slice (some ⟨go38, 0, none⟩) y176.length co38)) (ok := (fun _ => True)) (by refine zrR ?_; exact Kd.R_mono HO198.1 (fun _ hk => ⟨trivial, hk⟩)) hg (.inl rfl)); replace BK202 := zM (zg BK202.1 hg (Kd.R_ne HO_6.1 BK202.1 (by decide))); replace HO_6 := zM hp_; replace HB := zM ((by rw [hw]; exact below_set (HB.1) GB38.1 : Below w.heap.size w w59)); clear hg hw hp_))
   replace HO_6 := zM (Kd.R_drew HO_6.1)
   replace HO198 := zM (Kd.R_drew HO198.1)
   replace BK171 := zM (blk_drew BK171.1)
   replace BK172 := zM (blk_drew BK172.1)
   replace BK193 := zM (blk_drew BK193.1)
   replace BK202 := zM (blk_drew BK202.1)
   replace HB := zM (below_drew1 HB.1)
   refine start_ (n := 4) (S := fun w' => w'.cell? ⟨gb202, 0, none⟩ = some (.slice Ao52 t196.length co52) ∧ w'.cell? ⟨gb202, 1, none⟩ = some (.int .i64 t199) ∧ w'.cell? ⟨gb202, 2, none⟩ = some (.int .i64 t200)) (ds := []) #[false, false, false, false] (by kernel_rfl) rfl rfl ⟨(blk_cell BK202.1 0).trans rfl, (blk_cell BK202.1 1).trans rfl, (blk_cell BK202.1 2).trans rfl⟩ (fun hHeld => ?_)
   generalize w59.drew = w60 at HO_6 HO198 BK171 BK172 BK193 BK202 HB hHeld ⊢
   refine pure_ (i := 0) (N := some 64) (v := ?_) (a' := ?_) #[true, false, false, false] rfl rfl (by kernel_rfl) (fun _ _ _ h => h) (Or.inl ⟨by rfl, ?_⟩) ?_ ?_
   rotate_left
   ·intro w'
    go_simp
    with_reducible rfl
   rotate_left
   ·exact zV
   refine pure_ (i := 2) (N := some 4) (v := ?_) (a' := ?_) #[true, false, true, false] rfl rfl (by kernel_rfl) (fun _ _ _ h => h) (Or.inl ⟨by rfl, ?_⟩) ?_ ?_
   rotate_left
   ·intro w'
    go_simp
    with_reducible rfl
   rotate_left
   ·exact zV
   refine take_ (i := 1) (N := some 65) (v := ?_) (a' := ?_) #[true, true, true, false] rfl rfl (by kernel_rfl) (fun _ _ _ h => h) (Or.inl ⟨by rfl, ?_⟩) hHeld ?_ ?_
   rotate_left
   ·rintro w' ⟨s0, s1, s2⟩
    go_simp
    with_reducible rfl
   rotate_left
   ·exact zV
   refine one_ (i := 3) (N := none) #[true, true, true, true] rfl rfl (by kernel_rfl) (by decide) (fun K hK => ?_)
   have hs61 : w60.cell? ⟨gb172, 0, none⟩ = some (.slice none 0 0) := (blk_cell BK172.1 0).trans rfl
   have hfs61 := blk_frozen BK172.1 0
   have hns61_0 := NB171_172.1
   have hns61_2 := NB193_172.1
   have hns61_3 := NB202_172.1
   have hms61_0 := NB172_171.1
   have hms61_2 := NB172_193.1
   have hms61_3 := NB172_202.1
   have hs62 : w60.cell? ⟨gb172, 1, none⟩ = some (.int .i64 0) := (blk_cell BK172.1 1).trans rfl
   have hfs62 := blk_frozen BK172.1 1
   have hns62_0 := NB171_172.1
   have hns62_2 := NB193_172.1
   have hns62_3 := NB202_172.1
   have hms62_0 := NB172_171.1
   have hms62_2 := NB172_193.1
   have hms62_3 := NB172_202.1
   have hs63 : w60.cell? ⟨gb172, 2, none⟩ = some (.int .i64 0) := (blk_cell BK172.1 2).trans rfl
   have hfs63 := blk_frozen BK172.1 2
   have hns63_0 := NB171_172.1
   have hns63_2 := NB193_172.1
   have hns63_3 := NB202_172.1
   have hms63_0 := NB172_171.1
   have hms63_2 := NB172_193.1
   have hms63_3 := NB172_202.1
   refine skip_ (w1 := ?_) (by rfl) rfl ?_ ?_
   rotate_left
   ·go_simp
    rfl
   refine hK.out _ _ ⟨((cell_far (p := ⟨gb172, _, none⟩) NB202_172.1 _).trans (((cell_far (p := ⟨gb172, _, none⟩) NB202_172.1 _).trans (((cell_far (p := ⟨gb172, _, none⟩) NB202_172.1 _).trans (hHeld.1)))))), ((cell_far (p := ⟨gb172, _, none⟩) NB202_172.1 _).trans (((cell_far (p := ⟨gb172, _, none⟩) NB202_172.1 _).trans (((cell_far (p := ⟨gb172, _, none⟩) NB202_172.1 _).trans (hHeld.2.1)))))), ((cell_far (p := ⟨gb172, _, none⟩) NB202_172.1 _).trans (((cell_far (p := ⟨gb172, _, none⟩) NB202_172.1 _).trans (((cell_far (p := ⟨gb172, _, none⟩) NB202_172.1 _).trans (hHeld.2.2))))))⟩ (fun hHeld => ?_)
   clear hK K
   refine done_ (by kernel_rfl) ?_
   try go_wp2
   refine bodyPost_ret (results_tc rfl _ _ gb172 29 #[.slice Ao52 t196.length co52, .int .i64 t199, .int .i64 t200] (0, 0) _ rfl (by exact zp3 (zK BK172.1)) Try.underlying29 rfl (by kernel_rfl)) rfl ?_
   exact ⟨_, _, zE, by refine zrR ?_; exact Kd.R_mono (Kd.R_far (p := ⟨gb172, 2, none⟩) (Kd.R_far (p := ⟨gb172, 1, none⟩) (Kd.R_far (p := ⟨gb172, 0, none⟩) (Kd.R_types HO_6.1 BK172.1 (by decide)) (fun _ hk => hk.2) (.slice Ao52 t196.length co52)) (fun _ hk => hk.2) (.int .i64 t199)) (fun _ hk => hk.2) (.int .i64 t200)) (fun _ hk => hk.1), by refine zrR ?_; exact Kd.R_mono (Kd.R_far (p := ⟨gb172, 2, none⟩) (Kd.R_far (p := ⟨gb172, 1, none⟩) (Kd.R_far (p := ⟨gb172, 0, none⟩) (Kd.R_types HO198.1 BK172.1 (by decide)) (fun _ hk => hk.2) (.slice Ao52 t196.length co52)) (fun _ hk => hk.2) (.int .i64 t199)) (fun _ hk => hk.2) (.int .i64 t200)) (fun _ hk => hk.1.2), zB19⟩

end Go.Proofs.Ytnjdepmlpdjghaa.PFnExactEnds2
