-- made by wip/tools/myprint.py out of the seat's translation
import Derived.Test.YtnjdepmlpdjghaaPFnAllEndsx0
import Derived.Test.YtnjdepmlpdjghaaPFnAllEndsx7
import Derived.Test.YtnjdepmlpdjghaaPFnAllEndsx8
import Derived.Test.YtnjdepmlpdjghaaPFnAllEndsx9
namespace Go.Proofs.Ytnjdepmlpdjghaa.PFnAllEnds
open Go.RowKit Go.Proofs.YtnjdepmlpdjghaaW.PrintWords Go.Proofs.YtnjdepmlpdjghaaW.PrintLast Go.Proofs.YtnjdepmlpdjghaaW.PrintMore
attribute [local go_sem] max2_int min2_int max_two min_two max_three min_three max_four min_four   -- for this text's walks alone
set_option linter.unusedVariables false
set_option linter.unusedSimpArgs false
set_option maxHeartbeats 8000000
set_option maxRecDepth 100000
abbrev zq10_0 : Array Bool := #[true, true, true, true, true, true, true, true, true, true, false, false]

/-! ### impl_step: function 65 -/
def impl_step.f (k : Nat) (l0 : List Int) (l1_0 : List Int) (a1_1 : Int) (a1_2 : Int) : Option (List Int × Int × Int × List Int) := if 0 ≤ a1_1 then (if a1_1 < (l0.length : Int) then ((impl_Decode.f (rd l0 a1_1)).bind fun bt300 => ((impl_Target.f bt300.1 bt300.2.1 bt300.2.2.1 bt300.2.2.2.1 bt300.2.2.2.2.1 l1_0).bind fun t307 => (if t307 ≥ 0 then (if 0 ≤ t307 then (if t307 < (l0.length : Int) then ((impl_Work.f k l1_0 a1_1 a1_2 bt300.1 bt300.2.1 bt300.2.2.1 bt300.2.2.2.1 bt300.2.2.2.2.1 (rd l0 t307)).bind fun bt309 => (if bt309.2.2.2 ≥ 0 then (some (bt309.1, bt309.2.1, bt309.2.2.1, (l0.set (t307 : Int).toNat bt309.2.2.2))) else (some (bt309.1, bt309.2.1, bt309.2.2.1, l0)))) else (none)) else (none)) else ((impl_Work.f k l1_0 a1_1 a1_2 bt300.1 bt300.2.1 bt300.2.2.1 bt300.2.2.2.1 bt300.2.2.2.2.1 0).bind fun bt316 => (if bt316.2.2.2 ≥ 0 then (if 0 ≤ t307 then (if t307 < (l0.length : Int) then (some (bt316.1, bt316.2.1, bt316.2.2.1, (l0.set (t307 : Int).toNat bt316.2.2.2))) else (none)) else (none)) else (some (bt316.1, bt316.2.1, bt316.2.2.1, l0))))))) else (none)) else (none)
theorem impl_step.mono : ∀ a0 a1 a2 a3 k, LeO (impl_step.f k a0 a1 a2 a3) (impl_step.f (k + 1) a0 a1 a2 a3) := by
 intro a0 a1 a2 a3 k
 unfold impl_step.f
 have mo0 := @impl_Work.mono
 exact zL
theorem impl_step.calls (k : Nat) (P0_ : Nat → Prop) (u9000_ : Value) (l0 : List Int) (A1_0 : Option Addr) (c1_0 : Nat) (l1_0 : List Int) (a1_1 : Int) (a1_2 : Int) (r1 : List Int) (r2 : Int) (r3 : Int) (r4 : List Int) (w0 w : World) (hB : Below w0.heap.size w0 w) (ho0 : Kd.R (Kd.int .i64) 3 w w0.heap.size P0_ u9000_ l0) (hr1_0 : ∀ W_, Kept w W_ (fun k_ => P0_ k_) → Kd.C (Kd.int .i64) W_ A1_0 l1_0.length l1_0) (hc1_0 : l1_0.length ≤ c1_0) (h : impl_step.f k l0 l1_0 a1_1 a1_2 = some (r1, r2, r3, r4)) :
  Calls Try.prog 65 #[u9000_, .agg #[.slice A1_0 l1_0.length c1_0, .int .i64 a1_1, .int .i64 a1_2]] w fun e w' => ∃ v0_ : Value, e = .returned (.agg #[v0_, .int .i64 r2, .int .i64 r3]) ∧ Kd.R (Kd.int .i64) 3 w' w0.heap.size (fun k_ => (P0_ k_ ∨ w.heap.size ≤ k_) ∧ some k_ ≠ (u9000_ : Value).ownBlock) v0_ r1 ∧ Kd.R (Kd.int .i64) 3 w' w0.heap.size (fun k_ => (P0_ k_ ∨ w.heap.size ≤ k_)) u9000_ r4 ∧ Below w0.heap.size w0 w' ∧ Kept w w' (fun k_ => P0_ k_) := by
 have hu29 := Try.underlying29
 have hu59 := Try.underlying59
 have HO0 := zM (show Kd.R (Kd.int .i64) 3 w w0.heap.size (fun k_ => (P0_ k_ ∨ w.heap.size ≤ k_)) u9000_ l0 from Kd.R_mono ho0 (fun k_ hk => (.inl hk)))
 have HR1_0 := zM hr1_0
 have HC1_0 := zM hc1_0
 clear hr1_0 hc1_0
 have HK := zM (Kept.refl w (fun k_ => P0_ k_))
 have HW0 := zM hB.size
 have HB := zM hB
 clear hB
 unfold impl_step.f at h
 have H := h
 clear h
 replace H := zIt H
 obtain ⟨c3b0, H⟩ := H
 replace H := zIt H
 obtain ⟨c4b0, H⟩ := H
 replace H := zO H
 obtain ⟨⟨t300, t301, t302, t303, t304, t305⟩, A5, H⟩ := H
 try dsimp only at H
 replace H := zO H
 obtain ⟨t307, A6, H⟩ := H
 by_cases c7 : t307 ≥ 0
 rotate_left
 ·rw [if_neg c7] at H
  have c7b0 := decide_eq_false c7
  clear c7
  replace H := zO H
  obtain ⟨⟨t316, t319, t320, t321⟩, A53, H⟩ := H
  try dsimp only at H
  by_cases c54 : t321 ≥ 0
  rotate_left
  ·rw [if_neg c54] at H
   have c54b0 := decide_eq_false c54
   clear c54
   simp only [Option.some.injEq, Prod.mk.injEq] at H
   obtain ⟨rfl, rfl, rfl, rfl⟩ := H
   go_enter Try.func65, Try.ntmps65
   go_wp2_with (first | ((with_reducible refine zBx 3 29 #[.slice A1_0 l1_0.length c1_0, .int .i64 a1_1, .int .i64 a1_2] ?_); intro gb297 hg w80 hbox hb; replace HO0 := zM (Kd.R_below (zR HO0.1) hb); have BK297 := zM hbox; have GW297 := zM ((by rw [hg]; exact (by first | exact HK.1.1 | exact (show Kept w _ (fun k_ => P0_ k_) from zB35).1) : w.heap.size ≤ gb297)); replace HK := zM (Kept.below (S := (fun k_ => P0_ k_)) zB35 hb); have GE297 := zM ((by rw [hg]; exact (below_size zB0) : w0.heap.size ≤ gb297)); replace HB := zM (below_step zB0 hb); clear hb hbox hg) | ((with_reducible refine zBx 4 29 #[.slice none 0 0, .int .i64 0, .int .i64 0] ?_); intro gb298 hg w81 hbox hb; replace HO0 := zM (Kd.R_below (zR HO0.1) hb); have BK298 := zM hbox; have GW298 := zM ((by rw [hg]; exact (by first | exact HK.1.1 | exact (show Kept w _ (fun k_ => P0_ k_) from zB36).1) : w.heap.size ≤ gb298)); replace HK := zM (Kept.below (S := (fun k_ => P0_ k_)) zB36 hb); have GE298 := zM ((by rw [hg]; exact (below_size zB0) : w0.heap.size ≤ gb298)); replace HB := zM (below_step zB0 hb); have NB297_298 := zM ((zn BK297.1 hg : gb297 ≠ gb298)); have NB298_297 := zM ((zm BK297.1 hg : gb298 ≠ gb297)); replace BK297 := zM (zb BK297.1 hb); clear hb hbox hg; have hnb82 := NB297_298.1; have hnc82 := NB298_297.1; have hcz83 := zc_3 (w := w81) BK297.1; obtain ⟨Ao84, co84, eo84⟩ := Kd.R_slice HO0.1; subst eo84; obtain ⟨p299, q299, ad299, e299, hx299_0⟩ := zRd (Kd.at_int (Kd.R_reads' HO0.1).2.2 a1_1); cases e299) | ((with_reducible refine zG Try.func87 16 #[.int .i64 (rd l0 a1_1)] ?_); (with_reducible refine (impl_Decode.calls (rd l0 a1_1) t300 t301 t302 t303 t304 t305 _ A5.1).mono ?_); rintro e w85 ⟨rfl, hb⟩; refine ⟨_, rfl, ?_⟩; replace HO0 := zM (Kd.R_below (zR HO0.1) hb); replace BK297 := zM (zb BK297.1 hb); replace BK298 := zM (zb BK298.1 hb); replace HK := zM (Kept.below (S := (fun k_ => P0_ k_)) zB38 hb); replace HB := zM (below_step zB0 hb); clear hb) | ((with_reducible refine zBx 5 59 #[.int .i64 0, .int .i64 0, .int .i64 0, .int .i64 0, .int .i64 0] ?_); intro gb306 hg w86 hbox hb; replace HO0 := zM (Kd.R_below (zR HO0.1) hb); have BK306 := zM hbox; have GW306 := zM ((by rw [hg]; exact (by first | exact HK.1.1 | exact (show Kept w _ (fun k_ => P0_ k_) from zB38).1) : w.heap.size ≤ gb306)); replace HK := zM (Kept.below (S := (fun k_ => P0_ k_)) zB38 hb); have GE306 := zM ((by rw [hg]; exact (below_size zB0) : w0.heap.size ≤ gb306)); replace HB := zM (below_step zB0 hb); have NB297_306 := zM ((zn BK297.1 hg : gb297 ≠ gb306)); have NB306_297 := zM ((zm BK297.1 hg : gb306 ≠ gb297)); replace BK297 := zM (zb BK297.1 hb); have NB298_306 := zM ((zn BK298.1 hg : gb298 ≠ gb306)); have NB306_298 := zM ((zm BK298.1 hg : gb306 ≠ gb298)); replace BK298 := zM (zb BK298.1 hb); clear hb hbox hg; have hnb87 := NB306_297.1; have hnc87 := NB297_306.1; have hnb88 := NB306_298.1; have hnc88 := NB298_306.1; have hcz89 := zc_5 (w := w86) BK306.1; have hcz90 := zc_3 (w := w86) BK297.1) | ((with_reducible refine zG Try.func88 22 #[.agg #[.int .i64 t300, .int .i64 t301, .int .i64 t302, .int .i64 t303, .int .i64 t304], .slice A1_0 l1_0.length c1_0] ?_); (with_reducible refine (impl_Target.calls t300 t301 t302 t303 t304 _ _ l1_0 t307 _ ?side1 ?side2 A6.1).mono ?_); (case side1 => exact Kd.C_kept_now HR1_0.1 zB40); (case side2 => exact HC1_0.1); rintro e w91 ⟨rfl, hb⟩; refine ⟨_, rfl, ?_⟩; replace HO0 := zM (Kd.R_below (by refine zrR ?_; exact (Kd.R_mono (zfR (zfR (zfR (zfR (zfR (Kd.R_types HO0.1 BK306.1 (by decide))))))) (fun _ h_ => h_.1))) hb); replace BK297 := zM (zf BK297.1 hb); replace BK298 := zM (zf BK298.1 hb); replace BK306 := zM (blk_below (g := gb306) (o := .cells #[.int .i64 t300, .int .i64 t301, .int .i64 t302, .int .i64 t303, .int .i64 t304] 59 (0, 0)) (by exact zp5 (zK BK306.1)) hb); replace HK := zM (Kept.below (S := (fun k_ => P0_ k_)) zB40 hb); replace HB := zM (below_step zB0 hb); clear hb; have hcz92 := zc_3 (w := w91) BK297.1; have hcz93 := zc_5 (w := w91) BK306.1) | ((with_reducible refine zG Try.func89 33 #[.agg #[.slice A1_0 l1_0.length c1_0, .int .i64 a1_1, .int .i64 a1_2], .agg #[.int .i64 t300, .int .i64 t301, .int .i64 t302, .int .i64 t303, .int .i64 t304], .int .i64 0] ?_); (with_reducible refine (impl_Work.calls k _ _ l1_0 a1_1 a1_2 t300 t301 t302 t303 t304 0 t316 t319 t320 t321 _ ?side1 ?side2 A53.1).mono ?_); (case side1 => exact Kd.C_kept_now HR1_0.1 zB40); (case side2 => exact HC1_0.1); rintro e w94 ⟨v317, rfl, ho0, hb⟩; refine ⟨_, rfl, ?_⟩; have HO318 := zM (Kd.R_lower (Kd.R_new' (Kd.R_newM (M := fun k_ => (P0_ k_ ∨ w.heap.size ≤ k_)) ho0 (by first | exact HK.1.1 | exact (show Kept w _ (fun k_ => P0_ k_) from zB40).1) (fun k_ h_ => .inr h_)) (Kd.R_lt (zR HO0.1))) (below_size zB0)); replace HO0 := zM (Kd.R_elder' (zR HO0.1) (Kd.R_base ho0) hb); replace BK297 := zM (zb BK297.1 hb); replace BK298 := zM (zb BK298.1 hb); replace BK306 := zM (zb BK306.1 hb); replace HK := zM (Kept.below (S := (fun k_ => P0_ k_)) zB40 hb); replace HB := zM (below_step zB0 hb); clear hb ho0; obtain ⟨Ao95, co95, eo95⟩ := Kd.R_slice HO318.1; subst eo95; have hcz96 := zc_3 (w := w94) BK297.1; have hcz97 := zc_3 (w := w94) BK298.1))
   refine bodyPost_ret (results_cell_row rfl _ _ gb298 29 #[.slice Ao95 t316.length co95, .int .i64 t319, .int .i64 t320] (0, 0) _ rfl zPq Try.underlying29 rfl (by kernel_rfl)) rfl ?_
   exact ⟨_, zE, by refine zrR ?_; exact Kd.R_mono (zfR (zfR (zfR (zgR (zgR (zgR (Kd.R_types (Kd.R_types HO318.1 BK297.1 (by decide)) BK298.1 (by decide)))))))) (fun _ hk => ⟨hk.1.1.1.1, hk.1.1.2⟩), by refine zrR ?_; exact Kd.R_mono (zfR (zfR (zfR (zgR (zgR (zgR (Kd.R_types (Kd.R_types HO0.1 BK297.1 (by decide)) BK298.1 (by decide)))))))) (fun _ hk => hk.1.1.1), zB0, zB40⟩
  rw [if_pos c54] at H
  have c54b0 := decide_eq_true c54
  clear c54
  replace H := zIt H
  obtain ⟨c55b0, H⟩ := H
  replace H := zIt H
  obtain ⟨c56b0, H⟩ := H
  generalize hy322 : ((l0.set (t307 : Int).toNat t321) : List Int) = y322 at H
  have Ny322 := zM hy322.symm
  clear hy322
  simp only [Option.some.injEq, Prod.mk.injEq] at H
  obtain ⟨rfl, rfl, rfl, rfl⟩ := H
  go_enter Try.func65, Try.ntmps65
  go_wp2_with (first | ((with_reducible refine zBx 3 29 #[.slice A1_0 l1_0.length c1_0, .int .i64 a1_1, .int .i64 a1_2] ?_); intro gb297 hg w58 hbox hb; replace HO0 := zM (Kd.R_below (zR HO0.1) hb); have BK297 := zM hbox; have GW297 := zM ((by rw [hg]; exact (by first | exact HK.1.1 | exact (show Kept w _ (fun k_ => P0_ k_) from zB35).1) : w.heap.size ≤ gb297)); replace HK := zM (Kept.below (S := (fun k_ => P0_ k_)) zB35 hb); have GE297 := zM ((by rw [hg]; exact (below_size zB0) : w0.heap.size ≤ gb297)); replace HB := zM (below_step zB0 hb); clear hb hbox hg) | ((with_reducible refine zBx 4 29 #[.slice none 0 0, .int .i64 0, .int .i64 0] ?_); intro gb298 hg w59 hbox hb; replace HO0 := zM (Kd.R_below (zR HO0.1) hb); have BK298 := zM hbox; have GW298 := zM ((by rw [hg]; exact (by first | exact HK.1.1 | exact (show Kept w _ (fun k_ => P0_ k_) from zB36).1) : w.heap.size ≤ gb298)); replace HK := zM (Kept.below (S := (fun k_ => P0_ k_)) zB36 hb); have GE298 := zM ((by rw [hg]; exact (below_size zB0) : w0.heap.size ≤ gb298)); replace HB := zM (below_step zB0 hb); have NB297_298 := zM ((zn BK297.1 hg : gb297 ≠ gb298)); have NB298_297 := zM ((zm BK297.1 hg : gb298 ≠ gb297)); replace BK297 := zM (zb BK297.1 hb); clear hb hbox hg; have hnb60 := NB297_298.1; have hnc60 := NB298_297.1; have hcz61 := zc_3 (w := w59) BK297.1; obtain ⟨Ao62, co62, eo62⟩ := Kd.R_slice HO0.1; subst eo62; obtain ⟨p299, q299, ad299, e299, hx299_0⟩ := zRd (Kd.at_int (Kd.R_reads' HO0.1).2.2 a1_1); cases e299) | ((with_reducible refine zG Try.func87 16 #[.int .i64 (rd l0 a1_1)] ?_); (with_reducible refine (impl_Decode.calls (rd l0 a1_1) t300 t301 t302 t303 t304 t305 _ A5.1).mono ?_); rintro e w63 ⟨rfl, hb⟩; refine ⟨_, rfl, ?_⟩; replace HO0 := zM (Kd.R_below (zR HO0.1) hb); replace BK297 := zM (zb BK297.1 hb); replace BK298 := zM (zb BK298.1 hb); replace HK := zM (Kept.below (S := (fun k_ => P0_ k_)) zB38 hb); replace HB := zM (below_step zB0 hb); clear hb) | ((with_reducible refine zBx 5 59 #[.int .i64 0, .int .i64 0, .int .i64 0, .int .i64 0, .int .i64 0] ?_); intro gb306 hg w64 hbox hb; replace HO0 := zM (Kd.R_below (zR HO0.1) hb); have BK306 := zM hbox; have GW306 := zM ((by rw [hg]; exact (by first | exact HK.1.1 | exact (show Kept w _ (fun k_ => P0_ k_) from zB38).1) : w.heap.size ≤ gb306)); replace HK := zM (Kept.below (S := (fun k_ => P0_ k_)) zB38 hb); have GE306 := zM ((by rw [hg]; exact (below_size zB0) : w0.heap.size ≤ gb306)); replace HB := zM (below_step zB0 hb); have NB297_306 := zM ((zn BK297.1 hg : gb297 ≠ gb306)); have NB306_297 := zM ((zm BK297.1 hg : gb306 ≠ gb297)); replace BK297 := zM (zb BK297.1 hb); have NB298_306 := zM ((zn BK298.1 hg : gb298 ≠ gb306)); have NB306_298 := zM ((zm BK298.1 hg : gb306 ≠ gb298)); replace BK298 := zM (zb BK298.1 hb); clear hb hbox hg; have hnb65 := NB306_297.1; have hnc65 := NB297_306.1; have hnb66 := NB306_298.1; have hnc66 := NB298_306.1; have hcz67 := zc_5 (w := w64) BK306.1; have hcz68 := zc_3 (w := w64) BK297.1) | ((with_reducible refine zG Try.func88 22 #[.agg #[.int .i64 t300, .int .i64 t301, .int .i64 t302, .int .i64 t303, .int .i64 t304], .slice A1_0 l1_0.length c1_0] ?_); (with_reducible refine (impl_Target.calls t300 t301 t302 t303 t304 _ _ l1_0 t307 _ ?side1 ?side2 A6.1).mono ?_); (case side1 => exact Kd.C_kept_now HR1_0.1 zB40); (case side2 => exact HC1_0.1); rintro e w69 ⟨rfl, hb⟩; refine ⟨_, rfl, ?_⟩; replace HO0 := zM (Kd.R_below (by refine zrR ?_; exact (Kd.R_mono (zfR (zfR (zfR (zfR (zfR (Kd.R_types HO0.1 BK306.1 (by decide))))))) (fun _ h_ => h_.1))) hb); replace BK297 := zM (zf BK297.1 hb); replace BK298 := zM (zf BK298.1 hb); replace BK306 := zM (blk_below (g := gb306) (o := .cells #[.int .i64 t300, .int .i64 t301, .int .i64 t302, .int .i64 t303, .int .i64 t304] 59 (0, 0)) (by exact zp5 (zK BK306.1)) hb); replace HK := zM (Kept.below (S := (fun k_ => P0_ k_)) zB40 hb); replace HB := zM (below_step zB0 hb); clear hb; have hcz70 := zc_3 (w := w69) BK297.1; have hcz71 := zc_5 (w := w69) BK306.1) | ((with_reducible refine zG Try.func89 33 #[.agg #[.slice A1_0 l1_0.length c1_0, .int .i64 a1_1, .int .i64 a1_2], .agg #[.int .i64 t300, .int .i64 t301, .int .i64 t302, .int .i64 t303, .int .i64 t304], .int .i64 0] ?_); (with_reducible refine (impl_Work.calls k _ _ l1_0 a1_1 a1_2 t300 t301 t302 t303 t304 0 t316 t319 t320 t321 _ ?side1 ?side2 A53.1).mono ?_); (case side1 => exact Kd.C_kept_now HR1_0.1 zB40); (case side2 => exact HC1_0.1); rintro e w72 ⟨v317, rfl, ho0, hb⟩; refine ⟨_, rfl, ?_⟩; have HO318 := zM (Kd.R_lower (Kd.R_new' (Kd.R_newM (M := fun k_ => (P0_ k_ ∨ w.heap.size ≤ k_)) ho0 (by first | exact HK.1.1 | exact (show Kept w _ (fun k_ => P0_ k_) from zB40).1) (fun k_ h_ => .inr h_)) (Kd.R_lt (zR HO0.1))) (below_size zB0)); replace HO0 := zM (Kd.R_elder' (zR HO0.1) (Kd.R_base ho0) hb); replace BK297 := zM (zb BK297.1 hb); replace BK298 := zM (zb BK298.1 hb); replace BK306 := zM (zb BK306.1 hb); replace HK := zM (Kept.below (S := (fun k_ => P0_ k_)) zB40 hb); replace HB := zM (below_step zB0 hb); clear hb ho0; obtain ⟨Ao73, co73, eo73⟩ := Kd.R_slice HO318.1; subst eo73; have hcz74 := zc_3 (w := w72) BK297.1) | ((with_reducible refine gate_store (t := 29) (p := 3) rfl ?_); refine store_event (t := 29) (p := 3) (v := ?vo_w75) (w1 := (((w72.setCell ⟨gb297, 0, none⟩ (.slice Ao73 t316.length co73)).setCell ⟨gb297, 1, none⟩ (.int .i64 t319)).setCell ⟨gb297, 2, none⟩ (.int .i64 t320))) ?hg ?ho ?hn ?hr ?_; (case ho => rfl); (case hg => rfl); (case hn => rfl); (case hr => exact zHH); intro w75 hw; have n0_ : Aside0 (Kd.R (Kd.int .i64) 3 w75 w0.heap.size (fun k_ => (P0_ k_ ∨ w.heap.size ≤ k_) ∧ some k_ ≠ (.slice Ao73 t316.length co73 : Value).ownBlock) (.slice (some ad299) l0.length co62) l0) := ⟨(by rw [hw]; exact (by refine zrR ?_; exact Kd.R_mono (zfR (zfR (zfR (Kd.R_types HO0.1 BK297.1 (by decide))))) (fun _ hk => ⟨hk.1.1, hk.1.2⟩)))⟩; have n1_ : Aside0 (Kd.R (Kd.int .i64) 3 w75 w0.heap.size (fun k_ => (P0_ k_ ∨ w.heap.size ≤ k_) ∧ some k_ ≠ (.slice (some ad299) l0.length co62 : Value).ownBlock) (.slice Ao73 t316.length co73) t316) := ⟨(by rw [hw]; exact (by refine zrR ?_; exact Kd.R_mono (zfR (zfR (zfR (Kd.R_types HO318.1 BK297.1 (by decide))))) (fun _ hk => ⟨hk.1.1.1, hk.1.2⟩)))⟩; have n2_ : Aside0 (w75.heap[gb297]? = some (.cells #[.slice Ao73 t316.length co73, .int .i64 t319, .int .i64 t320] 29 (0, 0))) := ⟨(by rw [hw]; exact (by exact zp3 (zK BK297.1)))⟩; have n3_ : Aside0 (w75.heap[gb298]? = some (.cells #[.slice none 0 0, .int .i64 0, .int .i64 0] 29 (0, 0))) := ⟨(by rw [hw]; exact zPq)⟩; have n4_ : Aside0 (w75.heap[gb306]? = some (.cells #[.int .i64 t300, .int .i64 t301, .int .i64 t302, .int .i64 t303, .int .i64 t304] 59 (0, 0))) := ⟨(by rw [hw]; exact zPq)⟩; have n5_ : Aside0 (Kept w w75 (fun k_ => P0_ k_)) := ⟨(by rw [hw]; exact zB40)⟩; have n6_ : Aside0 (Below w0.heap.size w0 w75) := ⟨(by rw [hw]; exact zB0)⟩; clear hw; clear HO0; clear HO318; clear BK297; clear BK298; clear BK306; clear HK; clear HB; have HO0 := n0_; have HO318 := n1_; have BK297 := n2_; have BK298 := n3_; have BK306 := n4_; have HK := n5_; have HB := n6_; clear n0_ n1_ n2_ n3_ n4_ n5_ n6_; have p57 : 0 ≤ (t307 : Int) := zA; have q57 : (t307 : Int) < ((l0.length : Int) : Int) := zA; obtain ⟨go57, co57, eo57, gb57, gl57, cl57, HG57⟩ := Kd.R_form HO0.1 (by omega); (first | cases eo57 | (injection eo57 with ea_ en_ ec_; (first | subst ea_ | (injection ea_ with ea_; subst ea_)); subst ec_; clear en_)); have GB57 := zM gb57; have GG57 := zM HG57; clear gb57 gl57 HG57; have HMgo57 := zM (show (P0_ go57 ∨ w.heap.size ≤ go57) from (HO0.1.1 _ rfl).1); (first | simp only [add_plain] at hx299_0 | skip); (first | simp only [add_plain] at hx308_0 | skip); obtain ⟨hx57_0, hf57_0⟩ := Kd.R_celln 0 HO0.1 (t307 : Int) p57 q57; replace p57 := eq_true p57; replace q57 := eq_true q57; obtain ⟨hy76_, hz76_⟩ := Kd.R_celln 0 HO0.1 (t307 : Int) zA zA; have HP76 := Kd.R_putg HO0.1 (t307 : Int) t321) | ((with_reducible refine gate_store (t := 3) (p := 41) rfl ?_); refine store_event (t := 3) (p := 41) (v := ?vo_w77) (w1 := (w75.setCell ⟨go57, (t307 : Int).toNat, none⟩ (.int .i64 t321))) ?hg ?ho ?hn ?hr ?_; (case ho => rfl); (case hg => rfl); (case hn => rfl); (case hr => exact zHH); intro w77 hw; have hg : w75.grownBy w77 (some go57) := (by rw [hw]; exact HP76.2); have hp_ : Kd.R (Kd.int .i64) 3 w77 w0.heap.size (fun k_ => (P0_ k_ ∨ w.heap.size ≤ k_) ∧ some k_ ≠ (.slice Ao73 t316.length co73 : Value).ownBlock) (.slice (some ⟨go57, 0, none⟩) l0.length co62) y322 := (by rw [hw, Ny322.1]; exact HP76.1); clear HP76; replace BK297 := zM (zg BK297.1 hg (Kd.R_ne HO0.1 BK297.1 (by decide))); replace BK298 := zM (zg BK298.1 hg (Kd.R_ne HO0.1 BK298.1 (by decide))); replace BK306 := zM (zg BK306.1 hg (Kd.R_ne HO0.1 BK306.1 (by decide))); replace HO318 := zM (Kd.R_after (v := (.slice (some ⟨go57, 0, none⟩) l0.length co62)) (v1 := (.slice (some ⟨go57, 0, none⟩) l0.length co62)) (ok := (fun k_ => (P0_ k_ ∨ w.heap.size ≤ k_))) (zR HO318.1) hg (.inl rfl)); replace HB := zM ((by rw [hw]; exact below_set (HB.1) GB57.1 : Below w0.heap.size w0 w77)); replace HK := zM (Kept.of_grown (S := (fun k_ => P0_ k_)) hg zB40 (fun k_ e_ => (HO0.1.1 k_ e_).1)); replace HO0 := zM hp_; clear hg hw hp_; have hcz78 := zc_3 (w := w77) BK297.1; have hcz79 := zc_3 (w := w77) BK298.1))
  refine bodyPost_ret (results_cell_row rfl _ _ gb298 29 #[.slice Ao73 t316.length co73, .int .i64 t319, .int .i64 t320] (0, 0) _ rfl (by exact zp3 (zK BK298.1)) Try.underlying29 rfl (by kernel_rfl)) rfl ?_
  exact ⟨_, zE, by refine zrR ?_; exact Kd.R_mono (zfR (zfR (zfR (Kd.R_types HO318.1 BK298.1 (by decide))))) (fun _ hk => ⟨hk.1.1, hk.1.2⟩), by refine zrR ?_; exact Kd.R_mono (zfR (zfR (zfR (Kd.R_types HO0.1 BK298.1 (by decide))))) (fun _ hk => hk.1.1), zB0, zB40⟩
 rw [if_pos c7] at H
 have c7b0 := decide_eq_true c7
 clear c7
 replace H := zIt H
 obtain ⟨c8b0, H⟩ := H
 replace H := zIt H
 obtain ⟨c9b0, H⟩ := H
 replace H := zO H
 obtain ⟨⟨t309, t312, t313, t314⟩, A10, H⟩ := H
 try dsimp only at H
 by_cases c11 : t314 ≥ 0
 rotate_left
 ·rw [if_neg c11] at H
  have c11b0 := decide_eq_false c11
  clear c11
  simp only [Option.some.injEq, Prod.mk.injEq] at H
  obtain ⟨rfl, rfl, rfl, rfl⟩ := H
  go_enter Try.func65, Try.ntmps65
  go_wp2_with (first | ((with_reducible refine zBx 3 29 #[.slice A1_0 l1_0.length c1_0, .int .i64 a1_1, .int .i64 a1_2] ?_); intro gb297 hg w35 hbox hb; replace HO0 := zM (Kd.R_below (zR HO0.1) hb); have BK297 := zM hbox; have GW297 := zM ((by rw [hg]; exact (by first | exact HK.1.1 | exact (show Kept w _ (fun k_ => P0_ k_) from zB35).1) : w.heap.size ≤ gb297)); replace HK := zM (Kept.below (S := (fun k_ => P0_ k_)) zB35 hb); have GE297 := zM ((by rw [hg]; exact (below_size zB0) : w0.heap.size ≤ gb297)); replace HB := zM (below_step zB0 hb); clear hb hbox hg) | ((with_reducible refine zBx 4 29 #[.slice none 0 0, .int .i64 0, .int .i64 0] ?_); intro gb298 hg w36 hbox hb; replace HO0 := zM (Kd.R_below (zR HO0.1) hb); have BK298 := zM hbox; have GW298 := zM ((by rw [hg]; exact (by first | exact HK.1.1 | exact (show Kept w _ (fun k_ => P0_ k_) from zB36).1) : w.heap.size ≤ gb298)); replace HK := zM (Kept.below (S := (fun k_ => P0_ k_)) zB36 hb); have GE298 := zM ((by rw [hg]; exact (below_size zB0) : w0.heap.size ≤ gb298)); replace HB := zM (below_step zB0 hb); have NB297_298 := zM ((zn BK297.1 hg : gb297 ≠ gb298)); have NB298_297 := zM ((zm BK297.1 hg : gb298 ≠ gb297)); replace BK297 := zM (zb BK297.1 hb); clear hb hbox hg; have hnb37 := NB297_298.1; have hnc37 := NB298_297.1; have hcz38 := zc_3 (w := w36) BK297.1; obtain ⟨Ao39, co39, eo39⟩ := Kd.R_slice HO0.1; subst eo39; obtain ⟨p299, q299, ad299, e299, hx299_0⟩ := zRd (Kd.at_int (Kd.R_reads' HO0.1).2.2 a1_1); cases e299) | ((with_reducible refine zG Try.func87 16 #[.int .i64 (rd l0 a1_1)] ?_); (with_reducible refine (impl_Decode.calls (rd l0 a1_1) t300 t301 t302 t303 t304 t305 _ A5.1).mono ?_); rintro e w40 ⟨rfl, hb⟩; refine ⟨_, rfl, ?_⟩; replace HO0 := zM (Kd.R_below (zR HO0.1) hb); replace BK297 := zM (zb BK297.1 hb); replace BK298 := zM (zb BK298.1 hb); replace HK := zM (Kept.below (S := (fun k_ => P0_ k_)) zB38 hb); replace HB := zM (below_step zB0 hb); clear hb) | ((with_reducible refine zBx 5 59 #[.int .i64 0, .int .i64 0, .int .i64 0, .int .i64 0, .int .i64 0] ?_); intro gb306 hg w41 hbox hb; replace HO0 := zM (Kd.R_below (zR HO0.1) hb); have BK306 := zM hbox; have GW306 := zM ((by rw [hg]; exact (by first | exact HK.1.1 | exact (show Kept w _ (fun k_ => P0_ k_) from zB38).1) : w.heap.size ≤ gb306)); replace HK := zM (Kept.below (S := (fun k_ => P0_ k_)) zB38 hb); have GE306 := zM ((by rw [hg]; exact (below_size zB0) : w0.heap.size ≤ gb306)); replace HB := zM (below_step zB0 hb); have NB297_306 := zM ((zn BK297.1 hg : gb297 ≠ gb306)); have NB306_297 := zM ((zm BK297.1 hg : gb306 ≠ gb297)); replace BK297 := zM (zb BK297.1 hb); have NB298_306 := zM ((zn BK298.1 hg : gb298 ≠ gb306)); have NB306_298 := zM ((zm BK298.1 hg : gb306 ≠ gb298)); replace BK298 := zM (zb BK298.1 hb); clear hb hbox hg; have hnb42 := NB306_297.1; have hnc42 := NB297_306.1; have hnb43 := NB306_298.1; have hnc43 := NB298_306.1; have hcz44 := zc_5 (w := w41) BK306.1; have hcz45 := zc_3 (w := w41) BK297.1) | ((with_reducible refine zG Try.func88 22 #[.agg #[.int .i64 t300, .int .i64 t301, .int .i64 t302, .int .i64 t303, .int .i64 t304], .slice A1_0 l1_0.length c1_0] ?_); (with_reducible refine (impl_Target.calls t300 t301 t302 t303 t304 _ _ l1_0 t307 _ ?side1 ?side2 A6.1).mono ?_); (case side1 => exact Kd.C_kept_now HR1_0.1 zB40); (case side2 => exact HC1_0.1); rintro e w46 ⟨rfl, hb⟩; refine ⟨_, rfl, ?_⟩; replace HO0 := zM (Kd.R_below (by refine zrR ?_; exact (Kd.R_mono (zfR (zfR (zfR (zfR (zfR (Kd.R_types HO0.1 BK306.1 (by decide))))))) (fun _ h_ => h_.1))) hb); replace BK297 := zM (zf BK297.1 hb); replace BK298 := zM (zf BK298.1 hb); replace BK306 := zM (blk_below (g := gb306) (o := .cells #[.int .i64 t300, .int .i64 t301, .int .i64 t302, .int .i64 t303, .int .i64 t304] 59 (0, 0)) (by exact zp5 (zK BK306.1)) hb); replace HK := zM (Kept.below (S := (fun k_ => P0_ k_)) zB40 hb); replace HB := zM (below_step zB0 hb); clear hb; obtain ⟨p308, q308, ad308, e308, hx308_0⟩ := zRd (Kd.at_int (Kd.R_reads' HO0.1).2.2 t307); obtain rfl : ad299 = ad308 := (by injection e308); have hcz47 := zc_3 (w := w46) BK297.1; have hcz48 := zc_5 (w := w46) BK306.1) | ((with_reducible refine zG Try.func89 33 #[.agg #[.slice A1_0 l1_0.length c1_0, .int .i64 a1_1, .int .i64 a1_2], .agg #[.int .i64 t300, .int .i64 t301, .int .i64 t302, .int .i64 t303, .int .i64 t304], .int .i64 (rd l0 t307)] ?_); (with_reducible refine (impl_Work.calls k _ _ l1_0 a1_1 a1_2 t300 t301 t302 t303 t304 (rd l0 t307) t309 t312 t313 t314 _ ?side1 ?side2 A10.1).mono ?_); (case side1 => exact Kd.C_kept_now HR1_0.1 zB40); (case side2 => exact HC1_0.1); rintro e w49 ⟨v310, rfl, ho0, hb⟩; refine ⟨_, rfl, ?_⟩; have HO311 := zM (Kd.R_lower (Kd.R_new' (Kd.R_newM (M := fun k_ => (P0_ k_ ∨ w.heap.size ≤ k_)) ho0 (by first | exact HK.1.1 | exact (show Kept w _ (fun k_ => P0_ k_) from zB40).1) (fun k_ h_ => .inr h_)) (Kd.R_lt (zR HO0.1))) (below_size zB0)); replace HO0 := zM (Kd.R_elder' (zR HO0.1) (Kd.R_base ho0) hb); replace BK297 := zM (zb BK297.1 hb); replace BK298 := zM (zb BK298.1 hb); replace BK306 := zM (zb BK306.1 hb); replace HK := zM (Kept.below (S := (fun k_ => P0_ k_)) zB40 hb); replace HB := zM (below_step zB0 hb); clear hb ho0; obtain ⟨Ao50, co50, eo50⟩ := Kd.R_slice HO311.1; subst eo50; have hcz51 := zc_3 (w := w49) BK297.1; have hcz52 := zc_3 (w := w49) BK298.1))
  refine bodyPost_ret (results_cell_row rfl _ _ gb298 29 #[.slice Ao50 t309.length co50, .int .i64 t312, .int .i64 t313] (0, 0) _ rfl zPq Try.underlying29 rfl (by kernel_rfl)) rfl ?_
  exact ⟨_, zE, by refine zrR ?_; exact Kd.R_mono (zfR (zfR (zfR (zgR (zgR (zgR (Kd.R_types (Kd.R_types HO311.1 BK297.1 (by decide)) BK298.1 (by decide)))))))) (fun _ hk => ⟨hk.1.1.1.1, hk.1.1.2⟩), by refine zrR ?_; exact Kd.R_mono (zfR (zfR (zfR (zgR (zgR (zgR (Kd.R_types (Kd.R_types HO0.1 BK297.1 (by decide)) BK298.1 (by decide)))))))) (fun _ hk => hk.1.1.1), zB0, zB40⟩
 rw [if_pos c11] at H
 have c11b0 := decide_eq_true c11
 clear c11
 generalize hy315 : ((l0.set (t307 : Int).toNat t314) : List Int) = y315 at H
 have Ny315 := zM hy315.symm
 clear hy315
 simp only [Option.some.injEq, Prod.mk.injEq] at H
 obtain ⟨rfl, rfl, rfl, rfl⟩ := H
 go_enter Try.func65, Try.ntmps65
 go_wp2_with (first | ((with_reducible refine zBx 3 29 #[.slice A1_0 l1_0.length c1_0, .int .i64 a1_1, .int .i64 a1_2] ?_); intro gb297 hg w13 hbox hb; replace HO0 := zM (Kd.R_below (zR HO0.1) hb); have BK297 := zM hbox; have GW297 := zM ((by rw [hg]; exact (by first | exact HK.1.1 | exact (show Kept w _ (fun k_ => P0_ k_) from zB35).1) : w.heap.size ≤ gb297)); replace HK := zM (Kept.below (S := (fun k_ => P0_ k_)) zB35 hb); have GE297 := zM ((by rw [hg]; exact (below_size zB0) : w0.heap.size ≤ gb297)); replace HB := zM (below_step zB0 hb); clear hb hbox hg) | ((with_reducible refine zBx 4 29 #[.slice none 0 0, .int .i64 0, .int .i64 0] ?_); intro gb298 hg w14 hbox hb; replace HO0 := zM (Kd.R_below (zR HO0.1) hb); have BK298 := zM hbox; have GW298 := zM ((by rw [hg]; exact (by first | exact HK.1.1 | exact (show Kept w _ (fun k_ => P0_ k_) from zB36).1) : w.heap.size ≤ gb298)); replace HK := zM (Kept.below (S := (fun k_ => P0_ k_)) zB36 hb); have GE298 := zM ((by rw [hg]; exact (below_size zB0) : w0.heap.size ≤ gb298)); replace HB := zM (below_step zB0 hb); have NB297_298 := zM ((zn BK297.1 hg : gb297 ≠ gb298)); have NB298_297 := zM ((zm BK297.1 hg : gb298 ≠ gb297)); replace BK297 := zM (zb BK297.1 hb); clear hb hbox hg; have hnb15 := NB297_298.1; have hnc15 := NB298_297.1; have hcz16 := zc_3 (w := w14) BK297.1; obtain ⟨Ao17, co17, eo17⟩ := Kd.R_slice HO0.1; subst eo17; obtain ⟨p299, q299, ad299, e299, hx299_0⟩ := zRd (Kd.at_int (Kd.R_reads' HO0.1).2.2 a1_1); cases e299) | ((with_reducible refine zG Try.func87 16 #[.int .i64 (rd l0 a1_1)] ?_); (with_reducible refine (impl_Decode.calls (rd l0 a1_1) t300 t301 t302 t303 t304 t305 _ A5.1).mono ?_); rintro e w18 ⟨rfl, hb⟩; refine ⟨_, rfl, ?_⟩; replace HO0 := zM (Kd.R_below (zR HO0.1) hb); replace BK297 := zM (zb BK297.1 hb); replace BK298 := zM (zb BK298.1 hb); replace HK := zM (Kept.below (S := (fun k_ => P0_ k_)) zB38 hb); replace HB := zM (below_step zB0 hb); clear hb) | ((with_reducible refine zBx 5 59 #[.int .i64 0, .int .i64 0, .int .i64 0, .int .i64 0, .int .i64 0] ?_); intro gb306 hg w19 hbox hb; replace HO0 := zM (Kd.R_below (zR HO0.1) hb); have BK306 := zM hbox; have GW306 := zM ((by rw [hg]; exact (by first | exact HK.1.1 | exact (show Kept w _ (fun k_ => P0_ k_) from zB38).1) : w.heap.size ≤ gb306)); replace HK := zM (Kept.below (S := (fun k_ => P0_ k_)) zB38 hb); have GE306 := zM ((by rw [hg]; exact (below_size zB0) : w0.heap.size ≤ gb306)); replace HB := zM (below_step zB0 hb); have NB297_306 := zM ((zn BK297.1 hg : gb297 ≠ gb306)); have NB306_297 := zM ((zm BK297.1 hg : gb306 ≠ gb297)); replace BK297 := zM (zb BK297.1 hb); have NB298_306 := zM ((zn BK298.1 hg : gb298 ≠ gb306)); have NB306_298 := zM ((zm BK298.1 hg : gb306 ≠ gb298)); replace BK298 := zM (zb BK298.1 hb); clear hb hbox hg; have hnb20 := NB306_297.1; have hnc20 := NB297_306.1; have hnb21 := NB306_298.1; have hnc21 := NB298_306.1; have hcz22 := zc_5 (w := w19) BK306.1; have hcz23 := zc_3 (w := w19) BK297.1) | ((with_reducible refine zG Try.func88 22 #[.agg #[.int .i64 t300, .int .i64 t301, .int .i64 t302, .int .i64 t303, .int .i64 t304], .slice A1_0 l1_0.length c1_0] ?_); (with_reducible refine (impl_Target.calls t300 t301 t302 t303 t304 _ _ l1_0 t307 _ ?side1 ?side2 A6.1).mono ?_); (case side1 => exact Kd.C_kept_now HR1_0.1 zB40); (case side2 => exact HC1_0.1); rintro e w24 ⟨rfl, hb⟩; refine ⟨_, rfl, ?_⟩; replace HO0 := zM (Kd.R_below (by refine zrR ?_; exact (Kd.R_mono (zfR (zfR (zfR (zfR (zfR (Kd.R_types HO0.1 BK306.1 (by decide))))))) (fun _ h_ => h_.1))) hb); replace BK297 := zM (zf BK297.1 hb); replace BK298 := zM (zf BK298.1 hb); replace BK306 := zM (blk_below (g := gb306) (o := .cells #[.int .i64 t300, .int .i64 t301, .int .i64 t302, .int .i64 t303, .int .i64 t304] 59 (0, 0)) (by exact zp5 (zK BK306.1)) hb); replace HK := zM (Kept.below (S := (fun k_ => P0_ k_)) zB40 hb); replace HB := zM (below_step zB0 hb); clear hb; obtain ⟨p308, q308, ad308, e308, hx308_0⟩ := zRd (Kd.at_int (Kd.R_reads' HO0.1).2.2 t307); obtain rfl : ad299 = ad308 := (by injection e308); have hcz25 := zc_3 (w := w24) BK297.1; have hcz26 := zc_5 (w := w24) BK306.1) | ((with_reducible refine zG Try.func89 33 #[.agg #[.slice A1_0 l1_0.length c1_0, .int .i64 a1_1, .int .i64 a1_2], .agg #[.int .i64 t300, .int .i64 t301, .int .i64 t302, .int .i64 t303, .int .i64 t304], .int .i64 (rd l0 t307)] ?_); (with_reducible refine (impl_Work.calls k _ _ l1_0 a1_1 a1_2 t300 t301 t302 t303 t304 (rd l0 t307) t309 t312 t313 t314 _ ?side1 ?side2 A10.1).mono ?_); (case side1 => exact Kd.C_kept_now HR1_0.1 zB40); (case side2 => exact HC1_0.1); rintro e w27 ⟨v310, rfl, ho0, hb⟩; refine ⟨_, rfl, ?_⟩; have HO311 := zM (Kd.R_lower (Kd.R_new' (Kd.R_newM (M := fun k_ => (P0_ k_ ∨ w.heap.size ≤ k_)) ho0 (by first | exact HK.1.1 | exact (show Kept w _ (fun k_ => P0_ k_) from zB40).1) (fun k_ h_ => .inr h_)) (Kd.R_lt (zR HO0.1))) (below_size zB0)); replace HO0 := zM (Kd.R_elder' (zR HO0.1) (Kd.R_base ho0) hb); replace BK297 := zM (zb BK297.1 hb); replace BK298 := zM (zb BK298.1 hb); replace BK306 := zM (zb BK306.1 hb); replace HK := zM (Kept.below (S := (fun k_ => P0_ k_)) zB40 hb); replace HB := zM (below_step zB0 hb); clear hb ho0; obtain ⟨Ao28, co28, eo28⟩ := Kd.R_slice HO311.1; subst eo28; have hcz29 := zc_3 (w := w27) BK297.1) | ((with_reducible refine gate_store (t := 29) (p := 3) rfl ?_); refine store_event (t := 29) (p := 3) (v := ?vo_w30) (w1 := (((w27.setCell ⟨gb297, 0, none⟩ (.slice Ao28 t309.length co28)).setCell ⟨gb297, 1, none⟩ (.int .i64 t312)).setCell ⟨gb297, 2, none⟩ (.int .i64 t313))) ?hg ?ho ?hn ?hr ?_; (case ho => rfl); (case hg => rfl); (case hn => rfl); (case hr => exact zHH); intro w30 hw; have n0_ : Aside0 (Kd.R (Kd.int .i64) 3 w30 w0.heap.size (fun k_ => (P0_ k_ ∨ w.heap.size ≤ k_) ∧ some k_ ≠ (.slice Ao28 t309.length co28 : Value).ownBlock) (.slice (some ad299) l0.length co17) l0) := ⟨(by rw [hw]; exact (by refine zrR ?_; exact Kd.R_mono (zfR (zfR (zfR (Kd.R_types HO0.1 BK297.1 (by decide))))) (fun _ hk => ⟨hk.1.1, hk.1.2⟩)))⟩; have n1_ : Aside0 (Kd.R (Kd.int .i64) 3 w30 w0.heap.size (fun k_ => (P0_ k_ ∨ w.heap.size ≤ k_) ∧ some k_ ≠ (.slice (some ad299) l0.length co17 : Value).ownBlock) (.slice Ao28 t309.length co28) t309) := ⟨(by rw [hw]; exact (by refine zrR ?_; exact Kd.R_mono (zfR (zfR (zfR (Kd.R_types HO311.1 BK297.1 (by decide))))) (fun _ hk => ⟨hk.1.1.1, hk.1.2⟩)))⟩; have n2_ : Aside0 (w30.heap[gb297]? = some (.cells #[.slice Ao28 t309.length co28, .int .i64 t312, .int .i64 t313] 29 (0, 0))) := ⟨(by rw [hw]; exact (by exact zp3 (zK BK297.1)))⟩; have n3_ : Aside0 (w30.heap[gb298]? = some (.cells #[.slice none 0 0, .int .i64 0, .int .i64 0] 29 (0, 0))) := ⟨(by rw [hw]; exact zPq)⟩; have n4_ : Aside0 (w30.heap[gb306]? = some (.cells #[.int .i64 t300, .int .i64 t301, .int .i64 t302, .int .i64 t303, .int .i64 t304] 59 (0, 0))) := ⟨(by rw [hw]; exact zPq)⟩; have n5_ : Aside0 (Kept w w30 (fun k_ => P0_ k_)) := ⟨(by rw [hw]; exact zB40)⟩; have n6_ : Aside0 (Below w0.heap.size w0 w30) := ⟨(by rw [hw]; exact zB0)⟩; clear hw; clear HO0; clear HO311; clear BK297; clear BK298; clear BK306; clear HK; clear HB; have HO0 := n0_; have HO311 := n1_; have BK297 := n2_; have BK298 := n3_; have BK306 := n4_; have HK := n5_; have HB := n6_; clear n0_ n1_ n2_ n3_ n4_ n5_ n6_; have p12 : 0 ≤ (t307 : Int) := zA; have q12 : (t307 : Int) < ((l0.length : Int) : Int) := zA; obtain ⟨go12, co12, eo12, gb12, gl12, cl12, HG12⟩ := Kd.R_form HO0.1 (by omega); (first | cases eo12 | (injection eo12 with ea_ en_ ec_; (first | subst ea_ | (injection ea_ with ea_; subst ea_)); subst ec_; clear en_)); have GB12 := zM gb12; have GG12 := zM HG12; clear gb12 gl12 HG12; have HMgo12 := zM (show (P0_ go12 ∨ w.heap.size ≤ go12) from (HO0.1.1 _ rfl).1); (first | simp only [add_plain] at hx299_0 | skip); (first | simp only [add_plain] at hx308_0 | skip); obtain ⟨hx12_0, hf12_0⟩ := Kd.R_celln 0 HO0.1 (t307 : Int) p12 q12; replace p12 := eq_true p12; replace q12 := eq_true q12; obtain ⟨hy31_, hz31_⟩ := Kd.R_celln 0 HO0.1 (t307 : Int) zA zA; have HP31 := Kd.R_putg HO0.1 (t307 : Int) t314) | ((with_reducible refine gate_store (t := 3) (p := 41) rfl ?_); refine store_event (t := 3) (p := 41) (v := ?vo_w32) (w1 := (w30.setCell ⟨go12, (t307 : Int).toNat, none⟩ (.int .i64 t314))) ?hg ?ho ?hn ?hr ?_; (case ho => rfl); (case hg => rfl); (case hn => rfl); (case hr => exact zHH); intro w32 hw; have hg : w30.grownBy w32 (some go12) := (by rw [hw]; exact HP31.2); have hp_ : Kd.R (Kd.int .i64) 3 w32 w0.heap.size (fun k_ => (P0_ k_ ∨ w.heap.size ≤ k_) ∧ some k_ ≠ (.slice Ao28 t309.length co28 : Value).ownBlock) (.slice (some ⟨go12, 0, none⟩) l0.length co17) y315 := (by rw [hw, Ny315.1]; exact HP31.1); clear HP31; replace BK297 := zM (zg BK297.1 hg (Kd.R_ne HO0.1 BK297.1 (by decide))); replace BK298 := zM (zg BK298.1 hg (Kd.R_ne HO0.1 BK298.1 (by decide))); replace BK306 := zM (zg BK306.1 hg (Kd.R_ne HO0.1 BK306.1 (by decide))); replace HO311 := zM (Kd.R_after (v := (.slice (some ⟨go12, 0, none⟩) l0.length co17)) (v1 := (.slice (some ⟨go12, 0, none⟩) l0.length co17)) (ok := (fun k_ => (P0_ k_ ∨ w.heap.size ≤ k_))) (zR HO311.1) hg (.inl rfl)); replace HB := zM ((by rw [hw]; exact below_set (HB.1) GB12.1 : Below w0.heap.size w0 w32)); replace HK := zM (Kept.of_grown (S := (fun k_ => P0_ k_)) hg zB40 (fun k_ e_ => (HO0.1.1 k_ e_).1)); replace HO0 := zM hp_; clear hg hw hp_; have hcz33 := zc_3 (w := w32) BK297.1; have hcz34 := zc_3 (w := w32) BK298.1))
 refine bodyPost_ret (results_cell_row rfl _ _ gb298 29 #[.slice Ao28 t309.length co28, .int .i64 t312, .int .i64 t313] (0, 0) _ rfl (by exact zp3 (zK BK298.1)) Try.underlying29 rfl (by kernel_rfl)) rfl ?_
 exact ⟨_, zE, by refine zrR ?_; exact Kd.R_mono (zfR (zfR (zfR (Kd.R_types HO311.1 BK298.1 (by decide))))) (fun _ hk => ⟨hk.1.1, hk.1.2⟩), by refine zrR ?_; exact Kd.R_mono (zfR (zfR (zfR (Kd.R_types HO0.1 BK298.1 (by decide))))) (fun _ hk => hk.1.1), zB0, zB40⟩

/-! ### impl_twoBytes: function 127 -/
def impl_twoBytes.l0 : Nat → List Int → List Int → Int → Int → Option (List Int)
 | 0, _, _, _, _ => none
 | k + 1, x3, x7, x8, x9 => if x9 < x8 then (if 0 ≤ x9 then (if x9 < (x7.length : Int) then ((some (([((rd x7 x9) / 256) % 256, (rd x7 x9) % 256] : List Int) : List Int)).bind fun y327 => (if x3.length + y327.length < 140737488355328 then (impl_twoBytes.l0 k (x3 ++ y327) x7 x8 (wrap64 (x9 + 1))) else (none))) else (none)) else (none)) else (some x3)
def impl_twoBytes.f (k : Nat) (l0 : List Int) : Option (List Int) := impl_twoBytes.l0 k (([] : List Int)) l0 (l0.length : Int) 0
theorem impl_twoBytes.mono_l : ∀ k, (∀ y0 y1 y2 y3, LeO (impl_twoBytes.l0 k y0 y1 y2 y3) (impl_twoBytes.l0 (k + 1) y0 y1 y2 y3))
 | 0 => fun _ _ _ _ r h => by simp [impl_twoBytes.l0] at h
 | k + 1 => by
  have ih0 := impl_twoBytes.mono_l k
  ·intros
   unfold impl_twoBytes.l0
   exact zL
theorem impl_twoBytes.mono : ∀ a0 k, LeO (impl_twoBytes.f k a0) (impl_twoBytes.f (k + 1) a0) := by
 intro a0 k
 have ih0 := impl_twoBytes.mono_l k
 unfold impl_twoBytes.f
 exact zL
theorem impl_twoBytes.calls (k : Nat) (A0 : Option Addr) (c0 : Nat) (l0 : List Int) (r : List Int) (w : World) (hr0 : Kd.C (Kd.int .i64) w A0 l0.length l0) (hc0 : l0.length ≤ c0) (h : impl_twoBytes.f k l0 = some r) :
  Calls Try.prog 127 #[.slice A0 l0.length c0] w fun e w' => ∃ v0_ : Value, e = .returned (v0_) ∧ Kd.R (Kd.int .u8) 5 w' w.heap.size (fun _ => True) v0_ r ∧ Below w.heap.size w w' := by
 have HR0 := zM hr0
 have HC0 := zM hc0
 clear hr0 hc0
 have HB := zM (Below.refl w.heap.size w)
 unfold impl_twoBytes.f at h
 have H := h
 clear h
 generalize hy323 : ((([] : List Int)) : List Int) = y323 at H
 have Ny323 := zM hy323.symm
 clear hy323
 have H' := zM H
 clear H
 go_enter Try.func127, Try.ntmps127
 go_wp2_with (first | ((with_reducible refine gate_dst (N := 6) rfl ?_); refine Kd.R_lit (Kd.int .u8) _ 5 ?hg (N := 6) ?hd (xs := ([] : List Int)) (inner := []) (ok := fun _ => True) (okp := fun _ => True) ?hr ?hp (fun _ hk => hk) trivial (Below.refl _ _) (Nat.le_refl _) (by simp) ?_; (case hd => rfl); (case hg => rfl); (case hr => exact zHH); (case hp => exact (Reps.none _ _)); intro v324 w2 ho3 hb hg_ hnew_; clear hg_ hnew_; (first | rw [← Ny323.1] at ho3 | (simp only [Int.reduceToNat] at ho3; rw [← Ny323.1] at ho3)); have HO325 := zM (Kd.R_lower ho3 (below_size zB0)); replace HB := zM (below_step zB0 hb); clear hb ho3))
 go_loopg [3, 9] k (fun kq v3 v9 w' => ∃ (x3_1 : List Int) (x9_1 : Int), v9 = .int .i64 x9_1 ∧ Aside0 (impl_twoBytes.l0 kq x3_1 l0 (l0.length : Int) x9_1 = some r) ∧ Aside0 (kq ≤ k) ∧ Aside0 (Kd.R (Kd.int .u8) 5 w' w.heap.size (fun _ => True) v3 x3_1) ∧ Aside0 (Below w.heap.size w w'))
 case atStart => exact ⟨(y323), (0), zJJ, H', ⟨Nat.le_refl _⟩, ⟨zR HO325.1⟩, ⟨zB0⟩⟩
 case round =>
  clear H'
  obtain ⟨x3_1, x9_1, rfl, HA, HK1, HO_3, HB⟩ := hrel
  cases gk with
  | zero => exact absurd HA.1 (by simp [impl_twoBytes.l0])
  | succ k1 =>
   have H := HA.1
   clear HA
   simp only [impl_twoBytes.l0] at H
   by_cases c4 : x9_1 < (l0.length : Int)
   rotate_left
   ·rw [if_neg c4] at H
    have c4b0 := decide_eq_false c4
    clear c4
    obtain rfl := Option.some.inj H
    go_wp2
    go_ret
    exact ⟨_, zE, zR HO_3.1, zB0⟩
   rw [if_pos c4] at H
   have c4b0 := decide_eq_true c4
   clear c4
   replace H := zIt H
   obtain ⟨c5b0, H⟩ := H
   replace H := zIt H
   obtain ⟨c6b0, H⟩ := H
   replace H := zY H
   obtain ⟨y327, Ny327, H⟩ := H
   replace H := zIn H
   obtain ⟨LMc7, H⟩ := H
   generalize hy330 : ((x3_1 ++ y327) : List Int) = y330 at H
   have Ny330 := zM hy330.symm
   clear hy330
   have H' := zM H
   clear H
   obtain ⟨p326, q326, ad326, e326, hx326_0⟩ := zRd (Kd.at_int HR0.1 x9_1)
   cases e326
   replace hx326_0 := zHx HB.1 hx326_0
   go_wp2_with (first | ((with_reducible refine gate_dst (N := 19) rfl ?_); refine Kd.R_lit (Kd.int .u8) _ 5 ?hg (N := 19) ?hd (xs := ([((rd l0 x9_1) / 256) % 256, (rd l0 x9_1) % 256] : List Int)) (inner := [.int .u8 (((rd l0 x9_1) / 256) % 256), .int .u8 ((rd l0 x9_1) % 256)]) (ok := fun _ => True) (okp := fun _ => True) ?hr ?hp (fun _ hk => hk) trivial (Below.refl _ _) (Nat.le_refl _) (by simp) ?_; (case hd => rfl); (case hg => rfl); (case hr => exact zHH); (case hp => exact (Reps.one (show Kd.M (Kd.int .u8) _ _ _ (((rd l0 x9_1) / 256) % 256) [.int .u8 (((rd l0 x9_1) / 256) % 256)] from rfl) (Reps.one (show Kd.M (Kd.int .u8) _ _ _ ((rd l0 x9_1) % 256) [.int .u8 ((rd l0 x9_1) % 256)] from rfl) (Reps.none _ _)))); intro v328 w8 ho9 hb hg_ hnew_; clear hg_ hnew_; (first | rw [← Ny327.1] at ho9 | (simp only [Int.reduceToNat] at ho9; rw [← Ny327.1] at ho9)); have HO329 := zM (Kd.R_lower (Kd.R_new' ho9 (Kd.R_lt (zR HO_3.1))) (below_size zB0)); replace HO_3 := zM (Kd.R_elder' (zR HO_3.1) (Kd.R_base ho9) hb); replace HB := zM (below_step zB0 hb); clear hb ho9; obtain ⟨Ao11, co11, eo11⟩ := Kd.R_slice HO329.1; subst eo11) | ((with_reducible refine gate_builtin (b := .append) (xs := #[.tmp 13, .tmp 19]) rfl ?_); at_builtin; refine Kd.R_append_rows (Kd.int .u8) (w0 := w) w.heap.size rfl (.tmp 13) (.tmp 19) 22 5 (.int .u8 0) 1 rfl Try.underlying22 info5 rfl (by decide) (by omega) u3 x3_1 y327 _ _ _ (fun k_ => some k_ ≠ (.slice Ao11 y327.length co11 : Value).ownBlock) (fun _ => False) rfl rfl ?aO ?aR (fun _ _ h => h) (fun _ h => h.elim) ?aF ?aB ?aS ?aL ?_; (case aR => exact zC (Kd.R_reads' HO329.1).2.2); (case aB => exact zB0); (case aF => exact (fun k_ hk => Kd.fresh' (Kd.R_lt (zR HO329.1)) k_ hk)); (case aO => exact (by refine zrR ?_; exact Kd.R_mono HO_3.1 (fun _ hk => hk.2))); (case aS => exact (below_size zB0)); (case aL => have := LMc7.out; omega); intro v331 w10 ho hb hg hat; rw [← Ny330.1] at ho; replace HO329 := zM (Kd.R_after (ok := (fun _ => True)) (zR HO329.1) hg hat); replace HB := zM hb; have HO332 := zM ho; clear HO_3; clear ho hb hg hat))
   go_roundg k1
   case measure => have := HK1.1; omega
   case rel => exact ⟨(y330), (wrap64 (x9_1 + 1)), zJJ, H', ⟨by have := HK1.1; omega⟩, ⟨by refine zrR ?_; exact Kd.R_mono HO332.1 (fun _ hk => trivial)⟩, ⟨zB0⟩⟩

/-! ### impl_MemBytes: function 108 -/
def impl_MemBytes.f (k : Nat) (l0 : List Int) : Option (List Int) := (impl_memOk.f k l0).bind fun t333 => (if t333 = true then ((impl_twoBytes.f k l0).bind fun t334 => (some t334)) else (some ([] : List Int)))
theorem impl_MemBytes.mono : ∀ a0 k, LeO (impl_MemBytes.f k a0) (impl_MemBytes.f (k + 1) a0) := by
 intro a0 k
 unfold impl_MemBytes.f
 have mo0 := @impl_memOk.mono
 have mo1 := @impl_twoBytes.mono
 exact zL
theorem impl_MemBytes.calls (k : Nat) (A0 : Option Addr) (c0 : Nat) (l0 : List Int) (r : List Int) (w : World) (hr0 : Kd.C (Kd.int .i64) w A0 l0.length l0) (hc0 : l0.length ≤ c0) (h : impl_MemBytes.f k l0 = some r) :
  Calls Try.prog 108 #[.slice A0 l0.length c0] w fun e w' => ∃ v0_ : Value, e = .returned (v0_) ∧ Kd.R (Kd.int .u8) 5 w' w.heap.size (fun _ => True) v0_ r ∧ Below w.heap.size w w' := by
 have HR0 := zM hr0
 have HC0 := zM hc0
 clear hr0 hc0
 have HB := zM (Below.refl w.heap.size w)
 unfold impl_MemBytes.f at h
 have H := h
 clear h
 replace H := zO H
 obtain ⟨t333, A2, H⟩ := H
 by_cases c3 : t333 = true
 rotate_left
 ·replace c3 := Bool.eq_false_iff.mpr c3
  subst c3
  rw [if_neg zF] at H
  obtain rfl := Option.some.inj H
  go_enter Try.func108, Try.ntmps108
  go_wp2_with (first | ((with_reducible refine zG Try.func42 4 #[.slice A0 l0.length c0] ?_); (with_reducible refine (impl_memOk.calls k _ _ l0 false _ ?side1 ?side2 A2.1).mono ?_); (case side1 => exact zC HR0.1); (case side2 => exact HC0.1); rintro e w' ⟨rfl, ⟨nd, rfl⟩⟩; refine ⟨_, rfl, ?_⟩))
  go_ret
  exact ⟨_, zE, by first | exact Kd.R_nil _ _ _ _ _ | exact Kd.N_nil _ _ _ _ _ | exact Kd.V_nil _ _ _ _ _ | exact Kd.Q_nil _ _ _ _ _ | exact Kd.S_nil _ _ _ _ _, zB0⟩
 subst c3
 rw [if_pos rfl] at H
 replace H := zO H
 obtain ⟨t334, A4, H⟩ := H
 obtain rfl := Option.some.inj H
 go_enter Try.func108, Try.ntmps108
 go_wp2_with (first | ((with_reducible refine zG Try.func42 4 #[.slice A0 l0.length c0] ?_); (with_reducible refine (impl_memOk.calls k _ _ l0 true _ ?side1 ?side2 A2.1).mono ?_); (case side1 => exact zC HR0.1); (case side2 => exact HC0.1); rintro e w' ⟨rfl, ⟨nd, rfl⟩⟩; refine ⟨_, rfl, ?_⟩) | ((with_reducible refine zG Try.func127 7 #[.slice A0 l0.length c0] ?_); (with_reducible refine (impl_twoBytes.calls k _ _ l0 t334 _ ?side1 ?side2 A4.1).mono ?_); (case side1 => exact zC HR0.1); (case side2 => exact HC0.1); rintro e w5 ⟨v335, rfl, ho0, hb⟩; refine ⟨_, rfl, ?_⟩; have HO336 := zM (Kd.R_lower ho0 (below_size zB0)); replace HB := zM (below_step zB0 hb); clear hb ho0))
 go_ret
 exact ⟨_, zE, zR HO336.1, zB0⟩

/-! ### impl_HartBytes: function 109 -/
def impl_HartBytes.f (k : Nat) (l0_0 : List Int) (a0_1 : Int) (a0_2 : Int) : Option (List Int) := (impl_HartOk.f k l0_0 a0_1 a0_2).bind fun t338 => (if t338 = true then ((impl_twoBytes.f k l0_0).bind fun t339 => ((some (([(a0_1) % 256, (a0_2) % 256] : List Int) : List Int)).bind fun y342 => (if t339.length + y342.length < 140737488355328 then (some (t339 ++ y342)) else (none)))) else (some ([] : List Int)))
theorem impl_HartBytes.mono : ∀ a0 a1 a2 k, LeO (impl_HartBytes.f k a0 a1 a2) (impl_HartBytes.f (k + 1) a0 a1 a2) := by
 intro a0 a1 a2 k
 unfold impl_HartBytes.f
 have mo0 := @impl_HartOk.mono
 have mo1 := @impl_twoBytes.mono
 exact zL
def impl_HartBytes.T3 : Bool × List (List Nat × List Nat) := (true, [([], []), ([0], [0]), ([1], [1]), ([], []), ([3], [3]), ([4], [4]), ([], []), ([6], [6]), ([7], [7]), ([5, 8], [5, 8]), ([2, 9, 2], [2, 9]), ([10, 10, 0, 1, 2, 3, 4, 5, 6, 7, 8, 9, 10], [10])])
def impl_HartBytes.B3 : List Nat := [0, 1, 3, 0, 8, 24, 0, 64, 192, 504, 1023, 2047]
theorem impl_HartBytes.tab3 : rtab .any (opsOf Try.f109 3) = impl_HartBytes.T3 := by kernel_rfl
theorem impl_HartBytes.bits3 : waitsOk impl_HartBytes.T3.2 impl_HartBytes.B3 = true := by kernel_rfl
theorem impl_HartBytes.calls (k : Nat) (A0_0 : Option Addr) (c0_0 : Nat) (l0_0 : List Int) (a0_1 : Int) (a0_2 : Int) (r : List Int) (w : World) (hr0_0 : Kd.C (Kd.int .i64) w A0_0 l0_0.length l0_0) (hc0_0 : l0_0.length ≤ c0_0) (h : impl_HartBytes.f k l0_0 a0_1 a0_2 = some r) :
  Calls Try.prog 109 #[.agg #[.slice A0_0 l0_0.length c0_0, .int .i64 a0_1, .int .i64 a0_2]] w fun e w' => ∃ v0_ : Value, e = .returned (v0_) ∧ Kd.R (Kd.int .u8) 5 w' w.heap.size (fun _ => True) v0_ r ∧ Below w.heap.size w w' := by
 have hu29 := Try.underlying29
 have HR0_0 := zM hr0_0
 have HC0_0 := zM hc0_0
 clear hr0_0 hc0_0
 have HB := zM (Below.refl w.heap.size w)
 unfold impl_HartBytes.f at h
 have H := h
 clear h
 replace H := zO H
 obtain ⟨t338, A2, H⟩ := H
 by_cases c3 : t338 = true
 rotate_left
 ·replace c3 := Bool.eq_false_iff.mpr c3
  subst c3
  rw [if_neg zF] at H
  obtain rfl := Option.some.inj H
  go_enter Try.func109, Try.ntmps109
  go_wp2_with (first | ((with_reducible refine zBx 1 29 #[.slice A0_0 l0_0.length c0_0, .int .i64 a0_1, .int .i64 a0_2] ?_); intro gb337 hg w16 hbox hb; have BK337 := zM hbox; have GW337 := zM (zW hg (below_size zB0)); have GE337 := zM (zW hg (below_size zB0)); replace HB := zM (below_step zB0 hb); clear hb hbox hg; have hcz17 := zc_3 (w := w16) BK337.1) | ((with_reducible refine zG Try.func58 4 #[.agg #[.slice A0_0 l0_0.length c0_0, .int .i64 a0_1, .int .i64 a0_2]] ?_); (with_reducible refine (impl_HartOk.calls k _ _ l0_0 a0_1 a0_2 false _ ?side1 ?side2 A2.1).mono ?_); (case side1 => exact zC (Kd.C_below HR0_0.1 HB.1)); (case side2 => exact HC0_0.1); rintro e w18 ⟨rfl, hb⟩; refine ⟨_, rfl, ?_⟩; replace BK337 := zM (zb BK337.1 hb); replace HB := zM (below_step zB0 hb); clear hb))
  go_ret
  exact ⟨_, zE, by first | exact Kd.R_nil _ _ _ _ _ | exact Kd.N_nil _ _ _ _ _ | exact Kd.V_nil _ _ _ _ _ | exact Kd.Q_nil _ _ _ _ _ | exact Kd.S_nil _ _ _ _ _, zB0⟩
 subst c3
 rw [if_pos rfl] at H
 replace H := zO H
 obtain ⟨t339, A4, H⟩ := H
 replace H := zY H
 obtain ⟨y342, Ny342, H⟩ := H
 replace H := zIn H
 obtain ⟨LMc5, H⟩ := H
 generalize hy345 : ((t339 ++ y342) : List Int) = y345 at H
 have Ny345 := zM hy345.symm
 clear hy345
 obtain rfl := Option.some.inj H
 go_enter Try.func109, Try.ntmps109
 try go_wp2_with (first | ((with_reducible refine zBx 1 29 #[.slice A0_0 l0_0.length c0_0, .int .i64 a0_1, .int .i64 a0_2] ?_); intro gb337 hg w6 hbox hb; have BK337 := zM hbox; have GW337 := zM (zW hg (below_size zB0)); have GE337 := zM (zW hg (below_size zB0)); replace HB := zM (below_step zB0 hb); clear hb hbox hg; have hcz7 := zc_3 (w := w6) BK337.1) | ((with_reducible refine zG Try.func58 4 #[.agg #[.slice A0_0 l0_0.length c0_0, .int .i64 a0_1, .int .i64 a0_2]] ?_); (with_reducible refine (impl_HartOk.calls k _ _ l0_0 a0_1 a0_2 true _ ?side1 ?side2 A2.1).mono ?_); (case side1 => exact zC (Kd.C_below HR0_0.1 HB.1)); (case side2 => exact HC0_0.1); rintro e w8 ⟨rfl, hb⟩; refine ⟨_, rfl, ?_⟩; replace BK337 := zM (zb BK337.1 hb); replace HB := zM (below_step zB0 hb); clear hb))
 replace BK337 := zM (blk_drew BK337.1)
 replace HB := zM (below_drew1 HB.1)
 refine start_ (n := 12) (S := fun w' => w'.cell? ⟨gb337, 0, none⟩ = some (.slice A0_0 l0_0.length c0_0) ∧ w'.cell? ⟨gb337, 1, none⟩ = some (.int .i64 a0_1) ∧ w'.cell? ⟨gb337, 2, none⟩ = some (.int .i64 a0_2)) (ds := []) #[false, false, false, false, false, false, false, false, false, false, false, false] (by kernel_rfl) rfl rfl ⟨(blk_cell BK337.1 0).trans rfl, (blk_cell BK337.1 1).trans rfl, (blk_cell BK337.1 2).trans rfl⟩ (fun hHeld => ?_); refine with_tabW impl_HartBytes.tab3 impl_HartBytes.bits3 (fun HT_ HW_ => ?_)
 generalize w8.drew = w9 at BK337 HB hHeld ⊢
 refine zPu 0 ?_
 refine zPu 3 ?_
 refine zPu 6 ?_
 refine zTk3 1 hHeld ?_
 refine zTk3 4 hHeld ?_
 refine zPu 5 ?_
 refine zTk3 7 hHeld ?_
 refine zPu 8 ?_
 refine join_ (σ := Value × Value) 2 zq10_0 (fun s_ => [(8, s_.1), (15, s_.2)]) (fun s_ w' => (w'.cell? ⟨gb337, 0, none⟩ = some (.slice A0_0 l0_0.length c0_0) ∧ w'.cell? ⟨gb337, 1, none⟩ = some (.int .i64 a0_1) ∧ w'.cell? ⟨gb337, 2, none⟩ = some (.int .i64 a0_2)) ∧ (Kd.R (Kd.int .u8) 5 w' w.heap.size (fun k_ => some k_ ≠ (s_.2 : Value).ownBlock) s_.1 t339) ∧ (Kd.R (Kd.int .u8) 5 w' w.heap.size (fun k_ => some k_ ≠ (s_.1 : Value).ownBlock) s_.2 y342) ∧ (w'.heap[gb337]? = some (.cells #[.slice A0_0 l0_0.length c0_0, .int .i64 a0_1, .int .i64 a0_2] 29 (0, 0))) ∧ (Below w.heap.size w w')) ?_ ?_
 rotate_left
 ·intro hCont
  refine two_ (i := 2) (j := 9) (Ni := some 8) (Nj := some 15) #[true, true, true, true, true, true, true, true, true, false, false, false] #[true, true, false, true, true, true, true, true, true, true, false, false] rfl rfl rfl rfl (two_of HT_.1 (by kernel_rfl)) (by decide) (by decide) (fun K hK => ?_) (fun K hK => ?_)
  ·refine zGs Try.func127 #[.slice A0_0 l0_0.length c0_0] ?_
   with_reducible refine (impl_twoBytes.calls k _ _ l0_0 t339 _ ?side1 ?side2 A4.1).mono ?_
   (case side1 => exact zC (Kd.C_below HR0_0.1 HB.1))
   (case side2 => exact HC0_0.1)
   rintro e w10 ⟨v340, rfl, ho0, hb⟩
   refine ⟨_, rfl, ?_⟩
   have HO341 := zM (Kd.R_lower ho0 (below_size zB0))
   replace BK337 := zM (zb BK337.1 hb)
   replace HB := zM (below_step zB0 hb)
   (try clear ho0)
   refine hK.out _ _ zCs fun hHeld => ?_
   clear hK K
   refine zNo ?_
   refine zOn 9 (some 15) fun K hK => ?_
   refine Kd.R_lit_step (Kd.int .u8) _ 5 ?hg (N := 15) ?hd (xs := ([(a0_1) % 256, (a0_2) % 256] : List Int)) (inner := [.int .u8 ((a0_1) % 256), .int .u8 ((a0_2) % 256)]) (ok := fun _ => True) (okp := fun _ => True) ?hr ?hp (fun _ hk => hk) trivial (Below.refl _ _) (Nat.le_refl _) (by simp) ?_; (case hd => rfl); (case hg => rfl); (case hr => exact zHH); (case hp => exact (Reps.one (show Kd.M (Kd.int .u8) _ _ _ ((a0_1) % 256) [.int .u8 ((a0_1) % 256)] from rfl) (Reps.one (show Kd.M (Kd.int .u8) _ _ _ ((a0_2) % 256) [.int .u8 ((a0_2) % 256)] from rfl) (Reps.none _ _))))
   intro v343 w11 ho12 hb hg_ hnew_
   clear hg_ hnew_
   (first | rw [← Ny342.1] at ho12 | (simp only [Int.reduceToNat] at ho12; rw [← Ny342.1] at ho12))
   replace HO344 := zM (Kd.R_lower (Kd.R_new' ho12 (Kd.R_lt (zR HO341.1))) (below_size zB0))
   replace HO341 := zM (Kd.R_elder' (zR HO341.1) (Kd.R_base ho12) hb)
   replace BK337 := zM (zb BK337.1 hb)
   replace HB := zM (below_step zB0 hb)
   refine hK.out _ _ zCs fun hHeld => ?_
   clear hK K
   refine zNo ?_
   exact norm_ zNr (hCont (v340, v343) _ ⟨hHeld, (by refine zrR ?_; exact Kd.R_mono HO341.1 (fun _ hk => hk.2)), (by refine zrR ?_; exact Kd.R_mono HO344.1 (fun _ hk => hk.2)), (zK BK337.1), zB0⟩)
  ·refine Kd.R_lit_step (Kd.int .u8) _ 5 ?hg (N := 15) ?hd (xs := ([(a0_1) % 256, (a0_2) % 256] : List Int)) (inner := [.int .u8 ((a0_1) % 256), .int .u8 ((a0_2) % 256)]) (ok := fun _ => True) (okp := fun _ => True) ?hr ?hp (fun _ hk => hk) trivial (Below.refl _ _) (Nat.le_refl _) (by simp) ?_; (case hd => rfl); (case hg => rfl); (case hr => exact zHH); (case hp => exact (Reps.one (show Kd.M (Kd.int .u8) _ _ _ ((a0_1) % 256) [.int .u8 ((a0_1) % 256)] from rfl) (Reps.one (show Kd.M (Kd.int .u8) _ _ _ ((a0_2) % 256) [.int .u8 ((a0_2) % 256)] from rfl) (Reps.none _ _))))
   intro v343 w10 ho11 hb hg_ hnew_
   clear hg_ hnew_
   (first | rw [← Ny342.1] at ho11 | (simp only [Int.reduceToNat] at ho11; rw [← Ny342.1] at ho11))
   replace HO344 := zM (Kd.R_lower ho11 (below_size zB0))
   replace BK337 := zM (zb BK337.1 hb)
   replace HB := zM (below_step zB0 hb)
   refine hK.out _ _ zCs fun hHeld => ?_
   clear hK K
   refine zNo ?_
   refine zOn 2 (some 8) fun K hK => ?_
   refine zGs Try.func127 #[.slice A0_0 l0_0.length c0_0] ?_
   with_reducible refine (impl_twoBytes.calls k _ _ l0_0 t339 _ ?side1 ?side2 A4.1).mono ?_
   (case side1 => exact zC (Kd.C_below HR0_0.1 HB.1))
   (case side2 => exact HC0_0.1)
   rintro e w12 ⟨v340, rfl, ho0, hb⟩
   refine ⟨_, rfl, ?_⟩
   have HO341 := zM (Kd.R_lower (Kd.R_new' ho0 (Kd.R_lt (zR HO344.1))) (below_size zB0))
   replace HO344 := zM (Kd.R_elder' (zR HO344.1) (Kd.R_base ho0) hb)
   replace BK337 := zM (zb BK337.1 hb)
   replace HB := zM (below_step zB0 hb)
   (try clear ho0)
   refine hK.out _ _ zCs fun hHeld => ?_
   clear hK K
   refine zNo ?_
   exact norm_ zNr (hCont (v340, v343) _ ⟨hHeld, (by refine zrR ?_; exact Kd.R_mono HO341.1 (fun _ hk => hk.2)), (by refine zrR ?_; exact Kd.R_mono HO344.1 (fun _ hk => hk.2)), (zK BK337.1), zB0⟩)
 rintro ⟨v340, v343⟩ w13 ⟨hS_, h0_, h1_, h2_, h3_⟩
 replace HO341 := zM h0_
 replace HO344 := zM h1_
 replace BK337 := zM h2_
 replace HB := zM h3_
 have hHeld := hS_
 obtain ⟨Ao15, co15, eo15⟩ := Kd.R_slice HO344.1
 (first | subst eo15 | (injection eo15 with f1_ f2_ f3_; have f4_ := f1_.symm; have f5_ := f3_.symm; clear f1_ f2_ f3_; subst f4_; subst f5_))
 refine zNp ?_
 refine zOn 10 (some 16) fun K hK => ?_
 refine Kd.R_append_rows_step (Kd.int .u8) (w0 := w) w.heap.size (by rfl) (.tmp 8) (.tmp 15) 22 5 (.int .u8 0) 1 rfl Try.underlying22 info5 rfl (by decide) (by omega) v340 t339 y342 _ _ _ (fun k_ => some k_ ≠ (.slice Ao15 y342.length co15 : Value).ownBlock) (fun _ => False) rfl rfl ?aO ?aR (fun _ _ h => h) (fun _ h => h.elim) ?aF ?aB ?aS ?aL ?_
 (case aR => exact zC (Kd.R_reads' HO344.1).2.2)
 (case aB => exact zB0)
 (case aF => exact (fun k_ hk => Kd.fresh' (Kd.R_lt (zR HO344.1)) k_ hk))
 (case aO => exact (zR HO341.1))
 (case aS => exact (below_size zB0))
 (case aL => have := LMc5.out; omega)
 intro v346 w14 ho hb hg hat
 rw [← Ny345.1] at ho
 replace BK337 := zM (zg BK337.1 hg (Kd.R_ne HO341.1 BK337.1 (by decide)))
 replace HO344 := zM (Kd.R_after (ok := (fun _ => True)) (by refine zrR ?_; exact Kd.R_mono HO344.1 (fun _ hk => ⟨trivial, hk⟩)) hg hat)
 replace HB := zM hb
 replace HO347 := zM ho
 try clear HO341
 refine hK.out _ _ zCs fun hHeld => ?_
 clear hK K
 refine zNo ?_
 refine zPu 11 ?_
 refine done_ (done_of HT_.1 (by kernel_rfl)) ?_
 try go_wp2
 go_ret
 exact ⟨_, zE, by refine zrR ?_; exact Kd.R_mono HO347.1 (fun _ hk => trivial), zB0⟩

end Go.Proofs.Ytnjdepmlpdjghaa.PFnAllEnds
