-- made by wip/tools/myprint.py out of the seat's translation
import Derived.Test.YtnjdepmlpdjghaaPFnExactEnds2x0
import Derived.Test.YtnjdepmlpdjghaaPFnExactEnds2x7
import Derived.Test.YtnjdepmlpdjghaaPFnExactEnds2x8
import Derived.Test.YtnjdepmlpdjghaaPFnExactEnds2x9
namespace Go.Proofs.Ytnjdepmlpdjghaa.PFnExactEnds2
open Go.RowKit Go.Proofs.YtnjdepmlpdjghaaW.PrintWords Go.Proofs.YtnjdepmlpdjghaaW.PrintLast Go.Proofs.YtnjdepmlpdjghaaW.PrintMore
attribute [local go_sem] max2_int min2_int max_two min_two max_three min_three max_four min_four   -- for this text's walks alone
set_option linter.unusedVariables false
set_option linter.unusedSimpArgs false
set_option maxHeartbeats 8000000
set_option maxRecDepth 100000
abbrev zq10_0 : Array Bool := #[true, true, true, true, true, true, true, true, true, true, false, false]

/-! ### impl_step: function 65 -/
def impl_step.f (k : Nat) (l0 : List Int) (l1_0 : List Int) (a1_1 : Int) (a1_2 : Int) : Option (List Int × Int × Int × List Int) := if 0 ≤ a1_1 then (if a1_1 < (l0.length : Int) then ((impl_Decode.f (rd l0 a1_1)).bind fun bt322 => ((impl_Target.f bt322.1 bt322.2.1 bt322.2.2.1 bt322.2.2.2.1 bt322.2.2.2.2.1 l1_0).bind fun t329 => (if t329 ≥ 0 then (if 0 ≤ t329 then (if t329 < (l0.length : Int) then ((impl_Work.f k l1_0 a1_1 a1_2 bt322.1 bt322.2.1 bt322.2.2.1 bt322.2.2.2.1 bt322.2.2.2.2.1 (rd l0 t329)).bind fun bt331 => (if bt331.2.2.2 ≥ 0 then (some (bt331.1, bt331.2.1, bt331.2.2.1, (l0.set (t329 : Int).toNat bt331.2.2.2))) else (some (bt331.1, bt331.2.1, bt331.2.2.1, l0)))) else (none)) else (none)) else ((impl_Work.f k l1_0 a1_1 a1_2 bt322.1 bt322.2.1 bt322.2.2.1 bt322.2.2.2.1 bt322.2.2.2.2.1 0).bind fun bt338 => (if bt338.2.2.2 ≥ 0 then (if 0 ≤ t329 then (if t329 < (l0.length : Int) then (some (bt338.1, bt338.2.1, bt338.2.2.1, (l0.set (t329 : Int).toNat bt338.2.2.2))) else (none)) else (none)) else (some (bt338.1, bt338.2.1, bt338.2.2.1, l0))))))) else (none)) else (none)
theorem impl_step.mono : ∀ a0 a1 a2 a3 k, LeO (impl_step.f k a0 a1 a2 a3) (impl_step.f (k + 1) a0 a1 a2 a3) := by
 intro a0 a1 a2 a3 k
 unfold impl_step.f
 have mo0 := @impl_Work.mono
 exact zL
theorem impl_step.calls (k : Nat) (P0_ : Nat → Prop) (u9000_ : Value) (l0 : List Int) (A1_0 : Option Addr) (c1_0 : Nat) (l1_0 : List Int) (a1_1 : Int) (a1_2 : Int) (r1 : List Int) (r2 : Int) (r3 : Int) (r4 : List Int) (w0 w : World) (hB : Below w0.heap.size w0 w) (ho0 : Kd.R (Kd.int .i64) 3 w w0.heap.size P0_ u9000_ l0) (hr1_0 : ∀ W_, Kept w W_ (fun k_ => P0_ k_) → Kd.C (Kd.int .i64) W_ A1_0 l1_0.length l1_0) (hc1_0 : l1_0.length ≤ c1_0) (h : impl_step.f k l0 l1_0 a1_1 a1_2 = some (r1, r2, r3, r4)) :
  Calls Try.prog 65 #[u9000_, .agg #[.slice A1_0 l1_0.length c1_0, .int .i64 a1_1, .int .i64 a1_2]] w fun e w' => ∃ v0_ : Value, e = .returned (.agg #[v0_, .int .i64 r2, .int .i64 r3]) ∧ Kd.R (Kd.int .i64) 3 w' w0.heap.size (fun k_ => (P0_ k_ ∨ w.heap.size ≤ k_) ∧ some k_ ≠ (u9000_ : Value).ownBlock) v0_ r1 ∧ Kd.R (Kd.int .i64) 3 w' w0.heap.size (fun k_ => (P0_ k_ ∨ w.heap.size ≤ k_)) u9000_ r4 ∧ Below w0.heap.size w0 w' ∧ Kept w w' (fun k_ => P0_ k_) := by
 have hu29 := Try.underlying29
 have hu59 := Try.underlying59
 have HO0 := zM (show Kd.R (Kd.int .i64) 3 w w0.heap.size (fun k_ => (P0_ k_ ∨ w.heap.size ≤ k_)) u9000_ l0 from Kd.R_mono ho0 (fun k_ hk => (.inl hk)))
 have HR1_0 := zM hr1_0
 have HC1_0 := zM hc1_0
 clear hr1_0 hc1_0
 have HK := zM (Kept.refl w (fun k_ => P0_ k_))
 have HW0 := zM hB.size
 have HB := zM hB
 clear hB
 unfold impl_step.f at h
 have H := h
 clear h
 by_cases c3 : 0 ≤ a1_1
 rotate_left
 ·rw [if_neg c3] at H
  exact absurd H (by simp)
 rw [if_pos c3] at H
 have c3b0 := decide_eq_true c3
 clear c3
 by_cases c4 : a1_1 < (l0.length : Int)
 rotate_left
 ·rw [if_neg c4] at H
  exact absurd H (by simp)
 rw [if_pos c4] at H
 have c4b0 := decide_eq_true c4
 clear c4
 replace H := zO H
 obtain ⟨⟨t322, t323, t324, t325, t326, t327⟩, A5, H⟩ := H
 try dsimp only at H
 replace H := zO H
 obtain ⟨t329, A6, H⟩ := H
 by_cases c7 : t329 ≥ 0
 rotate_left
 ·rw [if_neg c7] at H
  have c7b0 := decide_eq_false c7
  clear c7
  replace H := zO H
  obtain ⟨⟨t338, t341, t342, t343⟩, A53, H⟩ := H
  try dsimp only at H
  by_cases c54 : t343 ≥ 0
  rotate_left
  ·rw [if_neg c54] at H
   have c54b0 := decide_eq_false c54
   clear c54
   simp only [Option.some.injEq, Prod.mk.injEq] at H
   obtain ⟨rfl, rfl, rfl, rfl⟩ := H
   go_enter Try.func65, Try.ntmps65
   go_wp2_with (first | ((with_reducible refine gate_dst (N := 3) rfl ?_); refine box_event ?hg (N := 3) ?hd (cs := #[.slice A1_0 l1_0.length c1_0, .int .i64 a1_1, .int .i64 a1_2]) (t := 29) ?hr ?_; (case hd => rfl); (case hg => rfl); (case hr => exact zHH); intro gb319 hg w80 hbox hb; replace HO0 := zM (Kd.R_below (zR HO0.1) hb); have BK319 := zM hbox; have GW319 := zM ((by rw [hg]; exact (by first | exact HK.1.1 | exact (show Kept w _ (fun k_ => P0_ k_) from zB39).1) : w.heap.size ≤ gb319)); replace HK := zM (Kept.below (S := (fun k_ => P0_ k_)) zB39 hb); have GE319 := zM ((by rw [hg]; exact (below_size zB0) : w0.heap.size ≤ gb319)); replace HB := zM (below_step zB0 hb); clear hb hbox hg) | ((with_reducible refine gate_dst (N := 4) rfl ?_); refine box_event ?hg (N := 4) ?hd (cs := #[.slice none 0 0, .int .i64 0, .int .i64 0]) (t := 29) ?hr ?_; (case hd => rfl); (case hg => rfl); (case hr => exact zHH); intro gb320 hg w81 hbox hb; replace HO0 := zM (Kd.R_below (zR HO0.1) hb); have BK320 := zM hbox; have GW320 := zM ((by rw [hg]; exact (by first | exact HK.1.1 | exact (show Kept w _ (fun k_ => P0_ k_) from zB40).1) : w.heap.size ≤ gb320)); replace HK := zM (Kept.below (S := (fun k_ => P0_ k_)) zB40 hb); have GE320 := zM ((by rw [hg]; exact (below_size zB41) : w0.heap.size ≤ gb320)); replace HB := zM (below_step zB41 hb); have NB319_320 := zM ((zn BK319.1 hg : gb319 ≠ gb320)); have NB320_319 := zM ((zm BK319.1 hg : gb320 ≠ gb319)); replace BK319 := zM (zb BK319.1 hb); clear hb hbox hg; have hnb82 := NB319_320.1; have hnc82 := NB320_319.1; have hcz83 := zc_3 (w := w81) BK319.1; obtain ⟨Ao84, co84, eo84⟩ := Kd.R_slice HO0.1; subst eo84; have p321 : 0 ≤ (a1_1 : Int) := zA; have q321 : a1_1 < (l0.length : Int) := zA; obtain ⟨ad321, e321, hx321_0⟩ := Kd.at_int (Kd.R_reads' HO0.1).2.2 a1_1 p321 q321; cases e321; replace p321 := eq_true p321; replace q321 := eq_true q321) | ((with_reducible refine gate_callee (f := 87) rfl ?_); refine goesL_ (some 16) rfl rfl Try.func87 (by kernel_rfl) rfl #[.int .i64 (rd l0 a1_1)] rfl zT ?_; (with_reducible refine (impl_Decode.calls (rd l0 a1_1) t322 t323 t324 t325 t326 t327 _ A5.1).mono ?_); rintro e w85 ⟨rfl, hb⟩; refine ⟨_, rfl, ?_⟩; replace HO0 := zM (Kd.R_below (zR HO0.1) hb); replace BK319 := zM (zb BK319.1 hb); replace BK320 := zM (zb BK320.1 hb); replace HK := zM (Kept.below (S := (fun k_ => P0_ k_)) zB42 hb); replace HB := zM (below_step zB43 hb); clear hb) | ((with_reducible refine gate_dst (N := 5) rfl ?_); refine box_event ?hg (N := 5) ?hd (cs := #[.int .i64 0, .int .i64 0, .int .i64 0, .int .i64 0, .int .i64 0]) (t := 59) ?hr ?_; (case hd => rfl); (case hg => rfl); (case hr => exact zHH); intro gb328 hg w86 hbox hb; replace HO0 := zM (Kd.R_below (zR HO0.1) hb); have BK328 := zM hbox; have GW328 := zM ((by rw [hg]; exact (by first | exact HK.1.1 | exact (show Kept w _ (fun k_ => P0_ k_) from zB42).1) : w.heap.size ≤ gb328)); replace HK := zM (Kept.below (S := (fun k_ => P0_ k_)) zB42 hb); have GE328 := zM ((by rw [hg]; exact (below_size zB43) : w0.heap.size ≤ gb328)); replace HB := zM (below_step zB43 hb); have NB319_328 := zM ((zn BK319.1 hg : gb319 ≠ gb328)); have NB328_319 := zM ((zm BK319.1 hg : gb328 ≠ gb319)); replace BK319 := zM (zb BK319.1 hb); have NB320_328 := zM ((zn BK320.1 hg : gb320 ≠ gb328)); have NB328_320 := zM ((zm BK320.1 hg : gb328 ≠ gb320)); replace BK320 := zM (zb BK320.1 hb); clear hb hbox hg; have hnb87 := NB328_319.1; have hnc87 := NB319_328.1; have hnb88 := NB328_320.1; have hnc88 := NB320_328.1; have hcz89 := zc_5 (w := w86) BK328.1; have hcz90 := zc_3 (w := w86) BK319.1) | ((with_reducible refine gate_callee (f := 88) rfl ?_); refine goesL_ (some 22) rfl rfl Try.func88 (by kernel_rfl) rfl #[.agg #[.int .i64 t322, .int .i64 t323, .int .i64 t324, .int .i64 t325, .int .i64 t326], .slice A1_0 l1_0.length c1_0] rfl zT ?_; (with_reducible refine (impl_Target.calls t322 t323 t324 t325 t326 _ _ l1_0 t329 _ ?side1 ?side2 A6.1).mono ?_); (case side1 => exact Kd.C_kept_now HR1_0.1 zB44); (case side2 => exact HC1_0.1); rintro e w91 ⟨rfl, hb⟩; refine ⟨_, rfl, ?_⟩; replace HO0 := zM (Kd.R_below (by refine zrR ?_; exact (Kd.R_mono (Kd.R_far (p := ⟨gb328, 4, none⟩) (Kd.R_far (p := ⟨gb328, 3, none⟩) (Kd.R_far (p := ⟨gb328, 2, none⟩) (Kd.R_far (p := ⟨gb328, 1, none⟩) (Kd.R_far (p := ⟨gb328, 0, none⟩) (Kd.R_types HO0.1 BK328.1 (by decide)) (fun _ hk => hk.2) (.int .i64 t322)) (fun _ hk => hk.2) (.int .i64 t323)) (fun _ hk => hk.2) (.int .i64 t324)) (fun _ hk => hk.2) (.int .i64 t325)) (fun _ hk => hk.2) (.int .i64 t326)) (fun _ h_ => h_.1))) hb); replace BK319 := zM (zf BK319.1 hb); replace BK320 := zM (zf BK320.1 hb); replace BK328 := zM (blk_below (g := gb328) (o := .cells #[.int .i64 t322, .int .i64 t323, .int .i64 t324, .int .i64 t325, .int .i64 t326] 59 (0, 0)) (by exact zp5 (zK BK328.1)) hb); replace HK := zM (Kept.below (S := (fun k_ => P0_ k_)) zB44 hb); replace HB := zM (below_step zB45 hb); clear hb; have hcz92 := zc_3 (w := w91) BK319.1; have hcz93 := zc_5 (w := w91) BK328.1) | ((with_reducible refine gate_callee (f := 89) rfl ?_); refine goesL_ (some 33) rfl rfl Try.func89 (by kernel_rfl) rfl #[.agg #[.slice A1_0 l1_0.length c1_0, .int .i64 a1_1, .int .i64 a1_2], .agg #[.int .i64 t322, .int .i64 t323, .int .i64 t324, .int .i64 t325, .int .i64 t326], .int .i64 0] rfl zT ?_; (with_reducible refine (impl_Work.calls k _ _ l1_0 a1_1 a1_2 t322 t323 t324 t325 t326 0 t338 t341 t342 t343 _ ?side1 ?side2 A53.1).mono ?_); (case side1 => exact Kd.C_kept_now HR1_0.1 zB44); (case side2 => exact HC1_0.1); rintro e w94 ⟨v339, rfl, ho0, hb⟩; refine ⟨_, rfl, ?_⟩; have HO340 := zM (Kd.R_lower (Kd.R_new' (Kd.R_newM (M := fun k_ => (P0_ k_ ∨ w.heap.size ≤ k_)) ho0 (by first | exact HK.1.1 | exact (show Kept w _ (fun k_ => P0_ k_) from zB44).1) (fun k_ h_ => .inr h_)) (Kd.R_lt (zR HO0.1))) (below_size zB45)); replace HO0 := zM (Kd.R_elder' (zR HO0.1) (Kd.R_base ho0) hb); replace BK319 := zM (zb BK319.1 hb); replace BK320 := zM (zb BK320.1 hb); replace BK328 := zM (zb BK328.1 hb); replace HK := zM (Kept.below (S := (fun k_ => P0_ k_)) zB44 hb); replace HB := zM (below_step zB45 hb); clear hb ho0; obtain ⟨Ao95, co95, eo95⟩ := Kd.R_slice HO340.1; subst eo95; have hcz96 := zc_3 (w := w94) BK319.1; have hcz97 := zc_3 (w := w94) BK320.1))
   refine bodyPost_ret (results_cell_row rfl _ _ gb320 29 #[.slice Ao95 t338.length co95, .int .i64 t341, .int .i64 t342] (0, 0) _ rfl (by refine zP ?_; refine blk_put (cs := #[.slice Ao95 t338.length co95, .int .i64 t341, .int .i64 0]) ?_ 2 _ rfl; refine zP ?_; refine blk_put (cs := #[.slice Ao95 t338.length co95, .int .i64 0, .int .i64 0]) ?_ 1 _ rfl; refine zP ?_; refine blk_put (cs := #[.slice none 0 0, .int .i64 0, .int .i64 0]) ?_ 0 _ rfl; refine zP ?_; refine blk_far ?_ NB320_319.1 _; refine zP ?_; refine blk_far ?_ NB320_319.1 _; refine zP ?_; refine blk_far ?_ NB320_319.1 _; refine zP ?_; exact BK320.1) Try.underlying29 rfl (by kernel_rfl)) rfl ?_
   exact ⟨_, zE, by refine zrR ?_; exact Kd.R_mono (Kd.R_far (p := ⟨gb320, 2, none⟩) (Kd.R_far (p := ⟨gb320, 1, none⟩) (Kd.R_far (p := ⟨gb320, 0, none⟩) (Kd.R_far (p := ⟨gb319, 2, none⟩) (Kd.R_far (p := ⟨gb319, 1, none⟩) (Kd.R_far (p := ⟨gb319, 0, none⟩) (Kd.R_types (Kd.R_types HO340.1 BK319.1 (by decide)) BK320.1 (by decide)) (fun _ hk => hk.1.2) (.slice Ao95 t338.length co95)) (fun _ hk => hk.1.2) (.int .i64 t341)) (fun _ hk => hk.1.2) (.int .i64 t342)) (fun _ hk => hk.2) (.slice Ao95 t338.length co95)) (fun _ hk => hk.2) (.int .i64 t341)) (fun _ hk => hk.2) (.int .i64 t342)) (fun _ hk => ⟨hk.1.1.1.1, hk.1.1.2⟩), by refine zrR ?_; exact Kd.R_mono (Kd.R_far (p := ⟨gb320, 2, none⟩) (Kd.R_far (p := ⟨gb320, 1, none⟩) (Kd.R_far (p := ⟨gb320, 0, none⟩) (Kd.R_far (p := ⟨gb319, 2, none⟩) (Kd.R_far (p := ⟨gb319, 1, none⟩) (Kd.R_far (p := ⟨gb319, 0, none⟩) (Kd.R_types (Kd.R_types HO0.1 BK319.1 (by decide)) BK320.1 (by decide)) (fun _ hk => hk.1.2) (.slice Ao95 t338.length co95)) (fun _ hk => hk.1.2) (.int .i64 t341)) (fun _ hk => hk.1.2) (.int .i64 t342)) (fun _ hk => hk.2) (.slice Ao95 t338.length co95)) (fun _ hk => hk.2) (.int .i64 t341)) (fun _ hk => hk.2) (.int .i64 t342)) (fun _ hk => hk.1.1.1), zB45, zB44⟩
  rw [if_pos c54] at H
  have c54b0 := decide_eq_true c54
  clear c54
  by_cases c55 : 0 ≤ t329
  rotate_left
  ·rw [if_neg c55] at H
   exact absurd H (by simp)
  rw [if_pos c55] at H
  have c55b0 := decide_eq_true c55
  clear c55
  by_cases c56 : t329 < (l0.length : Int)
  rotate_left
  ·rw [if_neg c56] at H
   exact absurd H (by simp)
  rw [if_pos c56] at H
  have c56b0 := decide_eq_true c56
  clear c56
  obtain ⟨y344, hy344⟩ : ∃ y_ : List Int, y_ = (l0.set (t329 : Int).toNat t343) := ⟨_, rfl⟩
  replace H : (some (t338, t341, t342, y344)) = some (r1, r2, r3, r4) := by first | (rw [hy344]; with_reducible exact H) | (have H2_ := (Option.bind_some _ _).symm.trans H; rw [hy344]; with_reducible exact H2_) | (have H2_ := (Option.bind_some _ _).symm.trans H; with_reducible exact H2_) | with_reducible exact H | (rw [hy344]; exact H) | exact H
  have Ny344 := zM hy344
  clear hy344
  simp only [Option.some.injEq, Prod.mk.injEq] at H
  obtain ⟨rfl, rfl, rfl, rfl⟩ := H
  go_enter Try.func65, Try.ntmps65
  go_wp2_with (first | ((with_reducible refine gate_dst (N := 3) rfl ?_); refine box_event ?hg (N := 3) ?hd (cs := #[.slice A1_0 l1_0.length c1_0, .int .i64 a1_1, .int .i64 a1_2]) (t := 29) ?hr ?_; (case hd => rfl); (case hg => rfl); (case hr => exact zHH); intro gb319 hg w58 hbox hb; replace HO0 := zM (Kd.R_below (zR HO0.1) hb); have BK319 := zM hbox; have GW319 := zM ((by rw [hg]; exact (by first | exact HK.1.1 | exact (show Kept w _ (fun k_ => P0_ k_) from zB39).1) : w.heap.size ≤ gb319)); replace HK := zM (Kept.below (S := (fun k_ => P0_ k_)) zB39 hb); have GE319 := zM ((by rw [hg]; exact (below_size zB0) : w0.heap.size ≤ gb319)); replace HB := zM (below_step zB0 hb); clear hb hbox hg) | ((with_reducible refine gate_dst (N := 4) rfl ?_); refine box_event ?hg (N := 4) ?hd (cs := #[.slice none 0 0, .int .i64 0, .int .i64 0]) (t := 29) ?hr ?_; (case hd => rfl); (case hg => rfl); (case hr => exact zHH); intro gb320 hg w59 hbox hb; replace HO0 := zM (Kd.R_below (zR HO0.1) hb); have BK320 := zM hbox; have GW320 := zM ((by rw [hg]; exact (by first | exact HK.1.1 | exact (show Kept w _ (fun k_ => P0_ k_) from zB40).1) : w.heap.size ≤ gb320)); replace HK := zM (Kept.below (S := (fun k_ => P0_ k_)) zB40 hb); have GE320 := zM ((by rw [hg]; exact (below_size zB41) : w0.heap.size ≤ gb320)); replace HB := zM (below_step zB41 hb); have NB319_320 := zM ((zn BK319.1 hg : gb319 ≠ gb320)); have NB320_319 := zM ((zm BK319.1 hg : gb320 ≠ gb319)); replace BK319 := zM (zb BK319.1 hb); clear hb hbox hg; have hnb60 := NB319_320.1; have hnc60 := NB320_319.1; have hcz61 := zc_3 (w := w59) BK319.1; obtain ⟨Ao62, co62, eo62⟩ := Kd.R_slice HO0.1; subst eo62; have p321 : 0 ≤ (a1_1 : Int) := zA; have q321 : a1_1 < (l0.length : Int) := zA; obtain ⟨ad321, e321, hx321_0⟩ := Kd.at_int (Kd.R_reads' HO0.1).2.2 a1_1 p321 q321; cases e321; replace p321 := eq_true p321; replace q321 := eq_true q321) | ((with_reducible refine gate_callee (f := 87) rfl ?_); refine goesL_ (some 16) rfl rfl Try.func87 (by kernel_rfl) rfl #[.int .i64 (rd l0 a1_1)] rfl zT ?_; (with_reducible refine (impl_Decode.calls (rd l0 a1_1) t322 t323 t324 t325 t326 t327 _ A5.1).mono ?_); rintro e w63 ⟨rfl, hb⟩; refine ⟨_, rfl, ?_⟩; replace HO0 := zM (Kd.R_below (zR HO0.1) hb); replace BK319 := zM (zb BK319.1 hb); replace BK320 := zM (zb BK320.1 hb); replace HK := zM (Kept.below (S := (fun k_ => P0_ k_)) zB42 hb); replace HB := zM (below_step zB43 hb); clear hb) | ((with_reducible refine gate_dst (N := 5) rfl ?_); refine box_event ?hg (N := 5) ?hd (cs := #[.int .i64 0, .int .i64 0, .int .i64 0, .int .i64 0, .int .i64 0]) (t := 59) ?hr ?_; (case hd => rfl); (case hg => rfl); (case hr => exact zHH); intro gb328 hg w64 hbox hb; replace HO0 := zM (Kd.R_below (zR HO0.1) hb); have BK328 := zM hbox; have GW328 := zM ((by rw [hg]; exact (by first | exact HK.1.1 | exact (show Kept w _ (fun k_ => P0_ k_) from zB42).1) : w.heap.size ≤ gb328)); replace HK := zM (Kept.below (S := (fun k_ => P0_ k_)) zB42 hb); have GE328 := zM ((by rw [hg]; exact (below_size zB43) : w0.heap.size ≤ gb328)); replace HB := zM (below_step zB43 hb); have NB319_328 := zM ((zn BK319.1 hg : gb319 ≠ gb328)); have NB328_319 := zM ((zm BK319.1 hg : gb328 ≠ gb319)); replace BK319 := zM (zb BK319.1 hb); have NB320_328 := zM ((zn BK320.1 hg : gb320 ≠ gb328)); have NB328_320 := zM ((zm BK320.1 hg : gb328 ≠ gb320)); replace BK320 := zM (zb BK320.1 hb); clear hb hbox hg; have hnb65 := NB328_319.1; have hnc65 := NB319_328.1; have hnb66 := NB328_320.1; have hnc66 := NB320_328.1; have hcz67 := zc_5 (w := w64) BK328.1; have hcz68 := zc_3 (w := w64) BK319.1) | ((with_reducible refine gate_callee (f := 88) rfl ?_); refine goesL_ (some 22) rfl rfl Try.func88 (by kernel_rfl) rfl #[.agg #[.int .i64 t322, .int .i64 t323, .int .i64 t324, .int .i64 t325, .int .i64 t326], .slice A1_0 l1_0.length c1_0] rfl zT ?_; (with_reducible refine (impl_Target.calls t322 t323 t324 t325 t326 _ _ l1_0 t329 _ ?side1 ?side2 A6.1).mono ?_); (case side1 => exact Kd.C_kept_now HR1_0.1 zB44); (case side2 => exact HC1_0.1); rintro e w69 ⟨rfl, hb⟩; refine ⟨_, rfl, ?_⟩; replace HO0 := zM (Kd.R_below (by refine zrR ?_; exact (Kd.R_mono (Kd.R_far (p := ⟨gb328, 4, none⟩) (Kd.R_far (p := ⟨gb328, 3, none⟩) (Kd.R_far (p := ⟨gb328, 2, none⟩) (Kd.R_far (p := ⟨gb328, 1, none⟩) (Kd.R_far (p := ⟨gb328, 0, none⟩) (Kd.R_types HO0.1 BK328.1 (by decide)) (fun _ hk => hk.2) (.int .i64 t322)) (fun _ hk => hk.2) (.int .i64 t323)) (fun _ hk => hk.2) (.int .i64 t324)) (fun _ hk => hk.2) (.int .i64 t325)) (fun _ hk => hk.2) (.int .i64 t326)) (fun _ h_ => h_.1))) hb); replace BK319 := zM (zf BK319.1 hb); replace BK320 := zM (zf BK320.1 hb); replace BK328 := zM (blk_below (g := gb328) (o := .cells #[.int .i64 t322, .int .i64 t323, .int .i64 t324, .int .i64 t325, .int .i64 t326] 59 (0, 0)) (by exact zp5 (zK BK328.1)) hb); replace HK := zM (Kept.below (S := (fun k_ => P0_ k_)) zB44 hb); replace HB := zM (below_step zB45 hb); clear hb; have hcz70 := zc_3 (w := w69) BK319.1; have hcz71 := zc_5 (w := w69) BK328.1) | ((with_reducible refine gate_callee (f := 89) rfl ?_); refine goesL_ (some 33) rfl rfl Try.func89 (by kernel_rfl) rfl #[.agg #[.slice A1_0 l1_0.length c1_0, .int .i64 a1_1, .int .i64 a1_2], .agg #[.int .i64 t322, .int .i64 t323, .int .i64 t324, .int .i64 t325, .int .i64 t326], .int .i64 0] rfl zT ?_; (with_reducible refine (impl_Work.calls k _ _ l1_0 a1_1 a1_2 t322 t323 t324 t325 t326 0 t338 t341 t342 t343 _ ?side1 ?side2 A53.1).mono ?_); (case side1 => exact Kd.C_kept_now HR1_0.1 zB44); (case side2 => exact HC1_0.1); rintro e w72 ⟨v339, rfl, ho0, hb⟩; refine ⟨_, rfl, ?_⟩; have HO340 := zM (Kd.R_lower (Kd.R_new' (Kd.R_newM (M := fun k_ => (P0_ k_ ∨ w.heap.size ≤ k_)) ho0 (by first | exact HK.1.1 | exact (show Kept w _ (fun k_ => P0_ k_) from zB44).1) (fun k_ h_ => .inr h_)) (Kd.R_lt (zR HO0.1))) (below_size zB45)); replace HO0 := zM (Kd.R_elder' (zR HO0.1) (Kd.R_base ho0) hb); replace BK319 := zM (zb BK319.1 hb); replace BK320 := zM (zb BK320.1 hb); replace BK328 := zM (zb BK328.1 hb); replace HK := zM (Kept.below (S := (fun k_ => P0_ k_)) zB44 hb); replace HB := zM (below_step zB45 hb); clear hb ho0; obtain ⟨Ao73, co73, eo73⟩ := Kd.R_slice HO340.1; subst eo73; have hcz74 := zc_3 (w := w72) BK319.1) | ((with_reducible refine gate_store (t := 29) (p := 3) rfl ?_); refine store_event (t := 29) (p := 3) (v := ?vo_w75) (w1 := (((w72.setCell ⟨gb319, 0, none⟩ (.slice Ao73 t338.length co73)).setCell ⟨gb319, 1, none⟩ (.int .i64 t341)).setCell ⟨gb319, 2, none⟩ (.int .i64 t342))) ?hg ?ho ?hn ?hr ?_; (case ho => rfl); (case hg => rfl); (case hn => rfl); (case hr => exact zHH); intro w75 hw; have n0_ : Aside0 (Kd.R (Kd.int .i64) 3 w75 w0.heap.size (fun k_ => (P0_ k_ ∨ w.heap.size ≤ k_) ∧ some k_ ≠ (.slice Ao73 t338.length co73 : Value).ownBlock) (.slice (some ad321) l0.length co62) l0) := ⟨(by rw [hw]; exact (by refine zrR ?_; exact Kd.R_mono (Kd.R_far (p := ⟨gb319, 2, none⟩) (Kd.R_far (p := ⟨gb319, 1, none⟩) (Kd.R_far (p := ⟨gb319, 0, none⟩) (Kd.R_types HO0.1 BK319.1 (by decide)) (fun _ hk => hk.2) (.slice Ao73 t338.length co73)) (fun _ hk => hk.2) (.int .i64 t341)) (fun _ hk => hk.2) (.int .i64 t342)) (fun _ hk => ⟨hk.1.1, hk.1.2⟩)))⟩; have n1_ : Aside0 (Kd.R (Kd.int .i64) 3 w75 w0.heap.size (fun k_ => (P0_ k_ ∨ w.heap.size ≤ k_) ∧ some k_ ≠ (.slice (some ad321) l0.length co62 : Value).ownBlock) (.slice Ao73 t338.length co73) t338) := ⟨(by rw [hw]; exact (by refine zrR ?_; exact Kd.R_mono (Kd.R_far (p := ⟨gb319, 2, none⟩) (Kd.R_far (p := ⟨gb319, 1, none⟩) (Kd.R_far (p := ⟨gb319, 0, none⟩) (Kd.R_types HO340.1 BK319.1 (by decide)) (fun _ hk => hk.2) (.slice Ao73 t338.length co73)) (fun _ hk => hk.2) (.int .i64 t341)) (fun _ hk => hk.2) (.int .i64 t342)) (fun _ hk => ⟨hk.1.1.1, hk.1.2⟩)))⟩; have n2_ : Aside0 (w75.heap[gb319]? = some (.cells #[.slice Ao73 t338.length co73, .int .i64 t341, .int .i64 t342] 29 (0, 0))) := ⟨(by rw [hw]; exact (by exact zp3 (zK BK319.1)))⟩; have n3_ : Aside0 (w75.heap[gb320]? = some (.cells #[.slice none 0 0, .int .i64 0, .int .i64 0] 29 (0, 0))) := ⟨(by rw [hw]; exact (by refine zP ?_; refine blk_far ?_ NB320_319.1 _; refine zP ?_; refine blk_far ?_ NB320_319.1 _; refine zP ?_; refine blk_far ?_ NB320_319.1 _; refine zP ?_; exact BK320.1))⟩; have n4_ : Aside0 (w75.heap[gb328]? = some (.cells #[.int .i64 t322, .int .i64 t323, .int .i64 t324, .int .i64 t325, .int .i64 t326] 59 (0, 0))) := ⟨(by rw [hw]; exact (by refine zP ?_; refine blk_far ?_ NB328_319.1 _; refine zP ?_; refine blk_far ?_ NB328_319.1 _; refine zP ?_; refine blk_far ?_ NB328_319.1 _; refine zP ?_; exact BK328.1))⟩; have n5_ : Aside0 (Kept w w75 (fun k_ => P0_ k_)) := ⟨(by rw [hw]; exact zB44)⟩; have n6_ : Aside0 (Below w0.heap.size w0 w75) := ⟨(by rw [hw]; exact zB45)⟩; clear hw; clear HO0; clear HO340; clear BK319; clear BK320; clear BK328; clear HK; clear HB; have HO0 := n0_; have HO340 := n1_; have BK319 := n2_; have BK320 := n3_; have BK328 := n4_; have HK := n5_; have HB := n6_; clear n0_ n1_ n2_ n3_ n4_ n5_ n6_; have p57 : 0 ≤ (t329 : Int) := zA; have q57 : (t329 : Int) < ((l0.length : Int) : Int) := zA; obtain ⟨go57, co57, eo57, gb57, gl57, cl57, HG57⟩ := Kd.R_form HO0.1 (by omega); (first | cases eo57 | (injection eo57 with ea_ en_ ec_; (first | subst ea_ | (injection ea_ with ea_; subst ea_)); subst ec_; clear en_)); have GB57 := zM gb57; have GG57 := zM HG57; clear gb57 gl57 HG57; have HMgo57 := zM (show (P0_ go57 ∨ w.heap.size ≤ go57) from (HO0.1.1 _ rfl).1); (first | simp only [add_plain] at hx321_0 | skip); (first | simp only [add_plain] at hx330_0 | skip); obtain ⟨hx57_0, hf57_0⟩ := Kd.R_celln 0 HO0.1 (t329 : Int) p57 q57; replace p57 := eq_true p57; replace q57 := eq_true q57; obtain ⟨hy76_, hz76_⟩ := Kd.R_celln 0 HO0.1 (t329 : Int) zA zA; have HP76 := Kd.R_putg HO0.1 (t329 : Int) t343) | ((with_reducible refine gate_store (t := 3) (p := 41) rfl ?_); refine store_event (t := 3) (p := 41) (v := ?vo_w77) (w1 := (w75.setCell ⟨go57, (t329 : Int).toNat, none⟩ (.int .i64 t343))) ?hg ?ho ?hn ?hr ?_; (case ho => rfl); (case hg => rfl); (case hn => rfl); (case hr => exact zHH); intro w77 hw; have hg : w75.grownBy w77 (some go57) := (by rw [hw]; exact HP76.2); have hp_ : Kd.R (Kd.int .i64) 3 w77 w0.heap.size (fun k_ => (P0_ k_ ∨ w.heap.size ≤ k_) ∧ some k_ ≠ (.slice Ao73 t338.length co73 : Value).ownBlock) (.slice (some ⟨go57, 0, none⟩) l0.length co62) y344 := (by rw [hw, Ny344.1]; exact HP76.1); clear HP76; replace BK319 := zM (zg BK319.1 hg (Kd.R_ne HO0.1 BK319.1 (by decide))); replace BK320 := zM (zg BK320.1 hg (Kd.R_ne HO0.1 BK320.1 (by decide))); replace BK328 := zM (zg BK328.1 hg (Kd.R_ne HO0.1 BK328.1 (by decide))); replace HO340 := zM (Kd.R_after (v := (.slice (some ⟨go57, 0, none⟩) l0.length co62)) (v1 := (.slice (some ⟨go57, 0, none⟩) l0.length co62)) (ok := (fun k_ => (P0_ k_ ∨ w.heap.size ≤ k_))) (zR HO340.1) hg (.inl rfl)); replace HB := zM ((by rw [hw]; exact below_set (HB.1) GB57.1 : Below w0.heap.size w0 w77)); replace HK := zM (Kept.of_grown (S := (fun k_ => P0_ k_)) hg zB44 (fun k_ e_ => (HO0.1.1 k_ e_).1)); replace HO0 := zM hp_; clear hg hw hp_; have hcz78 := zc_3 (w := w77) BK319.1; have hcz79 := zc_3 (w := w77) BK320.1))
  refine bodyPost_ret (results_cell_row rfl _ _ gb320 29 #[.slice Ao73 t338.length co73, .int .i64 t341, .int .i64 t342] (0, 0) _ rfl (by exact zp3 (zK BK320.1)) Try.underlying29 rfl (by kernel_rfl)) rfl ?_
  exact ⟨_, zE, by refine zrR ?_; exact Kd.R_mono (Kd.R_far (p := ⟨gb320, 2, none⟩) (Kd.R_far (p := ⟨gb320, 1, none⟩) (Kd.R_far (p := ⟨gb320, 0, none⟩) (Kd.R_types HO340.1 BK320.1 (by decide)) (fun _ hk => hk.2) (.slice Ao73 t338.length co73)) (fun _ hk => hk.2) (.int .i64 t341)) (fun _ hk => hk.2) (.int .i64 t342)) (fun _ hk => ⟨hk.1.1, hk.1.2⟩), by refine zrR ?_; exact Kd.R_mono (Kd.R_far (p := ⟨gb320, 2, none⟩) (Kd.R_far (p := ⟨gb320, 1, none⟩) (Kd.R_far (p := ⟨gb320, 0, none⟩) (Kd.R_types HO0.1 BK320.1 (by decide)) (fun _ hk => hk.2) (.slice Ao73 t338.length co73)) (fun _ hk => hk.2) (.int .i64 t341)) (fun _ hk => hk.2) (.int .i64 t342)) (fun _ hk => hk.1.1), zB45, zB44⟩
 rw [if_pos c7] at H
 have c7b0 := decide_eq_true c7
 clear c7
 by_cases c8 : 0 ≤ t329
 rotate_left
 ·rw [if_neg c8] at H
  exact absurd H (by simp)
 rw [if_pos c8] at H
 have c8b0 := decide_eq_true c8
 clear c8
 by_cases c9 : t329 < (l0.length : Int)
 rotate_left
 ·rw [if_neg c9] at H
  exact absurd H (by simp)
 rw [if_pos c9] at H
 have c9b0 := decide_eq_true c9
 clear c9
 replace H := zO H
 obtain ⟨⟨t331, t334, t335, t336⟩, A10, H⟩ := H
 try dsimp only at H
 by_cases c11 : t336 ≥ 0
 rotate_left
 ·rw [if_neg c11] at H
  have c11b0 := decide_eq_false c11
  clear c11
  simp only [Option.some.injEq, Prod.mk.injEq] at H
  obtain ⟨rfl, rfl, rfl, rfl⟩ := H
  go_enter Try.func65, Try.ntmps65
  go_wp2_with (first | ((with_reducible refine gate_dst (N := 3) rfl ?_); refine box_event ?hg (N := 3) ?hd (cs := #[.slice A1_0 l1_0.length c1_0, .int .i64 a1_1, .int .i64 a1_2]) (t := 29) ?hr ?_; (case hd => rfl); (case hg => rfl); (case hr => exact zHH); intro gb319 hg w35 hbox hb; replace HO0 := zM (Kd.R_below (zR HO0.1) hb); have BK319 := zM hbox; have GW319 := zM ((by rw [hg]; exact (by first | exact HK.1.1 | exact (show Kept w _ (fun k_ => P0_ k_) from zB39).1) : w.heap.size ≤ gb319)); replace HK := zM (Kept.below (S := (fun k_ => P0_ k_)) zB39 hb); have GE319 := zM ((by rw [hg]; exact (below_size zB0) : w0.heap.size ≤ gb319)); replace HB := zM (below_step zB0 hb); clear hb hbox hg) | ((with_reducible refine gate_dst (N := 4) rfl ?_); refine box_event ?hg (N := 4) ?hd (cs := #[.slice none 0 0, .int .i64 0, .int .i64 0]) (t := 29) ?hr ?_; (case hd => rfl); (case hg => rfl); (case hr => exact zHH); intro gb320 hg w36 hbox hb; replace HO0 := zM (Kd.R_below (zR HO0.1) hb); have BK320 := zM hbox; have GW320 := zM ((by rw [hg]; exact (by first | exact HK.1.1 | exact (show Kept w _ (fun k_ => P0_ k_) from zB40).1) : w.heap.size ≤ gb320)); replace HK := zM (Kept.below (S := (fun k_ => P0_ k_)) zB40 hb); have GE320 := zM ((by rw [hg]; exact (below_size zB41) : w0.heap.size ≤ gb320)); replace HB := zM (below_step zB41 hb); have NB319_320 := zM ((zn BK319.1 hg : gb319 ≠ gb320)); have NB320_319 := zM ((zm BK319.1 hg : gb320 ≠ gb319)); replace BK319 := zM (zb BK319.1 hb); clear hb hbox hg; have hnb37 := NB319_320.1; have hnc37 := NB320_319.1; have hcz38 := zc_3 (w := w36) BK319.1; obtain ⟨Ao39, co39, eo39⟩ := Kd.R_slice HO0.1; subst eo39; have p321 : 0 ≤ (a1_1 : Int) := zA; have q321 : a1_1 < (l0.length : Int) := zA; obtain ⟨ad321, e321, hx321_0⟩ := Kd.at_int (Kd.R_reads' HO0.1).2.2 a1_1 p321 q321; cases e321; replace p321 := eq_true p321; replace q321 := eq_true q321) | ((with_reducible refine gate_callee (f := 87) rfl ?_); refine goesL_ (some 16) rfl rfl Try.func87 (by kernel_rfl) rfl #[.int .i64 (rd l0 a1_1)] rfl zT ?_; (with_reducible refine (impl_Decode.calls (rd l0 a1_1) t322 t323 t324 t325 t326 t327 _ A5.1).mono ?_); rintro e w40 ⟨rfl, hb⟩; refine ⟨_, rfl, ?_⟩; replace HO0 := zM (Kd.R_below (zR HO0.1) hb); replace BK319 := zM (zb BK319.1 hb); replace BK320 := zM (zb BK320.1 hb); replace HK := zM (Kept.below (S := (fun k_ => P0_ k_)) zB42 hb); replace HB := zM (below_step zB43 hb); clear hb) | ((with_reducible refine gate_dst (N := 5) rfl ?_); refine box_event ?hg (N := 5) ?hd (cs := #[.int .i64 0, .int .i64 0, .int .i64 0, .int .i64 0, .int .i64 0]) (t := 59) ?hr ?_; (case hd => rfl); (case hg => rfl); (case hr => exact zHH); intro gb328 hg w41 hbox hb; replace HO0 := zM (Kd.R_below (zR HO0.1) hb); have BK328 := zM hbox; have GW328 := zM ((by rw [hg]; exact (by first | exact HK.1.1 | exact (show Kept w _ (fun k_ => P0_ k_) from zB42).1) : w.heap.size ≤ gb328)); replace HK := zM (Kept.below (S := (fun k_ => P0_ k_)) zB42 hb); have GE328 := zM ((by rw [hg]; exact (below_size zB43) : w0.heap.size ≤ gb328)); replace HB := zM (below_step zB43 hb); have NB319_328 := zM ((zn BK319.1 hg : gb319 ≠ gb328)); have NB328_319 := zM ((zm BK319.1 hg : gb328 ≠ gb319)); replace BK319 := zM (zb BK319.1 hb); have NB320_328 := zM ((zn BK320.1 hg : gb320 ≠ gb328)); have NB328_320 := zM ((zm BK320.1 hg : gb328 ≠ gb320)); replace BK320 := zM (zb BK320.1 hb); clear hb hbox hg; have hnb42 := NB328_319.1; have hnc42 := NB319_328.1; have hnb43 := NB328_320.1; have hnc43 := NB320_328.1; have hcz44 := zc_5 (w := w41) BK328.1; have hcz45 := zc_3 (w := w41) BK319.1) | ((with_reducible refine gate_callee (f := 88) rfl ?_); refine goesL_ (some 22) rfl rfl Try.func88 (by kernel_rfl) rfl #[.agg #[.int .i64 t322, .int .i64 t323, .int .i64 t324, .int .i64 t325, .int .i64 t326], .slice A1_0 l1_0.length c1_0] rfl zT ?_; (with_reducible refine (impl_Target.calls t322 t323 t324 t325 t326 _ _ l1_0 t329 _ ?side1 ?side2 A6.1).mono ?_); (case side1 => exact Kd.C_kept_now HR1_0.1 zB44); (case side2 => exact HC1_0.1); rintro e w46 ⟨rfl, hb⟩; refine ⟨_, rfl, ?_⟩; replace HO0 := zM (Kd.R_below (by refine zrR ?_; exact (Kd.R_mono (Kd.R_far (p := ⟨gb328, 4, none⟩) (Kd.R_far (p := ⟨gb328, 3, none⟩) (Kd.R_far (p := ⟨gb328, 2, none⟩) (Kd.R_far (p := ⟨gb328, 1, none⟩) (Kd.R_far (p := ⟨gb328, 0, none⟩) (Kd.R_types HO0.1 BK328.1 (by decide)) (fun _ hk => hk.2) (.int .i64 t322)) (fun _ hk => hk.2) (.int .i64 t323)) (fun _ hk => hk.2) (.int .i64 t324)) (fun _ hk => hk.2) (.int .i64 t325)) (fun _ hk => hk.2) (.int .i64 t326)) (fun _ h_ => h_.1))) hb); replace BK319 := zM (zf BK319.1 hb); replace BK320 := zM (zf BK320.1 hb); replace BK328 := zM (blk_below (g := gb328) (o := .cells #[.int .i64 t322, .int .i64 t323, .int .i64 t324, .int .i64 t325, .int .i64 t326] 59 (0, 0)) (by exact zp5 (zK BK328.1)) hb); replace HK := zM (Kept.below (S := (fun k_ => P0_ k_)) zB44 hb); replace HB := zM (below_step zB45 hb); clear hb; have p330 : 0 ≤ (t329 : Int) := zA; have q330 : t329 < (l0.length : Int) := zA; obtain ⟨ad330, e330, hx330_0⟩ := Kd.at_int (Kd.R_reads' HO0.1).2.2 t329 p330 q330; obtain rfl : ad321 = ad330 := (by injection e330); replace p330 := eq_true p330; replace q330 := eq_true q330; have hcz47 := zc_3 (w := w46) BK319.1; have hcz48 := zc_5 (w := w46) BK328.1) | ((with_reducible refine gate_callee (f := 89) rfl ?_); refine goesL_ (some 33) rfl rfl Try.func89 (by kernel_rfl) rfl #[.agg #[.slice A1_0 l1_0.length c1_0, .int .i64 a1_1, .int .i64 a1_2], .agg #[.int .i64 t322, .int .i64 t323, .int .i64 t324, .int .i64 t325, .int .i64 t326], .int .i64 (rd l0 t329)] rfl zT ?_; (with_reducible refine (impl_Work.calls k _ _ l1_0 a1_1 a1_2 t322 t323 t324 t325 t326 (rd l0 t329) t331 t334 t335 t336 _ ?side1 ?side2 A10.1).mono ?_); (case side1 => exact Kd.C_kept_now HR1_0.1 zB44); (case side2 => exact HC1_0.1); rintro e w49 ⟨v332, rfl, ho0, hb⟩; refine ⟨_, rfl, ?_⟩; have HO333 := zM (Kd.R_lower (Kd.R_new' (Kd.R_newM (M := fun k_ => (P0_ k_ ∨ w.heap.size ≤ k_)) ho0 (by first | exact HK.1.1 | exact (show Kept w _ (fun k_ => P0_ k_) from zB44).1) (fun k_ h_ => .inr h_)) (Kd.R_lt (zR HO0.1))) (below_size zB45)); replace HO0 := zM (Kd.R_elder' (zR HO0.1) (Kd.R_base ho0) hb); replace BK319 := zM (zb BK319.1 hb); replace BK320 := zM (zb BK320.1 hb); replace BK328 := zM (zb BK328.1 hb); replace HK := zM (Kept.below (S := (fun k_ => P0_ k_)) zB44 hb); replace HB := zM (below_step zB45 hb); clear hb ho0; obtain ⟨Ao50, co50, eo50⟩ := Kd.R_slice HO333.1; subst eo50; have hcz51 := zc_3 (w := w49) BK319.1; have hcz52 := zc_3 (w := w49) BK320.1))
  refine bodyPost_ret (results_cell_row rfl _ _ gb320 29 #[.slice Ao50 t331.length co50, .int .i64 t334, .int .i64 t335] (0, 0) _ rfl (by refine zP ?_; refine blk_put (cs := #[.slice Ao50 t331.length co50, .int .i64 t334, .int .i64 0]) ?_ 2 _ rfl; refine zP ?_; refine blk_put (cs := #[.slice Ao50 t331.length co50, .int .i64 0, .int .i64 0]) ?_ 1 _ rfl; refine zP ?_; refine blk_put (cs := #[.slice none 0 0, .int .i64 0, .int .i64 0]) ?_ 0 _ rfl; refine zP ?_; refine blk_far ?_ NB320_319.1 _; refine zP ?_; refine blk_far ?_ NB320_319.1 _; refine zP ?_; refine blk_far ?_ NB320_319.1 _; refine zP ?_; exact BK320.1) Try.underlying29 rfl (by kernel_rfl)) rfl ?_
  exact ⟨_, zE, by refine zrR ?_; exact Kd.R_mono (Kd.R_far (p := ⟨gb320, 2, none⟩) (Kd.R_far (p := ⟨gb320, 1, none⟩) (Kd.R_far (p := ⟨gb320, 0, none⟩) (Kd.R_far (p := ⟨gb319, 2, none⟩) (Kd.R_far (p := ⟨gb319, 1, none⟩) (Kd.R_far (p := ⟨gb319, 0, none⟩) (Kd.R_types (Kd.R_types HO333.1 BK319.1 (by decide)) BK320.1 (by decide)) (fun _ hk => hk.1.2) (.slice Ao50 t331.length co50)) (fun _ hk => hk.1.2) (.int .i64 t334)) (fun _ hk => hk.1.2) (.int .i64 t335)) (fun _ hk => hk.2) (.slice Ao50 t331.length co50)) (fun _ hk => hk.2) (.int .i64 t334)) (fun _ hk => hk.2) (.int .i64 t335)) (fun _ hk => ⟨hk.1.1.1.1, hk.1.1.2⟩), by refine zrR ?_; exact Kd.R_mono (Kd.R_far (p := ⟨gb320, 2, none⟩) (Kd.R_far (p := ⟨gb320, 1, none⟩) (Kd.R_far (p := ⟨gb320, 0, none⟩) (Kd.R_far (p := ⟨gb319, 2, none⟩) (Kd.R_far (p := ⟨gb319, 1, none⟩) (Kd.R_far (p := ⟨gb319, 0, none⟩) (Kd.R_types (Kd.R_types HO0.1 BK319.1 (by decide)) BK320.1 (by decide)) (fun _ hk => hk.1.2) (.slice Ao50 t331.length co50)) (fun _ hk => hk.1.2) (.int .i64 t334)) (fun _ hk => hk.1.2) (.int .i64 t335)) (fun _ hk => hk.2) (.slice Ao50 t331.length co50)) (fun _ hk => hk.2) (.int .i64 t334)) (fun _ hk => hk.2) (.int .i64 t335)) (fun _ hk => hk.1.1.1), zB45, zB44⟩
 rw [if_pos c11] at H
 have c11b0 := decide_eq_true c11
 clear c11
 obtain ⟨y337, hy337⟩ : ∃ y_ : List Int, y_ = (l0.set (t329 : Int).toNat t336) := ⟨_, rfl⟩
 replace H : (some (t331, t334, t335, y337)) = some (r1, r2, r3, r4) := by first | (rw [hy337]; with_reducible exact H) | (have H2_ := (Option.bind_some _ _).symm.trans H; rw [hy337]; with_reducible exact H2_) | (have H2_ := (Option.bind_some _ _).symm.trans H; with_reducible exact H2_) | with_reducible exact H | (rw [hy337]; exact H) | exact H
 have Ny337 := zM hy337
 clear hy337
 simp only [Option.some.injEq, Prod.mk.injEq] at H
 obtain ⟨rfl, rfl, rfl, rfl⟩ := H
 go_enter Try.func65, Try.ntmps65
 go_wp2_with (first | ((with_reducible refine gate_dst (N := 3) rfl ?_); refine box_event ?hg (N := 3) ?hd (cs := #[.slice A1_0 l1_0.length c1_0, .int .i64 a1_1, .int .i64 a1_2]) (t := 29) ?hr ?_; (case hd => rfl); (case hg => rfl); (case hr => exact zHH); intro gb319 hg w13 hbox hb; replace HO0 := zM (Kd.R_below (zR HO0.1) hb); have BK319 := zM hbox; have GW319 := zM ((by rw [hg]; exact (by first | exact HK.1.1 | exact (show Kept w _ (fun k_ => P0_ k_) from zB39).1) : w.heap.size ≤ gb319)); replace HK := zM (Kept.below (S := (fun k_ => P0_ k_)) zB39 hb); have GE319 := zM ((by rw [hg]; exact (below_size zB0) : w0.heap.size ≤ gb319)); replace HB := zM (below_step zB0 hb); clear hb hbox hg) | ((with_reducible refine gate_dst (N := 4) rfl ?_); refine box_event ?hg (N := 4) ?hd (cs := #[.slice none 0 0, .int .i64 0, .int .i64 0]) (t := 29) ?hr ?_; (case hd => rfl); (case hg => rfl); (case hr => exact zHH); intro gb320 hg w14 hbox hb; replace HO0 := zM (Kd.R_below (zR HO0.1) hb); have BK320 := zM hbox; have GW320 := zM ((by rw [hg]; exact (by first | exact HK.1.1 | exact (show Kept w _ (fun k_ => P0_ k_) from zB40).1) : w.heap.size ≤ gb320)); replace HK := zM (Kept.below (S := (fun k_ => P0_ k_)) zB40 hb); have GE320 := zM ((by rw [hg]; exact (below_size zB41) : w0.heap.size ≤ gb320)); replace HB := zM (below_step zB41 hb); have NB319_320 := zM ((zn BK319.1 hg : gb319 ≠ gb320)); have NB320_319 := zM ((zm BK319.1 hg : gb320 ≠ gb319)); replace BK319 := zM (zb BK319.1 hb); clear hb hbox hg; have hnb15 := NB319_320.1; have hnc15 := NB320_319.1; have hcz16 := zc_3 (w := w14) BK319.1; obtain ⟨Ao17, co17, eo17⟩ := Kd.R_slice HO0.1; subst eo17; have p321 : 0 ≤ (a1_1 : Int) := zA; have q321 : a1_1 < (l0.length : Int) := zA; obtain ⟨ad321, e321, hx321_0⟩ := Kd.at_int (Kd.R_reads' HO0.1).2.2 a1_1 p321 q321; cases e321; replace p321 := eq_true p321; replace q321 := eq_true q321) | ((with_reducible refine gate_callee (f := 87) rfl ?_); refine goesL_ (some 16) rfl rfl Try.func87 (by kernel_rfl) rfl #[.int .i64 (rd l0 a1_1)] rfl zT ?_; (with_reducible refine (impl_Decode.calls (rd l0 a1_1) t322 t323 t324 t325 t326 t327 _ A5.1).mono ?_); rintro e w18 ⟨rfl, hb⟩; refine ⟨_, rfl, ?_⟩; replace HO0 := zM (Kd.R_below (zR HO0.1) hb); replace BK319 := zM (zb BK319.1 hb); replace BK320 := zM (zb BK320.1 hb); replace HK := zM (Kept.below (S := (fun k_ => P0_ k_)) zB42 hb); replace HB := zM (below_step zB43 hb); clear hb) | ((with_reducible refine gate_dst (N := 5) rfl ?_); refine box_event ?hg (N := 5) ?hd (cs := #[.int .i64 0, .int .i64 0, .int .i64 0, .int .i64 0, .int .i64 0]) (t := 59) ?hr ?_; (case hd => rfl); (case hg => rfl); (case hr => exact zHH); intro gb328 hg w19 hbox hb; replace HO0 := zM (Kd.R_below (zR HO0.1) hb); have BK328 := zM hbox; have GW328 := zM ((by rw [hg]; exact (by first | exact HK.1.1 | exact (show Kept w _ (fun k_ => P0_ k_) from zB42).1) : w.heap.size ≤ gb328)); replace HK := zM (Kept.below (S := (fun k_ => P0_ k_)) zB42 hb); have GE328 := zM ((by rw [hg]; exact (below_size zB43) : w0.heap.size ≤ gb328)); replace HB := zM (below_step zB43 hb); have NB319_328 := zM ((zn BK319.1 hg : gb319 ≠ gb328)); have NB328_319 := zM ((zm BK319.1 hg : gb328 ≠ gb319)); replace BK319 := zM (zb BK319.1 hb); have NB320_328 := zM ((zn BK320.1 hg : gb320 ≠ gb328)); have NB328_320 := zM ((zm BK320.1 hg : gb328 ≠ gb320)); replace BK320 := zM (zb BK320.1 hb); clear hb hbox hg; have hnb20 := NB328_319.1; have hnc20 := NB319_328.1; have hnb21 := NB328_320.1; have hnc21 := NB320_328.1; have hcz22 := zc_5 (w := w19) BK328.1; have hcz23 := zc_3 (w := w19) BK319.1) | ((with_reducible refine gate_callee (f := 88) rfl ?_); refine goesL_ (some 22) rfl rfl Try.func88 (by kernel_rfl) rfl #[.agg #[.int .i64 t322, .int .i64 t323, .int .i64 t324, .int .i64 t325, .int .i64 t326], .slice A1_0 l1_0.length c1_0] rfl zT ?_; (with_reducible refine (impl_Target.calls t322 t323 t324 t325 t326 _ _ l1_0 t329 _ ?side1 ?side2 A6.1).mono ?_); (case side1 => exact Kd.C_kept_now HR1_0.1 zB44); (case side2 => exact HC1_0.1); rintro e w24 ⟨rfl, hb⟩; refine ⟨_, rfl, ?_⟩; replace HO0 := zM (Kd.R_below (by refine zrR ?_; exact (Kd.R_mono (Kd.R_far (p := ⟨gb328, 4, none⟩) (Kd.R_far (p := ⟨gb328, 3, none⟩) (Kd.R_far (p := ⟨gb328, 2, none⟩) (Kd.R_far (p := ⟨gb328, 1, none⟩) (Kd.R_far (p := ⟨gb328, 0, none⟩) (Kd.R_types HO0.1 BK328.1 (by decide)) (fun _ hk => hk.2) (.int .i64 t322)) (fun _ hk => hk.2) (.int .i64 t323)) (fun _ hk => hk.2) (.int .i64 t324)) (fun _ hk => hk.2) (.int .i64 t325)) (fun _ hk => hk.2) (.int .i64 t326)) (fun _ h_ => h_.1))) hb); replace BK319 := zM (zf BK319.1 hb); replace BK320 := zM (zf BK320.1 hb); replace BK328 := zM (blk_below (g := gb328) (o := .cells #[.int .i64 t322, .int .i64 t323, .int .i64 t324, .int .i64 t325, .int .i64 t326] 59 (0, 0)) (by exact zp5 (zK BK328.1)) hb); replace HK := zM (Kept.below (S := (fun k_ => P0_ k_)) zB44 hb); replace HB := zM (below_step zB45 hb); clear hb; have p330 : 0 ≤ (t329 : Int) := zA; have q330 : t329 < (l0.length : Int) := zA; obtain ⟨ad330, e330, hx330_0⟩ := Kd.at_int (Kd.R_reads' HO0.1).2.2 t329 p330 q330; obtain rfl : ad321 = ad330 := (by injection e330); replace p330 := eq_true p330; replace q330 := eq_true q330; have hcz25 := zc_3 (w := w24) BK319.1; have hcz26 := zc_5 (w := w24) BK328.1) | ((with_reducible refine gate_callee (f := 89) rfl ?_); refine goesL_ (some 33) rfl rfl Try.func89 (by kernel_rfl) rfl #[.agg #[.slice A1_0 l1_0.length c1_0, .int .i64 a1_1, .int .i64 a1_2], .agg #[.int .i64 t322, .int .i64 t323, .int .i64 t324, .int .i64 t325, .int .i64 t326], .int .i64 (rd l0 t329)] rfl zT ?_; (with_reducible refine (impl_Work.calls k _ _ l1_0 a1_1 a1_2 t322 t323 t324 t325 t326 (rd l0 t329) t331 t334 t335 t336 _ ?side1 ?side2 A10.1).mono ?_); (case side1 => exact Kd.C_kept_now HR1_0.1 zB44); (case side2 => exact HC1_0.1); rintro e w27 ⟨v332, rfl, ho0, hb⟩; refine ⟨_, rfl, ?_⟩; have HO333 := zM (Kd.R_lower (Kd.R_new' (Kd.R_newM (M := fun k_ => (P0_ k_ ∨ w.heap.size ≤ k_)) ho0 (by first | exact HK.1.1 | exact (show Kept w _ (fun k_ => P0_ k_) from zB44).1) (fun k_ h_ => .inr h_)) (Kd.R_lt (zR HO0.1))) (below_size zB45)); replace HO0 := zM (Kd.R_elder' (zR HO0.1) (Kd.R_base ho0) hb); replace BK319 := zM (zb BK319.1 hb); replace BK320 := zM (zb BK320.1 hb); replace BK328 := zM (zb BK328.1 hb); replace HK := zM (Kept.below (S := (fun k_ => P0_ k_)) zB44 hb); replace HB := zM (below_step zB45 hb); clear hb ho0; obtain ⟨Ao28, co28, eo28⟩ := Kd.R_slice HO333.1; subst eo28; have hcz29 := zc_3 (w := w27) BK319.1) | ((with_reducible refine gate_store (t := 29) (p := 3) rfl ?_); refine store_event (t := 29) (p := 3) (v := ?vo_w30) (w1 := (((w27.setCell ⟨gb319, 0, none⟩ (.slice Ao28 t331.length co28)).setCell ⟨gb319, 1, none⟩ (.int .i64 t334)).setCell ⟨gb319, 2, none⟩ (.int .i64 t335))) ?hg ?ho ?hn ?hr ?_; (case ho => rfl); (case hg => rfl); (case hn => rfl); (case hr => exact zHH); intro w30 hw; have n0_ : Aside0 (Kd.R (Kd.int .i64) 3 w30 w0.heap.size (fun k_ => (P0_ k_ ∨ w.heap.size ≤ k_) ∧ some k_ ≠ (.slice Ao28 t331.length co28 : Value).ownBlock) (.slice (some ad321) l0.length co17) l0) := ⟨(by rw [hw]; exact (by refine zrR ?_; exact Kd.R_mono (Kd.R_far (p := ⟨gb319, 2, none⟩) (Kd.R_far (p := ⟨gb319, 1, none⟩) (Kd.R_far (p := ⟨gb319, 0, none⟩) (Kd.R_types HO0.1 BK319.1 (by decide)) (fun _ hk => hk.2) (.slice Ao28 t331.length co28)) (fun _ hk => hk.2) (.int .i64 t334)) (fun _ hk => hk.2) (.int .i64 t335)) (fun _ hk => ⟨hk.1.1, hk.1.2⟩)))⟩; have n1_ : Aside0 (Kd.R (Kd.int .i64) 3 w30 w0.heap.size (fun k_ => (P0_ k_ ∨ w.heap.size ≤ k_) ∧ some k_ ≠ (.slice (some ad321) l0.length co17 : Value).ownBlock) (.slice Ao28 t331.length co28) t331) := ⟨(by rw [hw]; exact (by refine zrR ?_; exact Kd.R_mono (Kd.R_far (p := ⟨gb319, 2, none⟩) (Kd.R_far (p := ⟨gb319, 1, none⟩) (Kd.R_far (p := ⟨gb319, 0, none⟩) (Kd.R_types HO333.1 BK319.1 (by decide)) (fun _ hk => hk.2) (.slice Ao28 t331.length co28)) (fun _ hk => hk.2) (.int .i64 t334)) (fun _ hk => hk.2) (.int .i64 t335)) (fun _ hk => ⟨hk.1.1.1, hk.1.2⟩)))⟩; have n2_ : Aside0 (w30.heap[gb319]? = some (.cells #[.slice Ao28 t331.length co28, .int .i64 t334, .int .i64 t335] 29 (0, 0))) := ⟨(by rw [hw]; exact (by exact zp3 (zK BK319.1)))⟩; have n3_ : Aside0 (w30.heap[gb320]? = some (.cells #[.slice none 0 0, .int .i64 0, .int .i64 0] 29 (0, 0))) := ⟨(by rw [hw]; exact (by refine zP ?_; refine blk_far ?_ NB320_319.1 _; refine zP ?_; refine blk_far ?_ NB320_319.1 _; refine zP ?_; refine blk_far ?_ NB320_319.1 _; refine zP ?_; exact BK320.1))⟩; have n4_ : Aside0 (w30.heap[gb328]? = some (.cells #[.int .i64 t322, .int .i64 t323, .int .i64 t324, .int .i64 t325, .int .i64 t326] 59 (0, 0))) := ⟨(by rw [hw]; exact (by refine zP ?_; refine blk_far ?_ NB328_319.1 _; refine zP ?_; refine blk_far ?_ NB328_319.1 _; refine zP ?_; refine blk_far ?_ NB328_319.1 _; refine zP ?_; exact BK328.1))⟩; have n5_ : Aside0 (Kept w w30 (fun k_ => P0_ k_)) := ⟨(by rw [hw]; exact zB44)⟩; have n6_ : Aside0 (Below w0.heap.size w0 w30) := ⟨(by rw [hw]; exact zB45)⟩; clear hw; clear HO0; clear HO333; clear BK319; clear BK320; clear BK328; clear HK; clear HB; have HO0 := n0_; have HO333 := n1_; have BK319 := n2_; have BK320 := n3_; have BK328 := n4_; have HK := n5_; have HB := n6_; clear n0_ n1_ n2_ n3_ n4_ n5_ n6_; have p12 : 0 ≤ (t329 : Int) := zA; have q12 : (t329 : Int) < ((l0.length : Int) : Int) := zA; obtain ⟨go12, co12, eo12, gb12, gl12, cl12, HG12⟩ := Kd.R_form HO0.1 (by omega); (first | cases eo12 | (injection eo12 with ea_ en_ ec_; (first | subst ea_ | (injection ea_ with ea_; subst ea_)); subst ec_; clear en_)); have GB12 := zM gb12; have GG12 := zM HG12; clear gb12 gl12 HG12; have HMgo12 := zM (show (P0_ go12 ∨ w.heap.size ≤ go12) from (HO0.1.1 _ rfl).1); (first | simp only [add_plain] at hx321_0 | skip); (first | simp only [add_plain] at hx330_0 | skip); obtain ⟨hx12_0, hf12_0⟩ := Kd.R_celln 0 HO0.1 (t329 : Int) p12 q12; replace p12 := eq_true p12; replace q12 := eq_true q12; obtain ⟨hy31_, hz31_⟩ := Kd.R_celln 0 HO0.1 (t329 : Int) zA zA; have HP31 := Kd.R_putg HO0.1 (t329 : Int) t336) | ((with_reducible refine gate_store (t := 3) (p := 41) rfl ?_); refine store_event (t := 3) (p := 41) (v := ?vo_w32) (w1 := (w30.setCell ⟨go12, (t329 : Int).toNat, none⟩ (.int .i64 t336))) ?hg ?ho ?hn ?hr ?_; (case ho => rfl); (case hg => rfl); (case hn => rfl); (case hr => exact zHH); intro w32 hw; have hg : w30.grownBy w32 (some go12) := (by rw [hw]; exact HP31.2); have hp_ : Kd.R (Kd.int .i64) 3 w32 w0.heap.size (fun k_ => (P0_ k_ ∨ w.heap.size ≤ k_) ∧ some k_ ≠ (.slice Ao28 t331.length co28 : Value).ownBlock) (.slice (some ⟨go12, 0, none⟩) l0.length co17) y337 := (by rw [hw, Ny337.1]; exact HP31.1); clear HP31; replace BK319 := zM (zg BK319.1 hg (Kd.R_ne HO0.1 BK319.1 (by decide))); replace BK320 := zM (zg BK320.1 hg (Kd.R_ne HO0.1 BK320.1 (by decide))); replace BK328 := zM (zg BK328.1 hg (Kd.R_ne HO0.1 BK328.1 (by decide))); replace HO333 := zM (Kd.R_after (v := (.slice (some ⟨go12, 0, none⟩) l0.length co17)) (v1 := (.slice (some ⟨go12, 0, none⟩) l0.length co17)) (ok := (fun k_ => (P0_ k_ ∨ w.heap.size ≤ k_))) (zR HO333.1) hg (.inl rfl)); replace HB := zM ((by rw [hw]; exact below_set (HB.1) GB12.1 : Below w0.heap.size w0 w32)); replace HK := zM (Kept.of_grown (S := (fun k_ => P0_ k_)) hg zB44 (fun k_ e_ => (HO0.1.1 k_ e_).1)); replace HO0 := zM hp_; clear hg hw hp_; have hcz33 := zc_3 (w := w32) BK319.1; have hcz34 := zc_3 (w := w32) BK320.1))
 refine bodyPost_ret (results_cell_row rfl _ _ gb320 29 #[.slice Ao28 t331.length co28, .int .i64 t334, .int .i64 t335] (0, 0) _ rfl (by exact zp3 (zK BK320.1)) Try.underlying29 rfl (by kernel_rfl)) rfl ?_
 exact ⟨_, zE, by refine zrR ?_; exact Kd.R_mono (Kd.R_far (p := ⟨gb320, 2, none⟩) (Kd.R_far (p := ⟨gb320, 1, none⟩) (Kd.R_far (p := ⟨gb320, 0, none⟩) (Kd.R_types HO333.1 BK320.1 (by decide)) (fun _ hk => hk.2) (.slice Ao28 t331.length co28)) (fun _ hk => hk.2) (.int .i64 t334)) (fun _ hk => hk.2) (.int .i64 t335)) (fun _ hk => ⟨hk.1.1, hk.1.2⟩), by refine zrR ?_; exact Kd.R_mono (Kd.R_far (p := ⟨gb320, 2, none⟩) (Kd.R_far (p := ⟨gb320, 1, none⟩) (Kd.R_far (p := ⟨gb320, 0, none⟩) (Kd.R_types HO0.1 BK320.1 (by decide)) (fun _ hk => hk.2) (.slice Ao28 t331.length co28)) (fun _ hk => hk.2) (.int .i64 t334)) (fun _ hk => hk.2) (.int .i64 t335)) (fun _ hk => hk.1.1), zB45, zB44⟩

/-! ### impl_twoBytes: function 127 -/
def impl_twoBytes.l0 : Nat → List Int → List Int → Int → Int → Option (List Int)
 | 0, _, _, _, _ => none
 | k + 1, x3, x7, x8, x9 => if x9 < x8 then (if 0 ≤ x9 then (if x9 < (x7.length : Int) then ((some (([((rd x7 x9) / 256) % 256, (rd x7 x9) % 256] : List Int) : List Int)).bind fun y349 => (if x3.length + y349.length < 140737488355328 then (impl_twoBytes.l0 k (x3 ++ y349) x7 x8 (wrap64 (x9 + 1))) else (none))) else (none)) else (none)) else (some x3)
def impl_twoBytes.f (k : Nat) (l0 : List Int) : Option (List Int) := impl_twoBytes.l0 k (([] : List Int)) l0 (l0.length : Int) 0
theorem impl_twoBytes.mono_l : ∀ k, (∀ y0 y1 y2 y3, LeO (impl_twoBytes.l0 k y0 y1 y2 y3) (impl_twoBytes.l0 (k + 1) y0 y1 y2 y3))
 | 0 => fun _ _ _ _ r h => by simp [impl_twoBytes.l0] at h
 | k + 1 => by
  have ih0 := impl_twoBytes.mono_l k
  ·intros
   unfold impl_twoBytes.l0
   exact zL
theorem impl_twoBytes.mono : ∀ a0 k, LeO (impl_twoBytes.f k a0) (impl_twoBytes.f (k + 1) a0) := by
 intro a0 k
 have ih0 := impl_twoBytes.mono_l k
 unfold impl_twoBytes.f
 exact zL
theorem impl_twoBytes.calls (k : Nat) (A0 : Option Addr) (c0 : Nat) (l0 : List Int) (r : List Int) (w : World) (hr0 : Kd.C (Kd.int .i64) w A0 l0.length l0) (hc0 : l0.length ≤ c0) (h : impl_twoBytes.f k l0 = some r) :
  Calls Try.prog 127 #[.slice A0 l0.length c0] w fun e w' => ∃ v0_ : Value, e = .returned (v0_) ∧ Kd.R (Kd.int .u8) 5 w' w.heap.size (fun _ => True) v0_ r ∧ Below w.heap.size w w' := by
 have HR0 := zM hr0
 have HC0 := zM hc0
 clear hr0 hc0
 have HB := zM (Below.refl w.heap.size w)
 unfold impl_twoBytes.f at h
 have H := h
 clear h
 obtain ⟨y345, hy345⟩ : ∃ y_ : List Int, y_ = (([] : List Int)) := ⟨_, rfl⟩
 replace H : (impl_twoBytes.l0 k y345 l0 (l0.length : Int) 0) = some r := by first | (rw [hy345]; with_reducible exact H) | (have H2_ := (Option.bind_some _ _).symm.trans H; rw [hy345]; with_reducible exact H2_) | (have H2_ := (Option.bind_some _ _).symm.trans H; with_reducible exact H2_) | with_reducible exact H | (rw [hy345]; exact H) | exact H
 have Ny345 := zM hy345
 clear hy345
 have H' := zM H
 clear H
 go_enter Try.func127, Try.ntmps127
 go_wp2_with (first | ((with_reducible refine gate_dst (N := 6) rfl ?_); refine Kd.R_lit (Kd.int .u8) _ 5 ?hg (N := 6) ?hd (xs := ([] : List Int)) (inner := []) (ok := fun _ => True) (okp := fun _ => True) ?hr ?hp (fun _ hk => hk) trivial (Below.refl _ _) (Nat.le_refl _) (by simp) ?_; (case hd => rfl); (case hg => rfl); (case hr => exact zHH); (case hp => exact (Reps.none _ _)); intro v346 w2 ho3 hb hg_ hnew_; clear hg_ hnew_; (first | rw [← Ny345.1] at ho3 | (simp only [Int.reduceToNat] at ho3; rw [← Ny345.1] at ho3)); have HO347 := zM (Kd.R_lower ho3 (below_size zB0)); replace HB := zM (below_step zB0 hb); clear hb ho3))
 go_loopg [3, 9] k (fun kq v3 v9 w' => ∃ (x3_1 : List Int) (x9_1 : Int), v9 = .int .i64 x9_1 ∧ Aside0 (impl_twoBytes.l0 kq x3_1 l0 (l0.length : Int) x9_1 = some r) ∧ Aside0 (kq ≤ k) ∧ Aside0 (Kd.R (Kd.int .u8) 5 w' w.heap.size (fun _ => True) v3 x3_1) ∧ Aside0 (Below w.heap.size w w'))
 case atStart => exact ⟨(y345), (0), zJJ, H', ⟨Nat.le_refl _⟩, ⟨zR HO347.1⟩, ⟨zB0⟩⟩
 case round =>
  clear H'
  try clear c1
  try clear p2
  obtain ⟨x3_1, x9_1, rfl, HA, HK1, HO_3, HB⟩ := hrel
  cases gk with
  | zero => exact absurd HA.1 (by simp [impl_twoBytes.l0])
  | succ k1 =>
   have H := HA.1
   clear HA
   simp only [impl_twoBytes.l0] at H
   by_cases c4 : x9_1 < (l0.length : Int)
   rotate_left
   ·rw [if_neg c4] at H
    have c4b0 := decide_eq_false c4
    clear c4
    obtain rfl := Option.some.inj H
    go_wp2
    go_ret
    exact ⟨_, zE, zR HO_3.1, zB0⟩
   rw [if_pos c4] at H
   have c4b0 := decide_eq_true c4
   clear c4
   by_cases c5 : 0 ≤ x9_1
   rotate_left
   ·rw [if_neg c5] at H
    exact absurd H (by simp)
   rw [if_pos c5] at H
   have c5b0 := decide_eq_true c5
   clear c5
   by_cases c6 : x9_1 < (l0.length : Int)
   rotate_left
   ·rw [if_neg c6] at H
    exact absurd H (by simp)
   rw [if_pos c6] at H
   have c6b0 := decide_eq_true c6
   clear c6
   obtain ⟨y349, hy349⟩ : ∃ y_ : List Int, y_ = (([((rd l0 x9_1) / 256) % 256, (rd l0 x9_1) % 256] : List Int)) := ⟨_, rfl⟩
   replace H : (if x3_1.length + y349.length < 140737488355328 then (impl_twoBytes.l0 k1 (x3_1 ++ y349) l0 (l0.length : Int) (wrap64 (x9_1 + 1))) else (none)) = some r := by first | (rw [hy349]; with_reducible exact H) | (have H2_ := (Option.bind_some _ _).symm.trans H; rw [hy349]; with_reducible exact H2_) | (have H2_ := (Option.bind_some _ _).symm.trans H; with_reducible exact H2_) | with_reducible exact H | (rw [hy349]; exact H) | exact H
   have Ny349 := zM hy349
   clear hy349
   by_cases c7 : x3_1.length + y349.length < 140737488355328
   rotate_left
   ·rw [if_neg c7] at H
    exact absurd H (by simp)
   rw [if_pos c7] at H
   have LMc7 := zM c7
   clear c7
   obtain ⟨y352, hy352⟩ : ∃ y_ : List Int, y_ = (x3_1 ++ y349) := ⟨_, rfl⟩
   replace H : (impl_twoBytes.l0 k1 y352 l0 (l0.length : Int) (wrap64 (x9_1 + 1))) = some r := by first | (rw [hy352]; with_reducible exact H) | (have H2_ := (Option.bind_some _ _).symm.trans H; rw [hy352]; with_reducible exact H2_) | (have H2_ := (Option.bind_some _ _).symm.trans H; with_reducible exact H2_) | with_reducible exact H | (rw [hy352]; exact H) | exact H
   have Ny352 := zM hy352
   clear hy352
   have H' := zM H
   clear H
   have p348 : 0 ≤ (x9_1 : Int) := zA
   have q348 : x9_1 < (l0.length : Int) := zA
   obtain ⟨ad348, e348, hx348_0⟩ := Kd.at_int HR0.1 x9_1 p348 q348
   cases e348
   replace hx348_0 := (HB.1.cell (World.block_lt_of_cell? w _ hx348_0)).trans hx348_0
   replace p348 := eq_true p348
   replace q348 := eq_true q348
   go_wp2_with (first | ((with_reducible refine gate_dst (N := 19) rfl ?_); refine Kd.R_lit (Kd.int .u8) _ 5 ?hg (N := 19) ?hd (xs := ([((rd l0 x9_1) / 256) % 256, (rd l0 x9_1) % 256] : List Int)) (inner := [.int .u8 (((rd l0 x9_1) / 256) % 256), .int .u8 ((rd l0 x9_1) % 256)]) (ok := fun _ => True) (okp := fun _ => True) ?hr ?hp (fun _ hk => hk) trivial (Below.refl _ _) (Nat.le_refl _) (by simp) ?_; (case hd => rfl); (case hg => rfl); (case hr => exact zHH); (case hp => exact (Reps.one (show Kd.M (Kd.int .u8) _ _ _ (((rd l0 x9_1) / 256) % 256) [.int .u8 (((rd l0 x9_1) / 256) % 256)] from rfl) (Reps.one (show Kd.M (Kd.int .u8) _ _ _ ((rd l0 x9_1) % 256) [.int .u8 ((rd l0 x9_1) % 256)] from rfl) (Reps.none _ _)))); intro v350 w8 ho9 hb hg_ hnew_; clear hg_ hnew_; (first | rw [← Ny349.1] at ho9 | (simp only [Int.reduceToNat] at ho9; rw [← Ny349.1] at ho9)); have HO351 := zM (Kd.R_lower (Kd.R_new' ho9 (Kd.R_lt (zR HO_3.1))) (below_size zB0)); replace HO_3 := zM (Kd.R_elder' (zR HO_3.1) (Kd.R_base ho9) hb); replace HB := zM (below_step zB0 hb); clear hb ho9; obtain ⟨Ao11, co11, eo11⟩ := Kd.R_slice HO351.1; subst eo11) | ((with_reducible refine gate_builtin (b := .append) (xs := #[.tmp 13, .tmp 19]) rfl ?_); at_builtin; refine Kd.R_append_rows (Kd.int .u8) (w0 := w) w.heap.size rfl (.tmp 13) (.tmp 19) 22 5 (.int .u8 0) 1 rfl Try.underlying22 info5 rfl (by decide) (by omega) u3 x3_1 y349 _ _ _ (fun k_ => some k_ ≠ (.slice Ao11 y349.length co11 : Value).ownBlock) (fun _ => False) rfl rfl ?aO ?aR (fun _ _ h => h) (fun _ h => h.elim) ?aF ?aB ?aS ?aL ?_; (case aR => exact zC (Kd.R_reads' HO351.1).2.2); (case aB => exact zB0); (case aF => exact (fun k_ hk => Kd.fresh' (Kd.R_lt (zR HO351.1)) k_ hk)); (case aO => exact (by refine zrR ?_; exact Kd.R_mono HO_3.1 (fun _ hk => hk.2))); (case aS => exact (below_size zB0)); (case aL => have := LMc7.out; omega); intro v353 w10 ho hb hg hat; rw [← Ny352.1] at ho; replace HO351 := zM (Kd.R_after (ok := (fun _ => True)) (zR HO351.1) hg hat); replace HB := zM hb; have HO354 := zM ho; clear HO_3; clear ho hb hg hat))
   go_roundg k1
   case measure => have := HK1.1; omega
   case rel => exact ⟨(y352), (wrap64 (x9_1 + 1)), zJJ, H', ⟨by have := HK1.1; omega⟩, ⟨by refine zrR ?_; exact Kd.R_mono HO354.1 (fun _ hk => trivial)⟩, ⟨zB0⟩⟩

/-! ### impl_MemBytes: function 108 -/
def impl_MemBytes.f (k : Nat) (l0 : List Int) : Option (List Int) := (impl_memOk.f k l0).bind fun t355 => (if t355 = true then ((impl_twoBytes.f k l0).bind fun t356 => (some t356)) else (some ([] : List Int)))
theorem impl_MemBytes.mono : ∀ a0 k, LeO (impl_MemBytes.f k a0) (impl_MemBytes.f (k + 1) a0) := by
 intro a0 k
 unfold impl_MemBytes.f
 have mo0 := @impl_memOk.mono
 have mo1 := @impl_twoBytes.mono
 exact zL
theorem impl_MemBytes.calls (k : Nat) (A0 : Option Addr) (c0 : Nat) (l0 : List Int) (r : List Int) (w : World) (hr0 : Kd.C (Kd.int .i64) w A0 l0.length l0) (hc0 : l0.length ≤ c0) (h : impl_MemBytes.f k l0 = some r) :
  Calls Try.prog 108 #[.slice A0 l0.length c0] w fun e w' => ∃ v0_ : Value, e = .returned (v0_) ∧ Kd.R (Kd.int .u8) 5 w' w.heap.size (fun _ => True) v0_ r ∧ Below w.heap.size w w' := by
 have HR0 := zM hr0
 have HC0 := zM hc0
 clear hr0 hc0
 have HB := zM (Below.refl w.heap.size w)
 unfold impl_MemBytes.f at h
 have H := h
 clear h
 replace H := zO H
 obtain ⟨t355, A2, H⟩ := H
 by_cases c3 : t355 = true
 rotate_left
 ·replace c3 := Bool.eq_false_iff.mpr c3
  subst c3
  rw [if_neg zF] at H
  obtain rfl := Option.some.inj H
  go_enter Try.func108, Try.ntmps108
  go_wp2_with (first | ((with_reducible refine gate_callee (f := 42) rfl ?_); refine goesL_ (some 4) rfl rfl Try.func42 (by kernel_rfl) rfl #[.slice A0 l0.length c0] rfl zT ?_; (with_reducible refine (impl_memOk.calls k _ _ l0 false _ ?side1 ?side2 A2.1).mono ?_); (case side1 => exact zC HR0.1); (case side2 => exact HC0.1); rintro e w' ⟨rfl, ⟨nd, rfl⟩⟩; refine ⟨_, rfl, ?_⟩))
  go_ret
  exact ⟨_, zE, by first | exact Kd.R_nil _ _ _ _ _ | exact Kd.N_nil _ _ _ _ _ | exact Kd.V_nil _ _ _ _ _ | exact Kd.Q_nil _ _ _ _ _ | exact Kd.S_nil _ _ _ _ _, zB0⟩
 subst c3
 rw [if_pos rfl] at H
 replace H := zO H
 obtain ⟨t356, A4, H⟩ := H
 obtain rfl := Option.some.inj H
 go_enter Try.func108, Try.ntmps108
 go_wp2_with (first | ((with_reducible refine gate_callee (f := 42) rfl ?_); refine goesL_ (some 4) rfl rfl Try.func42 (by kernel_rfl) rfl #[.slice A0 l0.length c0] rfl zT ?_; (with_reducible refine (impl_memOk.calls k _ _ l0 true _ ?side1 ?side2 A2.1).mono ?_); (case side1 => exact zC HR0.1); (case side2 => exact HC0.1); rintro e w' ⟨rfl, ⟨nd, rfl⟩⟩; refine ⟨_, rfl, ?_⟩) | ((with_reducible refine gate_callee (f := 127) rfl ?_); refine goesL_ (some 7) rfl rfl Try.func127 (by kernel_rfl) rfl #[.slice A0 l0.length c0] rfl zT ?_; (with_reducible refine (impl_twoBytes.calls k _ _ l0 t356 _ ?side1 ?side2 A4.1).mono ?_); (case side1 => exact zC HR0.1); (case side2 => exact HC0.1); rintro e w5 ⟨v357, rfl, ho0, hb⟩; refine ⟨_, rfl, ?_⟩; have HO358 := zM (Kd.R_lower ho0 (below_size zB0)); replace HB := zM (below_step zB0 hb); clear hb ho0))
 go_ret
 exact ⟨_, zE, zR HO358.1, zB0⟩

/-! ### impl_HartBytes: function 109 -/
def impl_HartBytes.f (k : Nat) (l0_0 : List Int) (a0_1 : Int) (a0_2 : Int) : Option (List Int) := (impl_HartOk.f k l0_0 a0_1 a0_2).bind fun t360 => (if t360 = true then ((impl_twoBytes.f k l0_0).bind fun t361 => ((some (([(a0_1) % 256, (a0_2) % 256] : List Int) : List Int)).bind fun y364 => (if t361.length + y364.length < 140737488355328 then (some (t361 ++ y364)) else (none)))) else (some ([] : List Int)))
theorem impl_HartBytes.mono : ∀ a0 a1 a2 k, LeO (impl_HartBytes.f k a0 a1 a2) (impl_HartBytes.f (k + 1) a0 a1 a2) := by
 intro a0 a1 a2 k
 unfold impl_HartBytes.f
 have mo0 := @impl_HartOk.mono
 have mo1 := @impl_twoBytes.mono
 exact zL
def impl_HartBytes.T3 : Bool × List (List Nat × List Nat) := (true, [([], []), ([0], [0]), ([1], [1]), ([], []), ([3], [3]), ([4], [4]), ([], []), ([6], [6]), ([7], [7]), ([5, 8], [5, 8]), ([2, 9, 2], [2, 9]), ([10, 10, 0, 1, 2, 3, 4, 5, 6, 7, 8, 9, 10], [10])])
def impl_HartBytes.B3 : List Nat := [0, 1, 3, 0, 8, 24, 0, 64, 192, 504, 1023, 2047]
theorem impl_HartBytes.tab3 : rtab .any (opsOf Try.f109 3) = impl_HartBytes.T3 := by kernel_rfl
theorem impl_HartBytes.bits3 : waitsOk impl_HartBytes.T3.2 impl_HartBytes.B3 = true := by kernel_rfl
theorem impl_HartBytes.calls (k : Nat) (A0_0 : Option Addr) (c0_0 : Nat) (l0_0 : List Int) (a0_1 : Int) (a0_2 : Int) (r : List Int) (w : World) (hr0_0 : Kd.C (Kd.int .i64) w A0_0 l0_0.length l0_0) (hc0_0 : l0_0.length ≤ c0_0) (h : impl_HartBytes.f k l0_0 a0_1 a0_2 = some r) :
  Calls Try.prog 109 #[.agg #[.slice A0_0 l0_0.length c0_0, .int .i64 a0_1, .int .i64 a0_2]] w fun e w' => ∃ v0_ : Value, e = .returned (v0_) ∧ Kd.R (Kd.int .u8) 5 w' w.heap.size (fun _ => True) v0_ r ∧ Below w.heap.size w w' := by
 have hu29 := Try.underlying29
 have HR0_0 := zM hr0_0
 have HC0_0 := zM hc0_0
 clear hr0_0 hc0_0
 have HB := zM (Below.refl w.heap.size w)
 unfold impl_HartBytes.f at h
 have H := h
 clear h
 replace H := zO H
 obtain ⟨t360, A2, H⟩ := H
 by_cases c3 : t360 = true
 rotate_left
 ·replace c3 := Bool.eq_false_iff.mpr c3
  subst c3
  rw [if_neg zF] at H
  obtain rfl := Option.some.inj H
  go_enter Try.func109, Try.ntmps109
  go_wp2_with (first | ((with_reducible refine gate_dst (N := 1) rfl ?_); refine box_event ?hg (N := 1) ?hd (cs := #[.slice A0_0 l0_0.length c0_0, .int .i64 a0_1, .int .i64 a0_2]) (t := 29) ?hr ?_; (case hd => rfl); (case hg => rfl); (case hr => exact zHH); intro gb359 hg w16 hbox hb; have BK359 := zM hbox; have GW359 := zM (zW hg (below_size zB0)); have GE359 := zM (zW hg (below_size zB0)); replace HB := zM (below_step zB0 hb); clear hb hbox hg; have hcz17 := zc_3 (w := w16) BK359.1) | ((with_reducible refine gate_callee (f := 58) rfl ?_); refine goesL_ (some 4) rfl rfl Try.func58 (by kernel_rfl) rfl #[.agg #[.slice A0_0 l0_0.length c0_0, .int .i64 a0_1, .int .i64 a0_2]] rfl zT ?_; (with_reducible refine (impl_HartOk.calls k _ _ l0_0 a0_1 a0_2 false _ ?side1 ?side2 A2.1).mono ?_); (case side1 => exact zC (Kd.C_below HR0_0.1 HB.1)); (case side2 => exact HC0_0.1); rintro e w18 ⟨rfl, hb⟩; refine ⟨_, rfl, ?_⟩; replace BK359 := zM (zb BK359.1 hb); replace HB := zM (below_step zB46 hb); clear hb))
  go_ret
  exact ⟨_, zE, by first | exact Kd.R_nil _ _ _ _ _ | exact Kd.N_nil _ _ _ _ _ | exact Kd.V_nil _ _ _ _ _ | exact Kd.Q_nil _ _ _ _ _ | exact Kd.S_nil _ _ _ _ _, zB46⟩
 subst c3
 rw [if_pos rfl] at H
 replace H := zO H
 obtain ⟨t361, A4, H⟩ := H
 obtain ⟨y364, hy364⟩ : ∃ y_ : List Int, y_ = (([(a0_1) % 256, (a0_2) % 256] : List Int)) := ⟨_, rfl⟩
 replace H : (if t361.length + y364.length < 140737488355328 then (some (t361 ++ y364)) else (none)) = some r := by first | (rw [hy364]; with_reducible exact H) | (have H2_ := (Option.bind_some _ _).symm.trans H; rw [hy364]; with_reducible exact H2_) | (have H2_ := (Option.bind_some _ _).symm.trans H; with_reducible exact H2_) | with_reducible exact H | (rw [hy364]; exact H) | exact H
 have Ny364 := zM hy364
 clear hy364
 by_cases c5 : t361.length + y364.length < 140737488355328
 rotate_left
 ·rw [if_neg c5] at H
  exact absurd H (by simp)
 rw [if_pos c5] at H
 have LMc5 := zM c5
 clear c5
 obtain ⟨y367, hy367⟩ : ∃ y_ : List Int, y_ = (t361 ++ y364) := ⟨_, rfl⟩
 replace H : (some y367) = some r := by first | (rw [hy367]; with_reducible exact H) | (have H2_ := (Option.bind_some _ _).symm.trans H; rw [hy367]; with_reducible exact H2_) | (have H2_ := (Option.bind_some _ _).symm.trans H; with_reducible exact H2_) | with_reducible exact H | (rw [hy367]; exact H) | exact H
 have Ny367 := zM hy367
 clear hy367
 obtain rfl := Option.some.inj H
 go_enter Try.func109, Try.ntmps109
 try go_wp2_with (first | ((with_reducible refine gate_dst (N := 1) rfl ?_); refine box_event ?hg (N := 1) ?hd (cs := #[.slice A0_0 l0_0.length c0_0, .int .i64 a0_1, .int .i64 a0_2]) (t := 29) ?hr ?_; (case hd => rfl); (case hg => rfl); (case hr => exact zHH); intro gb359 hg w6 hbox hb; have BK359 := zM hbox; have GW359 := zM (zW hg (below_size zB0)); have GE359 := zM (zW hg (below_size zB0)); replace HB := zM (below_step zB0 hb); clear hb hbox hg; have hcz7 := zc_3 (w := w6) BK359.1) | ((with_reducible refine gate_callee (f := 58) rfl ?_); refine goesL_ (some 4) rfl rfl Try.func58 (by kernel_rfl) rfl #[.agg #[.slice A0_0 l0_0.length c0_0, .int .i64 a0_1, .int .i64 a0_2]] rfl zT ?_; (with_reducible refine (impl_HartOk.calls k _ _ l0_0 a0_1 a0_2 true _ ?side1 ?side2 A2.1).mono ?_); (case side1 => exact zC (Kd.C_below HR0_0.1 HB.1)); (case side2 => exact HC0_0.1); rintro e w8 ⟨rfl, hb⟩; refine ⟨_, rfl, ?_⟩; replace BK359 := zM (zb BK359.1 hb); replace HB := zM (below_step zB46 hb); clear hb))
 replace BK359 := zM (blk_drew BK359.1)
 replace HB := zM (below_drew1 HB.1)
 refine start_ (n := 12) (S := fun w' => w'.cell? ⟨gb359, 0, none⟩ = some (.slice A0_0 l0_0.length c0_0) ∧ w'.cell? ⟨gb359, 1, none⟩ = some (.int .i64 a0_1) ∧ w'.cell? ⟨gb359, 2, none⟩ = some (.int .i64 a0_2)) (ds := []) #[false, false, false, false, false, false, false, false, false, false, false, false] (by kernel_rfl) rfl rfl ⟨(blk_cell BK359.1 0).trans rfl, (blk_cell BK359.1 1).trans rfl, (blk_cell BK359.1 2).trans rfl⟩ (fun hHeld => ?_); refine with_tabW impl_HartBytes.tab3 impl_HartBytes.bits3 (fun HT_ HW_ => ?_)
 generalize w8.drew = w9 at BK359 HB hHeld ⊢
 refine pure_ (i := 0) (N := some 6) (v := ?_) (a' := ?_) #[true, false, false, false, false, false, false, false, false, false, false, false] rfl rfl (any_of HT_.1 (by kernel_rfl)) (fun _ _ _ h => h) (Or.inl ⟨by rfl, ?_⟩) ?_ ?_
 rotate_left
 ·intro w'
  go_simp
  with_reducible rfl
 rotate_left
 ·exact zV
 refine pure_ (i := 3) (N := some 9) (v := ?_) (a' := ?_) #[true, false, false, true, false, false, false, false, false, false, false, false] rfl rfl (any_of HT_.1 (by kernel_rfl)) (fun _ _ _ h => h) (Or.inl ⟨by rfl, ?_⟩) ?_ ?_
 rotate_left
 ·intro w'
  go_simp
  with_reducible rfl
 rotate_left
 ·exact zV
 refine pure_ (i := 6) (N := some 12) (v := ?_) (a' := ?_) #[true, false, false, true, false, false, true, false, false, false, false, false] rfl rfl (any_of HT_.1 (by kernel_rfl)) (fun _ _ _ h => h) (Or.inl ⟨by rfl, ?_⟩) ?_ ?_
 rotate_left
 ·intro w'
  go_simp
  with_reducible rfl
 rotate_left
 ·exact zV
 refine take_ (i := 1) (N := some 7) (v := ?_) (a' := ?_) #[true, true, false, true, false, false, true, false, false, false, false, false] rfl rfl (take_ofW HT_.1 HW_.1 (by kernel_rfl)) (fun _ _ _ h => h) (Or.inl ⟨by rfl, ?_⟩) hHeld ?_ ?_
 rotate_left
 ·rintro w' ⟨s0, s1, s2⟩
  go_simp
  with_reducible rfl
 rotate_left
 ·exact zV
 refine take_ (i := 4) (N := some 10) (v := ?_) (a' := ?_) #[true, true, false, true, true, false, true, false, false, false, false, false] rfl rfl (take_ofW HT_.1 HW_.1 (by kernel_rfl)) (fun _ _ _ h => h) (Or.inl ⟨by rfl, ?_⟩) hHeld ?_ ?_
 rotate_left
 ·rintro w' ⟨s0, s1, s2⟩
  go_simp
  with_reducible rfl
 rotate_left
 ·exact zV
 refine pure_ (i := 5) (N := some 11) (v := ?_) (a' := ?_) #[true, true, false, true, true, true, true, false, false, false, false, false] rfl rfl (any_of HT_.1 (by kernel_rfl)) (fun _ _ _ h => h) (Or.inl ⟨by rfl, ?_⟩) ?_ ?_
 rotate_left
 ·intro w'
  go_simp
  with_reducible rfl
 rotate_left
 ·exact zV
 refine take_ (i := 7) (N := some 13) (v := ?_) (a' := ?_) #[true, true, false, true, true, true, true, true, false, false, false, false] rfl rfl (take_ofW HT_.1 HW_.1 (by kernel_rfl)) (fun _ _ _ h => h) (Or.inl ⟨by rfl, ?_⟩) hHeld ?_ ?_
 rotate_left
 ·rintro w' ⟨s0, s1, s2⟩
  go_simp
  with_reducible rfl
 rotate_left
 ·exact zV
 refine pure_ (i := 8) (N := some 14) (v := ?_) (a' := ?_) #[true, true, false, true, true, true, true, true, true, false, false, false] rfl rfl (any_of HT_.1 (by kernel_rfl)) (fun _ _ _ h => h) (Or.inl ⟨by rfl, ?_⟩) ?_ ?_
 rotate_left
 ·intro w'
  go_simp
  with_reducible rfl
 rotate_left
 ·exact zV
 refine join_ (σ := Value × Value) 2 zq10_0 (fun s_ => [(8, s_.1), (15, s_.2)]) (fun s_ w' => (w'.cell? ⟨gb359, 0, none⟩ = some (.slice A0_0 l0_0.length c0_0) ∧ w'.cell? ⟨gb359, 1, none⟩ = some (.int .i64 a0_1) ∧ w'.cell? ⟨gb359, 2, none⟩ = some (.int .i64 a0_2)) ∧ (Kd.R (Kd.int .u8) 5 w' w.heap.size (fun k_ => some k_ ≠ (s_.2 : Value).ownBlock) s_.1 t361) ∧ (Kd.R (Kd.int .u8) 5 w' w.heap.size (fun k_ => some k_ ≠ (s_.1 : Value).ownBlock) s_.2 y364) ∧ (w'.heap[gb359]? = some (.cells #[.slice A0_0 l0_0.length c0_0, .int .i64 a0_1, .int .i64 a0_2] 29 (0, 0))) ∧ (Below w.heap.size w w')) ?_ ?_
 rotate_left
 ·intro hCont
  refine two_ (i := 2) (j := 9) (Ni := some 8) (Nj := some 15) #[true, true, true, true, true, true, true, true, true, false, false, false] #[true, true, false, true, true, true, true, true, true, true, false, false] rfl rfl rfl rfl (two_of HT_.1 (by kernel_rfl)) (by decide) (by decide) (fun K hK => ?_) (fun K hK => ?_)
  ·skip
   refine goes_ Try.func127 (by kernel_rfl) rfl #[.slice A0_0 l0_0.length c0_0] (by rfl) rfl rfl zT ?_
   with_reducible refine (impl_twoBytes.calls k _ _ l0_0 t361 _ ?side1 ?side2 A4.1).mono ?_
   (case side1 => exact zC (Kd.C_below HR0_0.1 HB.1))
   (case side2 => exact HC0_0.1)
   rintro e w10 ⟨v362, rfl, ho0, hb⟩
   refine ⟨_, rfl, ?_⟩
   have HO363 := zM (Kd.R_lower ho0 (below_size zB46))
   replace BK359 := zM (zb BK359.1 hb)
   replace HB := zM (below_step zB46 hb)
   (try clear hb)
   (try clear hb2)
   (try clear hk)
   (try clear hi)
   (try clear ho0)
   refine hK.out _ _ ⟨(blk_cell BK359.1 0).trans rfl, (blk_cell BK359.1 1).trans rfl, (blk_cell BK359.1 2).trans rfl⟩ (fun hHeld => ?_)
   clear hK K
   refine norm_ (a' := ?_) ?_ ?_
   rotate_left
   ·show Act.put _ (some 8) _ = _
    simp only [Act.put, List.setIfInBounds_toArray, List.set_cons_zero, List.set_cons_succ, i64_w, i32_w]
    rfl
   refine one_ (i := 9) (N := some 15) zq10_0 rfl rfl (one_of HT_.1 (by kernel_rfl)) (by decide) (fun K hK => ?_)
   refine Kd.R_lit_step (Kd.int .u8) _ 5 ?hg (N := 15) ?hd (xs := ([(a0_1) % 256, (a0_2) % 256] : List Int)) (inner := [.int .u8 ((a0_1) % 256), .int .u8 ((a0_2) % 256)]) (ok := fun _ => True) (okp := fun _ => True) ?hr ?hp (fun _ hk => hk) trivial (Below.refl _ _) (Nat.le_refl _) (by simp) ?_; (case hd => rfl); (case hg => rfl); (case hr => exact zHH); (case hp => exact (Reps.one (show Kd.M (Kd.int .u8) _ _ _ ((a0_1) % 256) [.int .u8 ((a0_1) % 256)] from rfl) (Reps.one (show Kd.M (Kd.int .u8) _ _ _ ((a0_2) % 256) [.int .u8 ((a0_2) % 256)] from rfl) (Reps.none _ _))))
   intro v365 w11 ho12 hb hg_ hnew_
   clear hg_ hnew_
   (first | rw [← Ny364.1] at ho12 | (simp only [Int.reduceToNat] at ho12; rw [← Ny364.1] at ho12))
   have n0_ := zM (Kd.R_elder' (zR HO363.1) (Kd.R_base ho12) hb)
   have n1_ := zM (Kd.R_lower (Kd.R_new' ho12 (Kd.R_lt (zR HO363.1))) (below_size zB46))
   have n2_ := zM (zb BK359.1 hb)
   have n3_ := zM (below_step zB46 hb)
   clear HO363 BK359 HB
   have HO363 := n0_
   have HO366 := n1_
   have BK359 := n2_
   have HB := n3_
   clear n0_ n1_ n2_ n3_ hb ho12
   refine hK.out _ _ ⟨(blk_cell BK359.1 0).trans rfl, (blk_cell BK359.1 1).trans rfl, (blk_cell BK359.1 2).trans rfl⟩ (fun hHeld => ?_)
   clear hK K
   refine norm_ (a' := ?_) ?_ ?_
   rotate_left
   ·show Act.put _ (some 15) _ = _
    simp only [Act.put, List.setIfInBounds_toArray, List.set_cons_zero, List.set_cons_succ, i64_w, i32_w]
    rfl
   exact norm_ (by simp only [putAll, Act.put, List.setIfInBounds_toArray, List.set_cons_zero, List.set_cons_succ]) (hCont (v362, v365) _ ⟨hHeld, (by refine zrR ?_; exact Kd.R_mono HO363.1 (fun _ hk => hk.2)), (by refine zrR ?_; exact Kd.R_mono HO366.1 (fun _ hk => hk.2)), (zK BK359.1), zB46⟩)
  ·skip
   refine Kd.R_lit_step (Kd.int .u8) _ 5 ?hg (N := 15) ?hd (xs := ([(a0_1) % 256, (a0_2) % 256] : List Int)) (inner := [.int .u8 ((a0_1) % 256), .int .u8 ((a0_2) % 256)]) (ok := fun _ => True) (okp := fun _ => True) ?hr ?hp (fun _ hk => hk) trivial (Below.refl _ _) (Nat.le_refl _) (by simp) ?_; (case hd => rfl); (case hg => rfl); (case hr => exact zHH); (case hp => exact (Reps.one (show Kd.M (Kd.int .u8) _ _ _ ((a0_1) % 256) [.int .u8 ((a0_1) % 256)] from rfl) (Reps.one (show Kd.M (Kd.int .u8) _ _ _ ((a0_2) % 256) [.int .u8 ((a0_2) % 256)] from rfl) (Reps.none _ _))))
   intro v365 w10 ho11 hb hg_ hnew_
   clear hg_ hnew_
   (first | rw [← Ny364.1] at ho11 | (simp only [Int.reduceToNat] at ho11; rw [← Ny364.1] at ho11))
   have n0_ := zM (Kd.R_lower ho11 (below_size zB46))
   have n1_ := zM (zb BK359.1 hb)
   have n2_ := zM (below_step zB46 hb)
   clear BK359 HB
   have HO366 := n0_
   have BK359 := n1_
   have HB := n2_
   clear n0_ n1_ n2_ hb ho11
   refine hK.out _ _ ⟨(blk_cell BK359.1 0).trans rfl, (blk_cell BK359.1 1).trans rfl, (blk_cell BK359.1 2).trans rfl⟩ (fun hHeld => ?_)
   clear hK K
   refine norm_ (a' := ?_) ?_ ?_
   rotate_left
   ·show Act.put _ (some 15) _ = _
    simp only [Act.put, List.setIfInBounds_toArray, List.set_cons_zero, List.set_cons_succ, i64_w, i32_w]
    rfl
   refine one_ (i := 2) (N := some 8) zq10_0 rfl rfl (one_of HT_.1 (by kernel_rfl)) (by decide) (fun K hK => ?_)
   refine goes_ Try.func127 (by kernel_rfl) rfl #[.slice A0_0 l0_0.length c0_0] (by rfl) rfl rfl zT ?_
   with_reducible refine (impl_twoBytes.calls k _ _ l0_0 t361 _ ?side1 ?side2 A4.1).mono ?_
   (case side1 => exact zC (Kd.C_below HR0_0.1 HB.1))
   (case side2 => exact HC0_0.1)
   rintro e w12 ⟨v362, rfl, ho0, hb⟩
   refine ⟨_, rfl, ?_⟩
   have HO363 := zM (Kd.R_lower (Kd.R_new' ho0 (Kd.R_lt (zR HO366.1))) (below_size zB46))
   replace HO366 := zM (Kd.R_elder' (zR HO366.1) (Kd.R_base ho0) hb)
   replace BK359 := zM (zb BK359.1 hb)
   replace HB := zM (below_step zB46 hb)
   (try clear hb)
   (try clear hb2)
   (try clear hk)
   (try clear hi)
   (try clear ho0)
   refine hK.out _ _ ⟨(blk_cell BK359.1 0).trans rfl, (blk_cell BK359.1 1).trans rfl, (blk_cell BK359.1 2).trans rfl⟩ (fun hHeld => ?_)
   clear hK K
   refine norm_ (a' := ?_) ?_ ?_
   rotate_left
   ·show Act.put _ (some 8) _ = _
    simp only [Act.put, List.setIfInBounds_toArray, List.set_cons_zero, List.set_cons_succ, i64_w, i32_w]
    rfl
   exact norm_ (by simp only [putAll, Act.put, List.setIfInBounds_toArray, List.set_cons_zero, List.set_cons_succ]) (hCont (v362, v365) _ ⟨hHeld, (by refine zrR ?_; exact Kd.R_mono HO363.1 (fun _ hk => hk.2)), (by refine zrR ?_; exact Kd.R_mono HO366.1 (fun _ hk => hk.2)), (zK BK359.1), zB46⟩)
 rintro ⟨v362, v365⟩ w13 ⟨hS_, h0_, h1_, h2_, h3_⟩
 have n0_ : Aside0 (Kd.R (Kd.int .u8) 5 w13 w.heap.size (fun k_ => some k_ ≠ (v365 : Value).ownBlock) v362 t361) := ⟨h0_⟩
 have n1_ : Aside0 (Kd.R (Kd.int .u8) 5 w13 w.heap.size (fun k_ => some k_ ≠ (v362 : Value).ownBlock) v365 y364) := ⟨h1_⟩
 have n2_ : Aside0 (w13.heap[gb359]? = some (.cells #[.slice A0_0 l0_0.length c0_0, .int .i64 a0_1, .int .i64 a0_2] 29 (0, 0))) := ⟨h2_⟩
 have n3_ : Aside0 (Below w.heap.size w w13) := ⟨h3_⟩
 clear BK359 HB h0_ h1_ h2_ h3_
 have HO363 := n0_
 have HO366 := n1_
 have BK359 := n2_
 have HB := n3_
 clear n0_ n1_ n2_ n3_
 have hHeld : w13.cell? ⟨gb359, 0, none⟩ = some (.slice A0_0 l0_0.length c0_0) ∧ w13.cell? ⟨gb359, 1, none⟩ = some (.int .i64 a0_1) ∧ w13.cell? ⟨gb359, 2, none⟩ = some (.int .i64 a0_2) := hS_
 obtain ⟨Ao15, co15, eo15⟩ := Kd.R_slice HO366.1
 (first | subst eo15 | (injection eo15 with f1_ f2_ f3_; have f4_ := f1_.symm; have f5_ := f3_.symm; clear f1_ f2_ f3_; subst f4_; subst f5_))
 refine norm_ (a' := ?_) ?_ ?_
 rotate_left
 ·simp only [putAll, Act.put, List.setIfInBounds_toArray, List.set_cons_zero, List.set_cons_succ]
  rfl
 refine one_ (i := 10) (N := some 16) #[true, true, true, true, true, true, true, true, true, true, true, false] rfl rfl (one_of HT_.1 (by kernel_rfl)) (by decide) (fun K hK => ?_)
 refine Kd.R_append_rows_step (Kd.int .u8) (w0 := w) w.heap.size (by rfl) (.tmp 8) (.tmp 15) 22 5 (.int .u8 0) 1 rfl Try.underlying22 info5 rfl (by decide) (by omega) v362 t361 y364 _ _ _ (fun k_ => some k_ ≠ (.slice Ao15 y364.length co15 : Value).ownBlock) (fun _ => False) rfl rfl ?aO ?aR (fun _ _ h => h) (fun _ h => h.elim) ?aF ?aB ?aS ?aL ?_
 (case aR => exact zC (Kd.R_reads' HO366.1).2.2)
 (case aB => exact zB46)
 (case aF => exact (fun k_ hk => Kd.fresh' (Kd.R_lt (zR HO366.1)) k_ hk))
 (case aO => exact (zR HO363.1))
 (case aS => exact (below_size zB46))
 (case aL => have := LMc5.out; omega)
 intro v368 w14 ho hb hg hat
 rw [← Ny367.1] at ho
 have n0_ := zM (zg BK359.1 hg (Kd.R_ne HO363.1 BK359.1 (by decide)))
 have n1_ := zM (Kd.R_after (ok := (fun _ => True)) (by refine zrR ?_; exact Kd.R_mono HO366.1 (fun _ hk => ⟨trivial, hk⟩)) hg hat)
 have n2_ := zM hb
 have n3_ := zM ho
 clear BK359 HO366 HB HO363
 have BK359 := n0_
 have HO366 := n1_
 have HB := n2_
 have HO369 := n3_
 clear n0_ n1_ n2_ n3_ ho hb hg hat
 refine hK.out _ _ ⟨(blk_cell BK359.1 0).trans rfl, (blk_cell BK359.1 1).trans rfl, (blk_cell BK359.1 2).trans rfl⟩ (fun hHeld => ?_)
 clear hK K
 refine norm_ (a' := ?_) ?_ ?_
 rotate_left
 ·show Act.put _ (some 16) _ = _
  simp only [Act.put, List.setIfInBounds_toArray, List.set_cons_zero, List.set_cons_succ, i64_w, i32_w]
  rfl
 refine pure_ (i := 11) (N := some 2) (v := ?_) (a' := ?_) #[true, true, true, true, true, true, true, true, true, true, true, true] rfl rfl (any_of HT_.1 (by kernel_rfl)) (fun _ _ _ h => h) (Or.inl ⟨by rfl, ?_⟩) ?_ ?_
 rotate_left
 ·intro w'
  go_simp
  with_reducible rfl
 rotate_left
 ·exact zV
 refine done_ (done_of HT_.1 (by kernel_rfl)) ?_
 try go_wp2
 go_ret
 exact ⟨_, zE, by refine zrR ?_; exact Kd.R_mono HO369.1 (fun _ hk => trivial), zB46⟩

end Go.Proofs.Ytnjdepmlpdjghaa.PFnExactEnds2
