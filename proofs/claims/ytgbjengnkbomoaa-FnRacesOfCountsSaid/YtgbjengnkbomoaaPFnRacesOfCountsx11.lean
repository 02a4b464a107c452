-- made by wip/tools/myprint.py out of the seat's translation
import Derived.Test.YtgbjengnkbomoaaPFnRacesOfCountsx0
import Derived.Test.YtgbjengnkbomoaaPFnRacesOfCountsx1
import Derived.Test.YtgbjengnkbomoaaPFnRacesOfCountsx3
import Derived.Test.YtgbjengnkbomoaaPFnRacesOfCountsx7
import Derived.Test.YtgbjengnkbomoaaPFnRacesOfCountsx8
import Derived.Test.YtgbjengnkbomoaaPFnRacesOfCountsx9
import Derived.Test.YtgbjengnkbomoaaPFnRacesOfCountsx10
namespace Go.Proofs.Ytgbjengnkbomoaa.PFnRacesOfCounts
open Go.RowKit Go.Proofs.YtgbjengnkbomoaaW.PrintWords Go.Proofs.YtgbjengnkbomoaaW.PrintLast Go.Proofs.YtgbjengnkbomoaaW.PrintMore
attribute [local go_sem] max2_int min2_int max_two min_two max_three min_three max_four min_four   -- for this text's walks alone
set_option linter.unusedVariables false
set_option linter.unusedSimpArgs false
set_option maxHeartbeats 8000000
set_option maxRecDepth 100000

attribute [local go_sem high] eqA31
/-! ### impl_step: function 55 -/
def impl_step.f (k : Nat) (l0 : List Int) (l1_0 : List Int) (a1_1 : Int) (a1_2 : Int) : Option (List Int × Int × Int × List Int) := if 0 ≤ a1_1 then (if a1_1 < (l0.length : Int) then ((impl_Decode.f (rd l0 a1_1)).bind fun bt322 => ((impl_Target.f bt322.1 bt322.2.1 bt322.2.2.1 bt322.2.2.2.1 bt322.2.2.2.2.1 l1_0).bind fun t329 => (if t329 ≥ 0 then (if 0 ≤ t329 then (if t329 < (l0.length : Int) then ((impl_Work.f k l1_0 a1_1 a1_2 bt322.1 bt322.2.1 bt322.2.2.1 bt322.2.2.2.1 bt322.2.2.2.2.1 (rd l0 t329)).bind fun bt331 => (if bt331.2.2.2 ≥ 0 then (some (bt331.1, bt331.2.1, bt331.2.2.1, (l0.set (t329 : Int).toNat bt331.2.2.2))) else (some (bt331.1, bt331.2.1, bt331.2.2.1, l0)))) else (none)) else (none)) else ((impl_Work.f k l1_0 a1_1 a1_2 bt322.1 bt322.2.1 bt322.2.2.1 bt322.2.2.2.1 bt322.2.2.2.2.1 0).bind fun bt338 => (if bt338.2.2.2 ≥ 0 then (if 0 ≤ t329 then (if t329 < (l0.length : Int) then (some (bt338.1, bt338.2.1, bt338.2.2.1, (l0.set (t329 : Int).toNat bt338.2.2.2))) else (none)) else (none)) else (some (bt338.1, bt338.2.1, bt338.2.2.1, l0))))))) else (none)) else (none)
theorem impl_step.mono : ∀ a0 a1 a2 a3 k, LeO (impl_step.f k a0 a1 a2 a3) (impl_step.f (k + 1) a0 a1 a2 a3) := by
 intro a0 a1 a2 a3 k
 unfold impl_step.f
 have mo0 := @impl_Work.mono
 exact zL
theorem impl_step.calls (k : Nat) (P0_ : Nat → Prop) (u9000_ : Value) (l0 : List Int) (A1_0 : Option Addr) (c1_0 : Nat) (l1_0 : List Int) (a1_1 : Int) (a1_2 : Int) (r1 : List Int) (r2 : Int) (r3 : Int) (r4 : List Int) (w0 w : World) (hB : Below w0.heap.size w0 w) (ho0 : Kd.R (Kd.int .i64) 3 w w0.heap.size P0_ u9000_ l0) (hr1_0 : ∀ W_, Kept w W_ (fun k_ => P0_ k_) → Kd.C (Kd.int .i64) W_ A1_0 l1_0.length l1_0) (hc1_0 : l1_0.length ≤ c1_0) (h : impl_step.f k l0 l1_0 a1_1 a1_2 = some (r1, r2, r3, r4)) :
  Calls Try.prog 55 #[u9000_, .agg #[.slice A1_0 l1_0.length c1_0, .int .i64 a1_1, .int .i64 a1_2]] w fun e w' => ∃ v0_ : Value, e = .returned (.agg #[v0_, .int .i64 r2, .int .i64 r3]) ∧ Kd.R (Kd.int .i64) 3 w' w0.heap.size (fun k_ => (P0_ k_ ∨ w.heap.size ≤ k_) ∧ some k_ ≠ (u9000_ : Value).ownBlock) v0_ r1 ∧ Kd.R (Kd.int .i64) 3 w' w0.heap.size (fun k_ => (P0_ k_ ∨ w.heap.size ≤ k_)) u9000_ r4 ∧ Below w0.heap.size w0 w' ∧ Kept w w' (fun k_ => P0_ k_) := by
 have hu49 := Try.underlying49
 have hu71 := Try.underlying71
 have HO0 := zM (show Kd.R (Kd.int .i64) 3 w w0.heap.size (fun k_ => (P0_ k_ ∨ w.heap.size ≤ k_)) u9000_ l0 from Kd.R_mono ho0 (fun k_ hk => (.inl hk)))
 have HR1_0 := zM hr1_0
 have HC1_0 := zM hc1_0
 clear hr1_0 hc1_0
 have HK := zM (Kept.refl w (fun k_ => P0_ k_))
 have HW0 := zM hB.size
 have HB := zM hB
 clear hB
 unfold impl_step.f at h
 have H := h
 clear h
 replace H := zIt H
 obtain ⟨c3b0, H⟩ := H
 replace H := zIt H
 obtain ⟨c4b0, H⟩ := H
 replace H := zO H
 obtain ⟨⟨t322, t323, t324, t325, t326, t327⟩, A5, H⟩ := H
 try dsimp only at H
 replace H := zO H
 obtain ⟨t329, A6, H⟩ := H
 by_cases c7 : t329 ≥ 0
 rotate_left
 ·rw [if_neg c7] at H
  have c7b0 := decide_eq_false c7
  clear c7
  replace H := zO H
  obtain ⟨⟨t338, t341, t342, t343⟩, A53, H⟩ := H
  try dsimp only at H
  by_cases c54 : t343 ≥ 0
  rotate_left
  ·rw [if_neg c54] at H
   have c54b0 := decide_eq_false c54
   clear c54
   simp only [Option.some.injEq, Prod.mk.injEq] at H
   obtain ⟨rfl, rfl, rfl, rfl⟩ := H
   go_enter Try.func55, Try.ntmps55
   go_wp2_with (first | ((with_reducible refine zBx 3 49 #[.slice A1_0 l1_0.length c1_0, .int .i64 a1_1, .int .i64 a1_2] ?_); intro gb319 hg w80 hbox hb; replace HO0 := zM (Kd.R_below (zR HO0.1) hb); have BK319 := zM hbox; have GW319 := zM ((by rw [hg]; exact (by first | exact HK.1.1 | exact (show Kept w _ (fun k_ => P0_ k_) from zB31).1) : w.heap.size ≤ gb319)); replace HK := zM (Kept.below (S := (fun k_ => P0_ k_)) zB31 hb); have GE319 := zM ((by rw [hg]; exact (below_size zB1) : w0.heap.size ≤ gb319)); replace HB := zM (below_step zB1 hb); clear hb hbox hg) | ((with_reducible refine zBx 4 49 #[.slice none 0 0, .int .i64 0, .int .i64 0] ?_); intro gb320 hg w81 hbox hb; replace HO0 := zM (Kd.R_below (zR HO0.1) hb); have BK320 := zM hbox; have GW320 := zM ((by rw [hg]; exact (by first | exact HK.1.1 | exact (show Kept w _ (fun k_ => P0_ k_) from zB32).1) : w.heap.size ≤ gb320)); replace HK := zM (Kept.below (S := (fun k_ => P0_ k_)) zB32 hb); have GE320 := zM ((by rw [hg]; exact (below_size zB1) : w0.heap.size ≤ gb320)); replace HB := zM (below_step zB1 hb); have NB319_320 := zM ((zn BK319.1 hg : gb319 ≠ gb320)); have NB320_319 := zM ((zm BK319.1 hg : gb320 ≠ gb319)); replace BK319 := zM (zb BK319.1 hb); clear hb hbox hg; have hnb82 := NB319_320.1; have hnc82 := NB320_319.1; have hcz83 := zc_3 (w := w81) BK319.1; obtain ⟨Ao84, co84, eo84⟩ := Kd.R_slice HO0.1; subst eo84; have p321 : 0 ≤ (a1_1 : Int) := zA; have q321 : a1_1 < (l0.length : Int) := zA; obtain ⟨ad321, e321, hx321_0⟩ := Kd.at_int (Kd.R_reads' HO0.1).2.2 a1_1 p321 q321; cases e321; replace p321 := eq_true p321; replace q321 := eq_true q321) | ((with_reducible refine zG Try.func72 16 #[.int .i64 (rd l0 a1_1)] ?_); (with_reducible refine (impl_Decode.calls (rd l0 a1_1) t322 t323 t324 t325 t326 t327 _ A5.1).mono ?_); rintro e w85 ⟨rfl, hb⟩; refine ⟨_, rfl, ?_⟩; replace HO0 := zM (Kd.R_below (zR HO0.1) hb); replace BK319 := zM (zb BK319.1 hb); replace BK320 := zM (zb BK320.1 hb); replace HK := zM (Kept.below (S := (fun k_ => P0_ k_)) zB34 hb); replace HB := zM (below_step zB1 hb); clear hb) | ((with_reducible refine zBx 5 71 #[.int .i64 0, .int .i64 0, .int .i64 0, .int .i64 0, .int .i64 0] ?_); intro gb328 hg w86 hbox hb; replace HO0 := zM (Kd.R_below (zR HO0.1) hb); have BK328 := zM hbox; have GW328 := zM ((by rw [hg]; exact (by first | exact HK.1.1 | exact (show Kept w _ (fun k_ => P0_ k_) from zB34).1) : w.heap.size ≤ gb328)); replace HK := zM (Kept.below (S := (fun k_ => P0_ k_)) zB34 hb); have GE328 := zM ((by rw [hg]; exact (below_size zB1) : w0.heap.size ≤ gb328)); replace HB := zM (below_step zB1 hb); have NB319_328 := zM ((zn BK319.1 hg : gb319 ≠ gb328)); have NB328_319 := zM ((zm BK319.1 hg : gb328 ≠ gb319)); replace BK319 := zM (zb BK319.1 hb); have NB320_328 := zM ((zn BK320.1 hg : gb320 ≠ gb328)); have NB328_320 := zM ((zm BK320.1 hg : gb328 ≠ gb320)); replace BK320 := zM (zb BK320.1 hb); clear hb hbox hg; have hnb87 := NB328_319.1; have hnc87 := NB319_328.1; have hnb88 := NB328_320.1; have hnc88 := NB320_328.1; have hcz89 := zc_5 (w := w86) BK328.1; have hcz90 := zc_3 (w := w86) BK319.1) | ((with_reducible refine zG Try.func73 22 #[.agg #[.int .i64 t322, .int .i64 t323, .int .i64 t324, .int .i64 t325, .int .i64 t326], .slice A1_0 l1_0.length c1_0] ?_); (with_reducible refine (impl_Target.calls t322 t323 t324 t325 t326 _ _ l1_0 t329 _ ?side1 ?side2 A6.1).mono ?_); (case side1 => exact Kd.C_kept_now HR1_0.1 zB36); (case side2 => exact HC1_0.1); rintro e w91 ⟨rfl, hb⟩; refine ⟨_, rfl, ?_⟩; replace HO0 := zM (Kd.R_below (by refine zrR ?_; exact (Kd.R_mono (zfR (zfR (zfR (zfR (zfR (Kd.R_types HO0.1 BK328.1 (by decide))))))) (fun _ h_ => h_.1))) hb); replace BK319 := zM (zf BK319.1 hb); replace BK320 := zM (zf BK320.1 hb); replace BK328 := zM (blk_below (g := gb328) (o := .cells #[.int .i64 t322, .int .i64 t323, .int .i64 t324, .int .i64 t325, .int .i64 t326] 71 (0, 0)) (by exact zp5 (zK BK328.1)) hb); replace HK := zM (Kept.below (S := (fun k_ => P0_ k_)) zB36 hb); replace HB := zM (below_step zB1 hb); clear hb; have hcz92 := zc_3 (w := w91) BK319.1; have hcz93 := zc_5 (w := w91) BK328.1) | ((with_reducible refine zG Try.func74 33 #[.agg #[.slice A1_0 l1_0.length c1_0, .int .i64 a1_1, .int .i64 a1_2], .agg #[.int .i64 t322, .int .i64 t323, .int .i64 t324, .int .i64 t325, .int .i64 t326], .int .i64 0] ?_); (with_reducible refine (impl_Work.calls k _ _ l1_0 a1_1 a1_2 t322 t323 t324 t325 t326 0 t338 t341 t342 t343 _ ?side1 ?side2 A53.1).mono ?_); (case side1 => exact Kd.C_kept_now HR1_0.1 zB36); (case side2 => exact HC1_0.1); rintro e w94 ⟨v339, rfl, ho0, hb⟩; refine ⟨_, rfl, ?_⟩; have HO340 := zM (Kd.R_lower (Kd.R_new' (Kd.R_newM (M := fun k_ => (P0_ k_ ∨ w.heap.size ≤ k_)) ho0 (by first | exact HK.1.1 | exact (show Kept w _ (fun k_ => P0_ k_) from zB36).1) (fun k_ h_ => .inr h_)) (Kd.R_lt (zR HO0.1))) (below_size zB1)); replace HO0 := zM (Kd.R_elder' (zR HO0.1) (Kd.R_base ho0) hb); replace BK319 := zM (zb BK319.1 hb); replace BK320 := zM (zb BK320.1 hb); replace BK328 := zM (zb BK328.1 hb); replace HK := zM (Kept.below (S := (fun k_ => P0_ k_)) zB36 hb); replace HB := zM (below_step zB1 hb); clear hb ho0; obtain ⟨Ao95, co95, eo95⟩ := Kd.R_slice HO340.1; subst eo95; have hcz96 := zc_3 (w := w94) BK319.1; have hcz97 := zc_3 (w := w94) BK320.1))
   refine bodyPost_ret (results_cell_row rfl _ _ gb320 49 #[.slice Ao95 t338.length co95, .int .i64 t341, .int .i64 t342] (0, 0) _ rfl zPq Try.underlying49 rfl (by kernel_rfl)) rfl ?_
   exact ⟨_, zE, by refine zrR ?_; exact Kd.R_mono (zfR (zfR (zfR (Kd.R_far (p := ⟨gb319, 2, none⟩) (Kd.R_far (p := ⟨gb319, 1, none⟩) (Kd.R_far (p := ⟨gb319, 0, none⟩) (Kd.R_types (Kd.R_types HO340.1 BK319.1 (by decide)) BK320.1 (by decide)) (fun _ hk => hk.1.2) (.slice Ao95 t338.length co95)) (fun _ hk => hk.1.2) (.int .i64 t341)) (fun _ hk => hk.1.2) (.int .i64 t342))))) (fun _ hk => ⟨hk.1.1.1.1, hk.1.1.2⟩), by refine zrR ?_; exact Kd.R_mono (zfR (zfR (zfR (Kd.R_far (p := ⟨gb319, 2, none⟩) (Kd.R_far (p := ⟨gb319, 1, none⟩) (Kd.R_far (p := ⟨gb319, 0, none⟩) (Kd.R_types (Kd.R_types HO0.1 BK319.1 (by decide)) BK320.1 (by decide)) (fun _ hk => hk.1.2) (.slice Ao95 t338.length co95)) (fun _ hk => hk.1.2) (.int .i64 t341)) (fun _ hk => hk.1.2) (.int .i64 t342))))) (fun _ hk => hk.1.1.1), zB1, zB36⟩
  rw [if_pos c54] at H
  have c54b0 := decide_eq_true c54
  clear c54
  replace H := zIt H
  obtain ⟨c55b0, H⟩ := H
  replace H := zIt H
  obtain ⟨c56b0, H⟩ := H
  generalize hy344 : ((l0.set (t329 : Int).toNat t343) : List Int) = y344 at H
  have Ny344 := zM hy344.symm
  clear hy344
  simp only [Option.some.injEq, Prod.mk.injEq] at H
  obtain ⟨rfl, rfl, rfl, rfl⟩ := H
  go_enter Try.func55, Try.ntmps55
  go_wp2_with (first | ((with_reducible refine zBx 3 49 #[.slice A1_0 l1_0.length c1_0, .int .i64 a1_1, .int .i64 a1_2] ?_); intro gb319 hg w58 hbox hb; replace HO0 := zM (Kd.R_below (zR HO0.1) hb); have BK319 := zM hbox; have GW319 := zM ((by rw [hg]; exact (by first | exact HK.1.1 | exact (show Kept w _ (fun k_ => P0_ k_) from zB31).1) : w.heap.size ≤ gb319)); replace HK := zM (Kept.below (S := (fun k_ => P0_ k_)) zB31 hb); have GE319 := zM ((by rw [hg]; exact (below_size zB1) : w0.heap.size ≤ gb319)); replace HB := zM (below_step zB1 hb); clear hb hbox hg) | ((with_reducible refine zBx 4 49 #[.slice none 0 0, .int .i64 0, .int .i64 0] ?_); intro gb320 hg w59 hbox hb; replace HO0 := zM (Kd.R_below (zR HO0.1) hb); have BK320 := zM hbox; have GW320 := zM ((by rw [hg]; exact (by first | exact HK.1.1 | exact (show Kept w _ (fun k_ => P0_ k_) from zB32).1) : w.heap.size ≤ gb320)); replace HK := zM (Kept.below (S := (fun k_ => P0_ k_)) zB32 hb); have GE320 := zM ((by rw [hg]; exact (below_size zB1) : w0.heap.size ≤ gb320)); replace HB := zM (below_step zB1 hb); have NB319_320 := zM ((zn BK319.1 hg : gb319 ≠ gb320)); have NB320_319 := zM ((zm BK319.1 hg : gb320 ≠ gb319)); replace BK319 := zM (zb BK319.1 hb); clear hb hbox hg; have hnb60 := NB319_320.1; have hnc60 := NB320_319.1; have hcz61 := zc_3 (w := w59) BK319.1; obtain ⟨Ao62, co62, eo62⟩ := Kd.R_slice HO0.1; subst eo62; have p321 : 0 ≤ (a1_1 : Int) := zA; have q321 : a1_1 < (l0.length : Int) := zA; obtain ⟨ad321, e321, hx321_0⟩ := Kd.at_int (Kd.R_reads' HO0.1).2.2 a1_1 p321 q321; cases e321; replace p321 := eq_true p321; replace q321 := eq_true q321) | ((with_reducible refine zG Try.func72 16 #[.int .i64 (rd l0 a1_1)] ?_); (with_reducible refine (impl_Decode.calls (rd l0 a1_1) t322 t323 t324 t325 t326 t327 _ A5.1).mono ?_); rintro e w63 ⟨rfl, hb⟩; refine ⟨_, rfl, ?_⟩; replace HO0 := zM (Kd.R_below (zR HO0.1) hb); replace BK319 := zM (zb BK319.1 hb); replace BK320 := zM (zb BK320.1 hb); replace HK := zM (Kept.below (S := (fun k_ => P0_ k_)) zB34 hb); replace HB := zM (below_step zB1 hb); clear hb) | ((with_reducible refine zBx 5 71 #[.int .i64 0, .int .i64 0, .int .i64 0, .int .i64 0, .int .i64 0] ?_); intro gb328 hg w64 hbox hb; replace HO0 := zM (Kd.R_below (zR HO0.1) hb); have BK328 := zM hbox; have GW328 := zM ((by rw [hg]; exact (by first | exact HK.1.1 | exact (show Kept w _ (fun k_ => P0_ k_) from zB34).1) : w.heap.size ≤ gb328)); replace HK := zM (Kept.below (S := (fun k_ => P0_ k_)) zB34 hb); have GE328 := zM ((by rw [hg]; exact (below_size zB1) : w0.heap.size ≤ gb328)); replace HB := zM (below_step zB1 hb); have NB319_328 := zM ((zn BK319.1 hg : gb319 ≠ gb328)); have NB328_319 := zM ((zm BK319.1 hg : gb328 ≠ gb319)); replace BK319 := zM (zb BK319.1 hb); have NB320_328 := zM ((zn BK320.1 hg : gb320 ≠ gb328)); have NB328_320 := zM ((zm BK320.1 hg : gb328 ≠ gb320)); replace BK320 := zM (zb BK320.1 hb); clear hb hbox hg; have hnb65 := NB328_319.1; have hnc65 := NB319_328.1; have hnb66 := NB328_320.1; have hnc66 := NB320_328.1; have hcz67 := zc_5 (w := w64) BK328.1; have hcz68 := zc_3 (w := w64) BK319.1) | ((with_reducible refine zG Try.func73 22 #[.agg #[.int .i64 t322, .int .i64 t323, .int .i64 t324, .int .i64 t325, .int .i64 t326], .slice A1_0 l1_0.length c1_0] ?_); (with_reducible refine (impl_Target.calls t322 t323 t324 t325 t326 _ _ l1_0 t329 _ ?side1 ?side2 A6.1).mono ?_); (case side1 => exact Kd.C_kept_now HR1_0.1 zB36); (case side2 => exact HC1_0.1); rintro e w69 ⟨rfl, hb⟩; refine ⟨_, rfl, ?_⟩; replace HO0 := zM (Kd.R_below (by refine zrR ?_; exact (Kd.R_mono (zfR (zfR (zfR (zfR (zfR (Kd.R_types HO0.1 BK328.1 (by decide))))))) (fun _ h_ => h_.1))) hb); replace BK319 := zM (zf BK319.1 hb); replace BK320 := zM (zf BK320.1 hb); replace BK328 := zM (blk_below (g := gb328) (o := .cells #[.int .i64 t322, .int .i64 t323, .int .i64 t324, .int .i64 t325, .int .i64 t326] 71 (0, 0)) (by exact zp5 (zK BK328.1)) hb); replace HK := zM (Kept.below (S := (fun k_ => P0_ k_)) zB36 hb); replace HB := zM (below_step zB1 hb); clear hb; have hcz70 := zc_3 (w := w69) BK319.1; have hcz71 := zc_5 (w := w69) BK328.1) | ((with_reducible refine zG Try.func74 33 #[.agg #[.slice A1_0 l1_0.length c1_0, .int .i64 a1_1, .int .i64 a1_2], .agg #[.int .i64 t322, .int .i64 t323, .int .i64 t324, .int .i64 t325, .int .i64 t326], .int .i64 0] ?_); (with_reducible refine (impl_Work.calls k _ _ l1_0 a1_1 a1_2 t322 t323 t324 t325 t326 0 t338 t341 t342 t343 _ ?side1 ?side2 A53.1).mono ?_); (case side1 => exact Kd.C_kept_now HR1_0.1 zB36); (case side2 => exact HC1_0.1); rintro e w72 ⟨v339, rfl, ho0, hb⟩; refine ⟨_, rfl, ?_⟩; have HO340 := zM (Kd.R_lower (Kd.R_new' (Kd.R_newM (M := fun k_ => (P0_ k_ ∨ w.heap.size ≤ k_)) ho0 (by first | exact HK.1.1 | exact (show Kept w _ (fun k_ => P0_ k_) from zB36).1) (fun k_ h_ => .inr h_)) (Kd.R_lt (zR HO0.1))) (below_size zB1)); replace HO0 := zM (Kd.R_elder' (zR HO0.1) (Kd.R_base ho0) hb); replace BK319 := zM (zb BK319.1 hb); replace BK320 := zM (zb BK320.1 hb); replace BK328 := zM (zb BK328.1 hb); replace HK := zM (Kept.below (S := (fun k_ => P0_ k_)) zB36 hb); replace HB := zM (below_step zB1 hb); clear hb ho0; obtain ⟨Ao73, co73, eo73⟩ := Kd.R_slice HO340.1; subst eo73; have hcz74 := zc_3 (w := w72) BK319.1) | ((with_reducible refine gate_store (t := 49) (p := 3) rfl ?_); refine store_event (t := 49) (p := 3) (v := ?vo_w75) (w1 := (((w72.setCell ⟨gb319, 0, none⟩ (.slice Ao73 t338.length co73)).setCell ⟨gb319, 1, none⟩ (.int .i64 t341)).setCell ⟨gb319, 2, none⟩ (.int .i64 t342))) ?hg ?ho ?hn ?hr ?_; (case ho => rfl); (case hg => rfl); (case hn => rfl); (case hr => exact zHH); intro w75 hw; have n0_ : Aside0 (Kd.R (Kd.int .i64) 3 w75 w0.heap.size (fun k_ => (P0_ k_ ∨ w.heap.size ≤ k_) ∧ some k_ ≠ (.slice Ao73 t338.length co73 : Value).ownBlock) (.slice (some ad321) l0.length co62) l0) := ⟨(by rw [hw]; exact (by refine zrR ?_; exact Kd.R_mono (zfR (zfR (zfR (Kd.R_types HO0.1 BK319.1 (by decide))))) (fun _ hk => ⟨hk.1.1, hk.1.2⟩)))⟩; have n1_ : Aside0 (Kd.R (Kd.int .i64) 3 w75 w0.heap.size (fun k_ => (P0_ k_ ∨ w.heap.size ≤ k_) ∧ some k_ ≠ (.slice (some ad321) l0.length co62 : Value).ownBlock) (.slice Ao73 t338.length co73) t338) := ⟨(by rw [hw]; exact (by refine zrR ?_; exact Kd.R_mono (zfR (zfR (zfR (Kd.R_types HO340.1 BK319.1 (by decide))))) (fun _ hk => ⟨hk.1.1.1, hk.1.2⟩)))⟩; have n2_ : Aside0 (w75.heap[gb319]? = some (.cells #[.slice Ao73 t338.length co73, .int .i64 t341, .int .i64 t342] 49 (0, 0))) := ⟨(by rw [hw]; exact (by exact zp3 (zK BK319.1)))⟩; have n3_ : Aside0 (w75.heap[gb320]? = some (.cells #[.slice none 0 0, .int .i64 0, .int .i64 0] 49 (0, 0))) := ⟨(by rw [hw]; exact zPq)⟩; have n4_ : Aside0 (w75.heap[gb328]? = some (.cells #[.int .i64 t322, .int .i64 t323, .int .i64 t324, .int .i64 t325, .int .i64 t326] 71 (0, 0))) := ⟨(by rw [hw]; exact zPq)⟩; have n5_ : Aside0 (Kept w w75 (fun k_ => P0_ k_)) := ⟨(by rw [hw]; exact zB36)⟩; have n6_ : Aside0 (Below w0.heap.size w0 w75) := ⟨(by rw [hw]; exact zB1)⟩; clear hw; clear HO0; clear HO340; clear BK319; clear BK320; clear BK328; clear HK; clear HB; have HO0 := n0_; have HO340 := n1_; have BK319 := n2_; have BK320 := n3_; have BK328 := n4_; have HK := n5_; have HB := n6_; clear n0_ n1_ n2_ n3_ n4_ n5_ n6_; have p57 : 0 ≤ (t329 : Int) := zA; have q57 : (t329 : Int) < ((l0.length : Int) : Int) := zA; obtain ⟨go57, co57, eo57, gb57, gl57, cl57, HG57⟩ := Kd.R_form HO0.1 (by omega); (first | cases eo57 | (injection eo57 with ea_ en_ ec_; (first | subst ea_ | (injection ea_ with ea_; subst ea_)); subst ec_; clear en_)); have GB57 := zM gb57; have GG57 := zM HG57; clear gb57 gl57 HG57; have HMgo57 := zM (show (P0_ go57 ∨ w.heap.size ≤ go57) from (HO0.1.1 _ rfl).1); (first | simp only [add_plain] at hx321_0 | skip); (first | simp only [add_plain] at hx330_0 | skip); obtain ⟨hx57_0, hf57_0⟩ := Kd.R_celln 0 HO0.1 (t329 : Int) p57 q57; replace p57 := eq_true p57; replace q57 := eq_true q57; obtain ⟨hy76_, hz76_⟩ := Kd.R_celln 0 HO0.1 (t329 : Int) zA zA; have HP76 := Kd.R_putg HO0.1 (t329 : Int) t343) | ((with_reducible refine gate_store (t := 3) (p := 41) rfl ?_); refine store_event (t := 3) (p := 41) (v := ?vo_w77) (w1 := (w75.setCell ⟨go57, (t329 : Int).toNat, none⟩ (.int .i64 t343))) ?hg ?ho ?hn ?hr ?_; (case ho => rfl); (case hg => rfl); (case hn => rfl); (case hr => exact zHH); intro w77 hw; have hg : w75.grownBy w77 (some go57) := (by rw [hw]; exact HP76.2); have hp_ : Kd.R (Kd.int .i64) 3 w77 w0.heap.size (fun k_ => (P0_ k_ ∨ w.heap.size ≤ k_) ∧ some k_ ≠ (.slice Ao73 t338.length co73 : Value).ownBlock) (.slice (some ⟨go57, 0, none⟩) l0.length co62) y344 := (by rw [hw, Ny344.1]; exact HP76.1); clear HP76; replace BK319 := zM (zg BK319.1 hg (Kd.R_ne HO0.1 BK319.1 (by decide))); replace BK320 := zM (zg BK320.1 hg (Kd.R_ne HO0.1 BK320.1 (by decide))); replace BK328 := zM (zg BK328.1 hg (Kd.R_ne HO0.1 BK328.1 (by decide))); replace HO340 := zM (Kd.R_after (v := (.slice (some ⟨go57, 0, none⟩) l0.length co62)) (v1 := (.slice (some ⟨go57, 0, none⟩) l0.length co62)) (ok := (fun k_ => (P0_ k_ ∨ w.heap.size ≤ k_))) (zR HO340.1) hg (.inl rfl)); replace HB := zM ((by rw [hw]; exact below_set (HB.1) GB57.1 : Below w0.heap.size w0 w77)); replace HK := zM (Kept.of_grown (S := (fun k_ => P0_ k_)) hg zB36 (fun k_ e_ => (HO0.1.1 k_ e_).1)); replace HO0 := zM hp_; clear hg hw hp_; have hcz78 := zc_3 (w := w77) BK319.1; have hcz79 := zc_3 (w := w77) BK320.1))
  refine bodyPost_ret (results_cell_row rfl _ _ gb320 49 #[.slice Ao73 t338.length co73, .int .i64 t341, .int .i64 t342] (0, 0) _ rfl (by exact zp3 (zK BK320.1)) Try.underlying49 rfl (by kernel_rfl)) rfl ?_
  exact ⟨_, zE, by refine zrR ?_; exact Kd.R_mono (zfR (zfR (zfR (Kd.R_types HO340.1 BK320.1 (by decide))))) (fun _ hk => ⟨hk.1.1, hk.1.2⟩), by refine zrR ?_; exact Kd.R_mono (zfR (zfR (zfR (Kd.R_types HO0.1 BK320.1 (by decide))))) (fun _ hk => hk.1.1), zB1, zB36⟩
 rw [if_pos c7] at H
 have c7b0 := decide_eq_true c7
 clear c7
 replace H := zIt H
 obtain ⟨c8b0, H⟩ := H
 replace H := zIt H
 obtain ⟨c9b0, H⟩ := H
 replace H := zO H
 obtain ⟨⟨t331, t334, t335, t336⟩, A10, H⟩ := H
 try dsimp only at H
 by_cases c11 : t336 ≥ 0
 rotate_left
 ·rw [if_neg c11] at H
  have c11b0 := decide_eq_false c11
  clear c11
  simp only [Option.some.injEq, Prod.mk.injEq] at H
  obtain ⟨rfl, rfl, rfl, rfl⟩ := H
  go_enter Try.func55, Try.ntmps55
  go_wp2_with (first | ((with_reducible refine zBx 3 49 #[.slice A1_0 l1_0.length c1_0, .int .i64 a1_1, .int .i64 a1_2] ?_); intro gb319 hg w35 hbox hb; replace HO0 := zM (Kd.R_below (zR HO0.1) hb); have BK319 := zM hbox; have GW319 := zM ((by rw [hg]; exact (by first | exact HK.1.1 | exact (show Kept w _ (fun k_ => P0_ k_) from zB31).1) : w.heap.size ≤ gb319)); replace HK := zM (Kept.below (S := (fun k_ => P0_ k_)) zB31 hb); have GE319 := zM ((by rw [hg]; exact (below_size zB1) : w0.heap.size ≤ gb319)); replace HB := zM (below_step zB1 hb); clear hb hbox hg) | ((with_reducible refine zBx 4 49 #[.slice none 0 0, .int .i64 0, .int .i64 0] ?_); intro gb320 hg w36 hbox hb; replace HO0 := zM (Kd.R_below (zR HO0.1) hb); have BK320 := zM hbox; have GW320 := zM ((by rw [hg]; exact (by first | exact HK.1.1 | exact (show Kept w _ (fun k_ => P0_ k_) from zB32).1) : w.heap.size ≤ gb320)); replace HK := zM (Kept.below (S := (fun k_ => P0_ k_)) zB32 hb); have GE320 := zM ((by rw [hg]; exact (below_size zB1) : w0.heap.size ≤ gb320)); replace HB := zM (below_step zB1 hb); have NB319_320 := zM ((zn BK319.1 hg : gb319 ≠ gb320)); have NB320_319 := zM ((zm BK319.1 hg : gb320 ≠ gb319)); replace BK319 := zM (zb BK319.1 hb); clear hb hbox hg; have hnb37 := NB319_320.1; have hnc37 := NB320_319.1; have hcz38 := zc_3 (w := w36) BK319.1; obtain ⟨Ao39, co39, eo39⟩ := Kd.R_slice HO0.1; subst eo39; have p321 : 0 ≤ (a1_1 : Int) := zA; have q321 : a1_1 < (l0.length : Int) := zA; obtain ⟨ad321, e321, hx321_0⟩ := Kd.at_int (Kd.R_reads' HO0.1).2.2 a1_1 p321 q321; cases e321; replace p321 := eq_true p321; replace q321 := eq_true q321) | ((with_reducible refine zG Try.func72 16 #[.int .i64 (rd l0 a1_1)] ?_); (with_reducible refine (impl_Decode.calls (rd l0 a1_1) t322 t323 t324 t325 t326 t327 _ A5.1).mono ?_); rintro e w40 ⟨rfl, hb⟩; refine ⟨_, rfl, ?_⟩; replace HO0 := zM (Kd.R_below (zR HO0.1) hb); replace BK319 := zM (zb BK319.1 hb); replace BK320 := zM (zb BK320.1 hb); replace HK := zM (Kept.below (S := (fun k_ => P0_ k_)) zB34 hb); replace HB := zM (below_step zB1 hb); clear hb) | ((with_reducible refine zBx 5 71 #[.int .i64 0, .int .i64 0, .int .i64 0, .int .i64 0, .int .i64 0] ?_); intro gb328 hg w41 hbox hb; replace HO0 := zM (Kd.R_below (zR HO0.1) hb); have BK328 := zM hbox; have GW328 := zM ((by rw [hg]; exact (by first | exact HK.1.1 | exact (show Kept w _ (fun k_ => P0_ k_) from zB34).1) : w.heap.size ≤ gb328)); replace HK := zM (Kept.below (S := (fun k_ => P0_ k_)) zB34 hb); have GE328 := zM ((by rw [hg]; exact (below_size zB1) : w0.heap.size ≤ gb328)); replace HB := zM (below_step zB1 hb); have NB319_328 := zM ((zn BK319.1 hg : gb319 ≠ gb328)); have NB328_319 := zM ((zm BK319.1 hg : gb328 ≠ gb319)); replace BK319 := zM (zb BK319.1 hb); have NB320_328 := zM ((zn BK320.1 hg : gb320 ≠ gb328)); have NB328_320 := zM ((zm BK320.1 hg : gb328 ≠ gb320)); replace BK320 := zM (zb BK320.1 hb); clear hb hbox hg; have hnb42 := NB328_319.1; have hnc42 := NB319_328.1; have hnb43 := NB328_320.1; have hnc43 := NB320_328.1; have hcz44 := zc_5 (w := w41) BK328.1; have hcz45 := zc_3 (w := w41) BK319.1) | ((with_reducible refine zG Try.func73 22 #[.agg #[.int .i64 t322, .int .i64 t323, .int .i64 t324, .int .i64 t325, .int .i64 t326], .slice A1_0 l1_0.length c1_0] ?_); (with_reducible refine (impl_Target.calls t322 t323 t324 t325 t326 _ _ l1_0 t329 _ ?side1 ?side2 A6.1).mono ?_); (case side1 => exact Kd.C_kept_now HR1_0.1 zB36); (case side2 => exact HC1_0.1); rintro e w46 ⟨rfl, hb⟩; refine ⟨_, rfl, ?_⟩; replace HO0 := zM (Kd.R_below (by refine zrR ?_; exact (Kd.R_mono (zfR (zfR (zfR (zfR (zfR (Kd.R_types HO0.1 BK328.1 (by decide))))))) (fun _ h_ => h_.1))) hb); replace BK319 := zM (zf BK319.1 hb); replace BK320 := zM (zf BK320.1 hb); replace BK328 := zM (blk_below (g := gb328) (o := .cells #[.int .i64 t322, .int .i64 t323, .int .i64 t324, .int .i64 t325, .int .i64 t326] 71 (0, 0)) (by exact zp5 (zK BK328.1)) hb); replace HK := zM (Kept.below (S := (fun k_ => P0_ k_)) zB36 hb); replace HB := zM (below_step zB1 hb); clear hb; have p330 : 0 ≤ (t329 : Int) := zA; have q330 : t329 < (l0.length : Int) := zA; obtain ⟨ad330, e330, hx330_0⟩ := Kd.at_int (Kd.R_reads' HO0.1).2.2 t329 p330 q330; obtain rfl : ad321 = ad330 := (by injection e330); replace p330 := eq_true p330; replace q330 := eq_true q330; have hcz47 := zc_3 (w := w46) BK319.1; have hcz48 := zc_5 (w := w46) BK328.1) | ((with_reducible refine zG Try.func74 33 #[.agg #[.slice A1_0 l1_0.length c1_0, .int .i64 a1_1, .int .i64 a1_2], .agg #[.int .i64 t322, .int .i64 t323, .int .i64 t324, .int .i64 t325, .int .i64 t326], .int .i64 (rd l0 t329)] ?_); (with_reducible refine (impl_Work.calls k _ _ l1_0 a1_1 a1_2 t322 t323 t324 t325 t326 (rd l0 t329) t331 t334 t335 t336 _ ?side1 ?side2 A10.1).mono ?_); (case side1 => exact Kd.C_kept_now HR1_0.1 zB36); (case side2 => exact HC1_0.1); rintro e w49 ⟨v332, rfl, ho0, hb⟩; refine ⟨_, rfl, ?_⟩; have HO333 := zM (Kd.R_lower (Kd.R_new' (Kd.R_newM (M := fun k_ => (P0_ k_ ∨ w.heap.size ≤ k_)) ho0 (by first | exact HK.1.1 | exact (show Kept w _ (fun k_ => P0_ k_) from zB36).1) (fun k_ h_ => .inr h_)) (Kd.R_lt (zR HO0.1))) (below_size zB1)); replace HO0 := zM (Kd.R_elder' (zR HO0.1) (Kd.R_base ho0) hb); replace BK319 := zM (zb BK319.1 hb); replace BK320 := zM (zb BK320.1 hb); replace BK328 := zM (zb BK328.1 hb); replace HK := zM (Kept.below (S := (fun k_ => P0_ k_)) zB36 hb); replace HB := zM (below_step zB1 hb); clear hb ho0; obtain ⟨Ao50, co50, eo50⟩ := Kd.R_slice HO333.1; subst eo50; have hcz51 := zc_3 (w := w49) BK319.1; have hcz52 := zc_3 (w := w49) BK320.1))
  refine bodyPost_ret (results_cell_row rfl _ _ gb320 49 #[.slice Ao50 t331.length co50, .int .i64 t334, .int .i64 t335] (0, 0) _ rfl zPq Try.underlying49 rfl (by kernel_rfl)) rfl ?_
  exact ⟨_, zE, by refine zrR ?_; exact Kd.R_mono (zfR (zfR (zfR (Kd.R_far (p := ⟨gb319, 2, none⟩) (Kd.R_far (p := ⟨gb319, 1, none⟩) (Kd.R_far (p := ⟨gb319, 0, none⟩) (Kd.R_types (Kd.R_types HO333.1 BK319.1 (by decide)) BK320.1 (by decide)) (fun _ hk => hk.1.2) (.slice Ao50 t331.length co50)) (fun _ hk => hk.1.2) (.int .i64 t334)) (fun _ hk => hk.1.2) (.int .i64 t335))))) (fun _ hk => ⟨hk.1.1.1.1, hk.1.1.2⟩), by refine zrR ?_; exact Kd.R_mono (zfR (zfR (zfR (Kd.R_far (p := ⟨gb319, 2, none⟩) (Kd.R_far (p := ⟨gb319, 1, none⟩) (Kd.R_far (p := ⟨gb319, 0, none⟩) (Kd.R_types (Kd.R_types HO0.1 BK319.1 (by decide)) BK320.1 (by decide)) (fun _ hk => hk.1.2) (.slice Ao50 t331.length co50)) (fun _ hk => hk.1.2) (.int .i64 t334)) (fun _ hk => hk.1.2) (.int .i64 t335))))) (fun _ hk => hk.1.1.1), zB1, zB36⟩
 rw [if_pos c11] at H
 have c11b0 := decide_eq_true c11
 clear c11
 generalize hy337 : ((l0.set (t329 : Int).toNat t336) : List Int) = y337 at H
 have Ny337 := zM hy337.symm
 clear hy337
 simp only [Option.some.injEq, Prod.mk.injEq] at H
 obtain ⟨rfl, rfl, rfl, rfl⟩ := H
 go_enter Try.func55, Try.ntmps55
 go_wp2_with (first | ((with_reducible refine zBx 3 49 #[.slice A1_0 l1_0.length c1_0, .int .i64 a1_1, .int .i64 a1_2] ?_); intro gb319 hg w13 hbox hb; replace HO0 := zM (Kd.R_below (zR HO0.1) hb); have BK319 := zM hbox; have GW319 := zM ((by rw [hg]; exact (by first | exact HK.1.1 | exact (show Kept w _ (fun k_ => P0_ k_) from zB31).1) : w.heap.size ≤ gb319)); replace HK := zM (Kept.below (S := (fun k_ => P0_ k_)) zB31 hb); have GE319 := zM ((by rw [hg]; exact (below_size zB1) : w0.heap.size ≤ gb319)); replace HB := zM (below_step zB1 hb); clear hb hbox hg) | ((with_reducible refine zBx 4 49 #[.slice none 0 0, .int .i64 0, .int .i64 0] ?_); intro gb320 hg w14 hbox hb; replace HO0 := zM (Kd.R_below (zR HO0.1) hb); have BK320 := zM hbox; have GW320 := zM ((by rw [hg]; exact (by first | exact HK.1.1 | exact (show Kept w _ (fun k_ => P0_ k_) from zB32).1) : w.heap.size ≤ gb320)); replace HK := zM (Kept.below (S := (fun k_ => P0_ k_)) zB32 hb); have GE320 := zM ((by rw [hg]; exact (below_size zB1) : w0.heap.size ≤ gb320)); replace HB := zM (below_step zB1 hb); have NB319_320 := zM ((zn BK319.1 hg : gb319 ≠ gb320)); have NB320_319 := zM ((zm BK319.1 hg : gb320 ≠ gb319)); replace BK319 := zM (zb BK319.1 hb); clear hb hbox hg; have hnb15 := NB319_320.1; have hnc15 := NB320_319.1; have hcz16 := zc_3 (w := w14) BK319.1; obtain ⟨Ao17, co17, eo17⟩ := Kd.R_slice HO0.1; subst eo17; have p321 : 0 ≤ (a1_1 : Int) := zA; have q321 : a1_1 < (l0.length : Int) := zA; obtain ⟨ad321, e321, hx321_0⟩ := Kd.at_int (Kd.R_reads' HO0.1).2.2 a1_1 p321 q321; cases e321; replace p321 := eq_true p321; replace q321 := eq_true q321) | ((with_reducible refine zG Try.func72 16 #[.int .i64 (rd l0 a1_1)] ?_); (with_reducible refine (impl_Decode.calls (rd l0 a1_1) t322 t323 t324 t325 t326 t327 _ A5.1).mono ?_); rintro e w18 ⟨rfl, hb⟩; refine ⟨_, rfl, ?_⟩; replace HO0 := zM (Kd.R_below (zR HO0.1) hb); replace BK319 := zM (zb BK319.1 hb); replace BK320 := zM (zb BK320.1 hb); replace HK := zM (Kept.below (S := (fun k_ => P0_ k_)) zB34 hb); replace HB := zM (below_step zB1 hb); clear hb) | ((with_reducible refine zBx 5 71 #[.int .i64 0, .int .i64 0, .int .i64 0, .int .i64 0, .int .i64 0] ?_); intro gb328 hg w19 hbox hb; replace HO0 := zM (Kd.R_below (zR HO0.1) hb); have BK328 := zM hbox; have GW328 := zM ((by rw [hg]; exact (by first | exact HK.1.1 | exact (show Kept w _ (fun k_ => P0_ k_) from zB34).1) : w.heap.size ≤ gb328)); replace HK := zM (Kept.below (S := (fun k_ => P0_ k_)) zB34 hb); have GE328 := zM ((by rw [hg]; exact (below_size zB1) : w0.heap.size ≤ gb328)); replace HB := zM (below_step zB1 hb); have NB319_328 := zM ((zn BK319.1 hg : gb319 ≠ gb328)); have NB328_319 := zM ((zm BK319.1 hg : gb328 ≠ gb319)); replace BK319 := zM (zb BK319.1 hb); have NB320_328 := zM ((zn BK320.1 hg : gb320 ≠ gb328)); have NB328_320 := zM ((zm BK320.1 hg : gb328 ≠ gb320)); replace BK320 := zM (zb BK320.1 hb); clear hb hbox hg; have hnb20 := NB328_319.1; have hnc20 := NB319_328.1; have hnb21 := NB328_320.1; have hnc21 := NB320_328.1; have hcz22 := zc_5 (w := w19) BK328.1; have hcz23 := zc_3 (w := w19) BK319.1) | ((with_reducible refine zG Try.func73 22 #[.agg #[.int .i64 t322, .int .i64 t323, .int .i64 t324, .int .i64 t325, .int .i64 t326], .slice A1_0 l1_0.length c1_0] ?_); (with_reducible refine (impl_Target.calls t322 t323 t324 t325 t326 _ _ l1_0 t329 _ ?side1 ?side2 A6.1).mono ?_); (case side1 => exact Kd.C_kept_now HR1_0.1 zB36); (case side2 => exact HC1_0.1); rintro e w24 ⟨rfl, hb⟩; refine ⟨_, rfl, ?_⟩; replace HO0 := zM (Kd.R_below (by refine zrR ?_; exact (Kd.R_mono (zfR (zfR (zfR (zfR (zfR (Kd.R_types HO0.1 BK328.1 (by decide))))))) (fun _ h_ => h_.1))) hb); replace BK319 := zM (zf BK319.1 hb); replace BK320 := zM (zf BK320.1 hb); replace BK328 := zM (blk_below (g := gb328) (o := .cells #[.int .i64 t322, .int .i64 t323, .int .i64 t324, .int .i64 t325, .int .i64 t326] 71 (0, 0)) (by exact zp5 (zK BK328.1)) hb); replace HK := zM (Kept.below (S := (fun k_ => P0_ k_)) zB36 hb); replace HB := zM (below_step zB1 hb); clear hb; have p330 : 0 ≤ (t329 : Int) := zA; have q330 : t329 < (l0.length : Int) := zA; obtain ⟨ad330, e330, hx330_0⟩ := Kd.at_int (Kd.R_reads' HO0.1).2.2 t329 p330 q330; obtain rfl : ad321 = ad330 := (by injection e330); replace p330 := eq_true p330; replace q330 := eq_true q330; have hcz25 := zc_3 (w := w24) BK319.1; have hcz26 := zc_5 (w := w24) BK328.1) | ((with_reducible refine zG Try.func74 33 #[.agg #[.slice A1_0 l1_0.length c1_0, .int .i64 a1_1, .int .i64 a1_2], .agg #[.int .i64 t322, .int .i64 t323, .int .i64 t324, .int .i64 t325, .int .i64 t326], .int .i64 (rd l0 t329)] ?_); (with_reducible refine (impl_Work.calls k _ _ l1_0 a1_1 a1_2 t322 t323 t324 t325 t326 (rd l0 t329) t331 t334 t335 t336 _ ?side1 ?side2 A10.1).mono ?_); (case side1 => exact Kd.C_kept_now HR1_0.1 zB36); (case side2 => exact HC1_0.1); rintro e w27 ⟨v332, rfl, ho0, hb⟩; refine ⟨_, rfl, ?_⟩; have HO333 := zM (Kd.R_lower (Kd.R_new' (Kd.R_newM (M := fun k_ => (P0_ k_ ∨ w.heap.size ≤ k_)) ho0 (by first | exact HK.1.1 | exact (show Kept w _ (fun k_ => P0_ k_) from zB36).1) (fun k_ h_ => .inr h_)) (Kd.R_lt (zR HO0.1))) (below_size zB1)); replace HO0 := zM (Kd.R_elder' (zR HO0.1) (Kd.R_base ho0) hb); replace BK319 := zM (zb BK319.1 hb); replace BK320 := zM (zb BK320.1 hb); replace BK328 := zM (zb BK328.1 hb); replace HK := zM (Kept.below (S := (fun k_ => P0_ k_)) zB36 hb); replace HB := zM (below_step zB1 hb); clear hb ho0; obtain ⟨Ao28, co28, eo28⟩ := Kd.R_slice HO333.1; subst eo28; have hcz29 := zc_3 (w := w27) BK319.1) | ((with_reducible refine gate_store (t := 49) (p := 3) rfl ?_); refine store_event (t := 49) (p := 3) (v := ?vo_w30) (w1 := (((w27.setCell ⟨gb319, 0, none⟩ (.slice Ao28 t331.length co28)).setCell ⟨gb319, 1, none⟩ (.int .i64 t334)).setCell ⟨gb319, 2, none⟩ (.int .i64 t335))) ?hg ?ho ?hn ?hr ?_; (case ho => rfl); (case hg => rfl); (case hn => rfl); (case hr => exact zHH); intro w30 hw; have n0_ : Aside0 (Kd.R (Kd.int .i64) 3 w30 w0.heap.size (fun k_ => (P0_ k_ ∨ w.heap.size ≤ k_) ∧ some k_ ≠ (.slice Ao28 t331.length co28 : Value).ownBlock) (.slice (some ad321) l0.length co17) l0) := ⟨(by rw [hw]; exact (by refine zrR ?_; exact Kd.R_mono (zfR (zfR (zfR (Kd.R_types HO0.1 BK319.1 (by decide))))) (fun _ hk => ⟨hk.1.1, hk.1.2⟩)))⟩; have n1_ : Aside0 (Kd.R (Kd.int .i64) 3 w30 w0.heap.size (fun k_ => (P0_ k_ ∨ w.heap.size ≤ k_) ∧ some k_ ≠ (.slice (some ad321) l0.length co17 : Value).ownBlock) (.slice Ao28 t331.length co28) t331) := ⟨(by rw [hw]; exact (by refine zrR ?_; exact Kd.R_mono (zfR (zfR (zfR (Kd.R_types HO333.1 BK319.1 (by decide))))) (fun _ hk => ⟨hk.1.1.1, hk.1.2⟩)))⟩; have n2_ : Aside0 (w30.heap[gb319]? = some (.cells #[.slice Ao28 t331.length co28, .int .i64 t334, .int .i64 t335] 49 (0, 0))) := ⟨(by rw [hw]; exact (by exact zp3 (zK BK319.1)))⟩; have n3_ : Aside0 (w30.heap[gb320]? = some (.cells #[.slice none 0 0, .int .i64 0, .int .i64 0] 49 (0, 0))) := ⟨(by rw [hw]; exact zPq)⟩; have n4_ : Aside0 (w30.heap[gb328]? = some (.cells #[.int .i64 t322, .int .i64 t323, .int .i64 t324, .int .i64 t325, .int .i64 t326] 71 (0, 0))) := ⟨(by rw [hw]; exact zPq)⟩; have n5_ : Aside0 (Kept w w30 (fun k_ => P0_ k_)) := ⟨(by rw [hw]; exact zB36)⟩; have n6_ : Aside0 (Below w0.heap.size w0 w30) := ⟨(by rw [hw]; exact zB1)⟩; clear hw; clear HO0; clear HO333; clear BK319; clear BK320; clear BK328; clear HK; clear HB; have HO0 := n0_; have HO333 := n1_; have BK319 := n2_; have BK320 := n3_; have BK328 := n4_; have HK := n5_; have HB := n6_; clear n0_ n1_ n2_ n3_ n4_ n5_ n6_; have p12 : 0 ≤ (t329 : Int) := zA; have q12 : (t329 : Int) < ((l0.length : Int) : Int) := zA; obtain ⟨go12, co12, eo12, gb12, gl12, cl12, HG12⟩ := Kd.R_form HO0.1 (by omega); (first | cases eo12 | (injection eo12 with ea_ en_ ec_; (first | subst ea_ | (injection ea_ with ea_; subst ea_)); subst ec_; clear en_)); have GB12 := zM gb12; have GG12 := zM HG12; clear gb12 gl12 HG12; have HMgo12 := zM (show (P0_ go12 ∨ w.heap.size ≤ go12) from (HO0.1.1 _ rfl).1); (first | simp only [add_plain] at hx321_0 | skip); (first | simp only [add_plain] at hx330_0 | skip); obtain ⟨hx12_0, hf12_0⟩ := Kd.R_celln 0 HO0.1 (t329 : Int) p12 q12; replace p12 := eq_true p12; replace q12 := eq_true q12; obtain ⟨hy31_, hz31_⟩ := Kd.R_celln 0 HO0.1 (t329 : Int) zA zA; have HP31 := Kd.R_putg HO0.1 (t329 : Int) t336) | ((with_reducible refine gate_store (t := 3) (p := 41) rfl ?_); refine store_event (t := 3) (p := 41) (v := ?vo_w32) (w1 := (w30.setCell ⟨go12, (t329 : Int).toNat, none⟩ (.int .i64 t336))) ?hg ?ho ?hn ?hr ?_; (case ho => rfl); (case hg => rfl); (case hn => rfl); (case hr => exact zHH); intro w32 hw; have hg : w30.grownBy w32 (some go12) := (by rw [hw]; exact HP31.2); have hp_ : Kd.R (Kd.int .i64) 3 w32 w0.heap.size (fun k_ => (P0_ k_ ∨ w.heap.size ≤ k_) ∧ some k_ ≠ (.slice Ao28 t331.length co28 : Value).ownBlock) (.slice (some ⟨go12, 0, none⟩) l0.length co17) y337 := (by rw [hw, Ny337.1]; exact HP31.1); clear HP31; replace BK319 := zM (zg BK319.1 hg (Kd.R_ne HO0.1 BK319.1 (by decide))); replace BK320 := zM (zg BK320.1 hg (Kd.R_ne HO0.1 BK320.1 (by decide))); replace BK328 := zM (zg BK328.1 hg (Kd.R_ne HO0.1 BK328.1 (by decide))); replace HO333 := zM (Kd.R_after (v := (.slice (some ⟨go12, 0, none⟩) l0.length co17)) (v1 := (.slice (some ⟨go12, 0, none⟩) l0.length co17)) (ok := (fun k_ => (P0_ k_ ∨ w.heap.size ≤ k_))) (zR HO333.1) hg (.inl rfl)); replace HB := zM ((by rw [hw]; exact below_set (HB.1) GB12.1 : Below w0.heap.size w0 w32)); replace HK := zM (Kept.of_grown (S := (fun k_ => P0_ k_)) hg zB36 (fun k_ e_ => (HO0.1.1 k_ e_).1)); replace HO0 := zM hp_; clear hg hw hp_; have hcz33 := zc_3 (w := w32) BK319.1; have hcz34 := zc_3 (w := w32) BK320.1))
 refine bodyPost_ret (results_cell_row rfl _ _ gb320 49 #[.slice Ao28 t331.length co28, .int .i64 t334, .int .i64 t335] (0, 0) _ rfl (by exact zp3 (zK BK320.1)) Try.underlying49 rfl (by kernel_rfl)) rfl ?_
 exact ⟨_, zE, by refine zrR ?_; exact Kd.R_mono (zfR (zfR (zfR (Kd.R_types HO333.1 BK320.1 (by decide))))) (fun _ hk => ⟨hk.1.1, hk.1.2⟩), by refine zrR ?_; exact Kd.R_mono (zfR (zfR (zfR (Kd.R_types HO0.1 BK320.1 (by decide))))) (fun _ hk => hk.1.1), zB1, zB36⟩

/-! ### impl_Trace: function 26 -/
mutual
def impl_Trace.j0 : Nat → List Int → List (S49) → List Int → List (S31) → Bool → Option ((List (S31)))
 | 0, _, _, _, _, _ => none
 | k + 1, x0, x1, x2, x7, x18 => if x18 = true then (some x7) else ((slices_Clone_int_int.f x0).bind fun t349 => ((impl_copyHarts.f k x1).bind fun t352 => (impl_Trace.l0 k t349 t352 x7 x2 (x2.length : Int) 0)))
def impl_Trace.l0 : Nat → List Int → List (S49) → List (S31) → List Int → Int → Int → Option ((List (S31)))
 | 0, _, _, _, _, _, _ => none
 | k + 1, x0, x1, x7, x24, x25, x26 => if x26 < x25 then (if 0 ≤ x26 then (if x26 < (x24.length : Int) then ((impl_from.f (rd x24 x26) 0 (wrap64 ((x1.length : Int) - 1))).bind fun t356 => (if t356 = true then (if 0 ≤ (rd x24 x26) then (if (rd x24 x26) < (x1.length : Int) then ((impl_goes.f k ((rd_T49 x1 (rd x24 x26)).f0) ((rd_T49 x1 (rd x24 x26)).f1) ((rd_T49 x1 (rd x24 x26)).f2)).bind fun t358 => (impl_Trace.j2 k x0 x1 x7 (rd x24 x26) x24 x25 x26 t358)) else (none)) else (none)) else (impl_Trace.j2 k x0 x1 x7 (rd x24 x26) x24 x25 x26 false))) else (none)) else (none)) else (some x7)
def impl_Trace.j2 : Nat → List Int → List (S49) → List (S31) → Int → List Int → Int → Int → Bool → Option ((List (S31)))
 | 0, _, _, _, _, _, _, _, _ => none
 | k + 1, x0, x1, x7, x9, x24, x25, x26, x41 => if x41 = true then (if 0 ≤ x9 then (if x9 < (x1.length : Int) then ((impl_eventOf.f k x0 ((rd_T49 x1 x9).f0) ((rd_T49 x1 x9).f1) ((rd_T49 x1 x9).f2) x9).bind fun bt360 => (if x7.length < 3518437208883 then ((impl_step.f k x0 ((rd_T49 x1 x9).f0) ((rd_T49 x1 x9).f1) ((rd_T49 x1 x9).f2)).bind fun bt369 => (impl_Trace.l0 k bt369.2.2.2 (x1.set (x9 : Int).toNat (⟨bt369.1, bt369.2.1, bt369.2.2.1⟩ : S49)) (x7 ++ [(⟨bt360.1, bt360.2.1, bt360.2.2.1, bt360.2.2.2.1, bt360.2.2.2.2⟩ : S31)]) x24 x25 (wrap64 (x26 + 1)))) else (none))) else (none)) else (none)) else (impl_Trace.l0 k x0 x1 x7 x24 x25 (wrap64 (x26 + 1)))
end
def impl_Trace.f (k : Nat) (l0 : List Int) (l1 : List (S49)) (l2 : List Int) : Option ((List (S31))) := (some (([] : List (S31)) : List (S31))).bind fun y345 => (if (l2.length : Int) > 2000 then (impl_Trace.j0 k l0 l1 l2 y345 true) else ((impl_memOk.f k l0).bind fun t348 => (impl_Trace.j0 k l0 l1 l2 y345 (!t348))))
theorem impl_Trace.mono_l : ∀ k, (∀ y0 y1 y2 y3 y4, LeO (impl_Trace.j0 k y0 y1 y2 y3 y4) (impl_Trace.j0 (k + 1) y0 y1 y2 y3 y4)) ∧ (∀ y0 y1 y2 y3 y4 y5, LeO (impl_Trace.l0 k y0 y1 y2 y3 y4 y5) (impl_Trace.l0 (k + 1) y0 y1 y2 y3 y4 y5)) ∧ (∀ y0 y1 y2 y3 y4 y5 y6 y7, LeO (impl_Trace.j2 k y0 y1 y2 y3 y4 y5 y6 y7) (impl_Trace.j2 (k + 1) y0 y1 y2 y3 y4 y5 y6 y7))
 | 0 => ⟨fun _ _ _ _ _ r h => by simp [impl_Trace.j0] at h, fun _ _ _ _ _ _ r h => by simp [impl_Trace.l0] at h, fun _ _ _ _ _ _ _ _ r h => by simp [impl_Trace.j2] at h⟩
 | k + 1 => by
  obtain ⟨ih0, ih1, ih2⟩ := impl_Trace.mono_l k
  refine ⟨?_, ?_, ?_⟩
  ·intros
   unfold impl_Trace.j0
   have mo0 := @impl_copyHarts.mono
   have mo1 := @impl_eventOf.mono
   have mo2 := @impl_goes.mono
   have mo3 := @impl_memOk.mono
   have mo4 := @impl_step.mono
   exact zL
  ·intros
   unfold impl_Trace.l0
   have mo0 := @impl_copyHarts.mono
   have mo1 := @impl_eventOf.mono
   have mo2 := @impl_goes.mono
   have mo3 := @impl_memOk.mono
   have mo4 := @impl_step.mono
   exact zL
  ·intros
   unfold impl_Trace.j2
   have mo0 := @impl_copyHarts.mono
   have mo1 := @impl_eventOf.mono
   have mo2 := @impl_goes.mono
   have mo3 := @impl_memOk.mono
   have mo4 := @impl_step.mono
   exact zL
theorem impl_Trace.mono : ∀ a0 a1 a2 k, LeO (impl_Trace.f k a0 a1 a2) (impl_Trace.f (k + 1) a0 a1 a2) := by
 intro a0 a1 a2 k
 obtain ⟨ih0, ih1, ih2⟩ := impl_Trace.mono_l k
 unfold impl_Trace.f
 have mo0 := @impl_copyHarts.mono
 have mo1 := @impl_eventOf.mono
 have mo2 := @impl_goes.mono
 have mo3 := @impl_memOk.mono
 have mo4 := @impl_step.mono
 exact zL
theorem impl_Trace.calls (k : Nat) (A0 : Option Addr) (c0 : Nat) (l0 : List Int) (A1 : Option Addr) (c1 : Nat) (l1 : List (S49)) (A2 : Option Addr) (c2 : Nat) (l2 : List Int) (r : List (S31)) (w : World) (hr0 : Kd.C (Kd.int .i64) w A0 l0.length l0) (hc0 : l0.length ≤ c0) (hr1 : Kd.C k49 w A1 l1.length l1) (hc1 : l1.length ≤ c1) (hr2 : Kd.C (Kd.int .i64) w A2 l2.length l2) (hc2 : l2.length ≤ c2) (h : impl_Trace.f k l0 l1 l2 = some r) :
  Calls Try.prog 26 #[.slice A0 l0.length c0, .slice A1 l1.length c1, .slice A2 l2.length c2] w fun e w' => ∃ v0_ : Value, e = .returned (v0_) ∧ Kd.R k31 31 w' w.heap.size (fun _ => True) v0_ r ∧ Below w.heap.size w w' := by
 have hu49 := Try.underlying49
 have HR0 := zM hr0
 have HC0 := zM hc0
 clear hr0 hc0
 have HR1 := zM hr1
 have HC1 := zM hc1
 clear hr1 hc1
 have HR2 := zM hr2
 have HC2 := zM hc2
 clear hr2 hc2
 have HB := zM (Below.refl w.heap.size w)
 unfold impl_Trace.f at h
 have H := h
 clear h
 replace H := zY H
 obtain ⟨y345, Ny345, H⟩ := H
 have HC4 := zM H
 clear H
 go_enter Try.func26, Try.ntmps26
 go_upto_region 2 with (first | ((with_reducible refine gate_dst (N := 10) rfl ?_); refine Kd.R_lit k31 _ 31 ?hg (N := 10) ?hd (xs := ([] : List (S31))) (inner := []) (ok := fun _ => True) (okp := fun _ => True) ?hr ?hp (fun _ hk => hk) trivial (Below.refl _ _) (Nat.le_refl _) (by simp) ?_; (case hd => rfl); (case hg => rfl); (case hr => exact zHH); (case hp => exact (Reps.none _ _)); intro v346 w5 ho6 hb hg_ hnew_; clear hg_ hnew_; (first | rw [← Ny345.1] at ho6 | (simp only [Int.reduceToNat] at ho6; rw [← Ny345.1] at ho6)); have HO347 := zM (Kd.R_lower ho6 (below_size zB1)); replace HB := zM (below_step zB1 hb); clear hb ho6))
 (try simp only [Act.put, List.setIfInBounds_toArray, List.set_cons_zero, List.set_cons_succ])
 go_cut [18] (fun v18 wc => ∃ (kq : Nat) (x18_3 : Bool), v18 = .bool x18_3 ∧ Aside0 (impl_Trace.j0 kq l0 l1 l2 y345 x18_3 = some r) ∧ Aside0 (kq ≤ k) ∧ Aside0 (Kd.R k31 31 wc w.heap.size (fun _ => True) v346 y345) ∧ Aside0 (Below w.heap.size w wc))
 case first =>
  have H := HC4.1
  clear HC4
  by_cases c7 : (l2.length : Int) > 2000
  ·rw [if_pos c7] at H
   have c7b0 := decide_eq_true c7
   have c7b1 : decide (2000 < l2.length) = true := decide_eq_true (by omega)
   clear c7
   (first | rw [c7b0] | (simp only [i64_w, i32_w]; rw [c7b0]) | skip)
   have H' := zM H
   clear H
   go_wp2
   go_meet
   case rel => exact ⟨_, (true), zJJ, H', ⟨by first | omega | exact Nat.le_refl _⟩, ⟨zR HO347.1⟩, ⟨zB1⟩⟩
  rw [if_neg c7] at H
  have c7b0 := decide_eq_false c7
  have c7b1 : decide (2000 < l2.length) = false := decide_eq_false (by omega)
  clear c7
  (first | rw [c7b0] | (simp only [i64_w, i32_w]; rw [c7b0]) | skip)
  replace H := zO H
  obtain ⟨t348, A8, H⟩ := H
  have H' := zM H
  clear H
  go_wp2_with (first | (go_at_call 50; (with_reducible refine (impl_memOk.calls k _ _ l0 t348 _ ?side1 ?side2 A8.1).mono ?_); (case side1 => exact zC (Kd.C_below HR0.1 HB.1)); (case side2 => exact HC0.1); rintro e w' ⟨rfl, ⟨nd, rfl⟩⟩))
  go_meet
  case rel => exact ⟨_, (!t348), zJJ, H', ⟨by first | omega | exact Nat.le_refl _⟩, ⟨zR HO347.1⟩, ⟨zB1⟩⟩
 case rest =>
  clear HC4
  obtain ⟨kq, x18_3, rfl, HA, HJ3, HO_7, HB⟩ := hcut
  cases kq with
  | zero => exact absurd HA.1 (by simp [impl_Trace.j0])
  | succ kj3 =>
   have H := HA.1
   clear HA
   simp only [impl_Trace.j0] at H
   by_cases c9 : x18_3 = true
   ·subst c9
    rw [if_pos rfl] at H
    obtain rfl := Option.some.inj H
    go_wp2
    go_ret
    exact ⟨_, zE, zR HO_7.1, zB1⟩
   replace c9 := Bool.eq_false_iff.mpr c9
   subst c9
   rw [if_neg zF] at H
   replace H := zO H
   obtain ⟨t349, A10, H⟩ := H
   replace H := zO H
   obtain ⟨t352, A11, H⟩ := H
   have H' := zM H
   clear H
   go_wp2_with (first | ((with_reducible refine zG Try.func35 21 #[.slice A0 l0.length c0] ?_); (with_reducible refine (slices_Clone_int_int.calls _ _ l0 t349 _ ?side1 ?side2 A10.1).mono ?_); (case side1 => exact zC (Kd.C_below HR0.1 HB.1)); (case side2 => exact HC0.1); rintro e w12 ⟨v350, rfl, ho0, hb⟩; refine ⟨_, rfl, ?_⟩; replace HO_7 := zM (Kd.R_below (zR HO_7.1) hb); have HO351 := zM (Kd.R_lower ho0 (below_size zB1)); replace HB := zM (below_step zB1 hb); clear hb ho0) | ((with_reducible refine zG Try.func52 23 #[.slice A1 l1.length c1] ?_); (with_reducible refine (impl_copyHarts.calls kj3 _ _ l1 t352 _ ?side1 ?side2 A11.1).mono ?_); (case side1 => exact zC (Kd.C_below HR1.1 HB.1)); (case side2 => exact HC1.1); rintro e w13 ⟨v353, rfl, ho0, hb⟩; refine ⟨_, rfl, ?_⟩; replace HO_7 := zM (Kd.R_below (zR HO_7.1) hb); have HO354 := zM (Kd.S_lower (Kd.S_new' ho0 (Kd.R_lt (zR HO351.1))) (below_size zB1)); replace HO351 := zM (Kd.R_below (zR HO351.1) hb); replace HB := zM (below_step zB1 hb); clear hb ho0))
   go_loopg [7, 26] kj3 (fun kq v7 v26 w' => ∃ (x0_2 : List Int) (x1_2 : List (S49)) (x7_2 : List (S31)) (x26_2 : Int), v26 = .int .i64 x26_2 ∧ Aside0 (impl_Trace.l0 kq x0_2 x1_2 x7_2 l2 (l2.length : Int) x26_2 = some r) ∧ Aside0 (kq ≤ kj3) ∧ Aside0 (Kd.R (Kd.int .i64) 3 w' w.heap.size (fun _ => True) v350 x0_2) ∧ Aside0 (Kd.S k49 49 w' w.heap.size (fun k_ => some k_ ≠ (v350 : Value).ownBlock) v353 x1_2) ∧ Aside0 (Kd.R k31 31 w' w.heap.size (fun _ => True) v7 x7_2) ∧ Aside0 (Below w.heap.size w w'))
   case atStart => exact ⟨(t349), (t352), (y345), (0), zJJ, H', ⟨Nat.le_refl _⟩, ⟨zR HO351.1⟩, ⟨by refine zrS ?_; exact Kd.S_mono HO354.1 (fun _ hk => hk.2)⟩, ⟨zR HO_7.1⟩, ⟨zB1⟩⟩
   case round =>
    clear H'
    obtain ⟨x0_2, x1_2, x7_2, x26_2, rfl, HA, HK2, HO_0, HO_1, HO_7, HB⟩ := hrel
    cases gk with
    | zero => exact absurd HA.1 (by simp [impl_Trace.l0])
    | succ k2 =>
     have H := HA.1
     clear HA
     simp only [impl_Trace.l0] at H
     by_cases c14 : x26_2 < (l2.length : Int)
     rotate_left
     ·rw [if_neg c14] at H
      have c14b0 := decide_eq_false c14
      clear c14
      obtain rfl := Option.some.inj H
      go_wp2
      go_ret
      exact ⟨_, zE, zR HO_7.1, zB1⟩
     rw [if_pos c14] at H
     have c14b0 := decide_eq_true c14
     clear c14
     replace H := zIt H
     obtain ⟨c15b0, H⟩ := H
     replace H := zIt H
     obtain ⟨c16b0, H⟩ := H
     have HC17 := zM H
     clear H
     have p355 : 0 ≤ (x26_2 : Int) := zA
     have q355 : x26_2 < (l2.length : Int) := zA
     obtain ⟨ad355, e355, hx355_0⟩ := Kd.at_int HR2.1 x26_2 p355 q355
     cases e355
     replace hx355_0 := (HB.1.cell (World.block_lt_of_cell? w _ hx355_0)).trans hx355_0
     replace p355 := eq_true p355
     replace q355 := eq_true q355
     go_upto_region 9 with (fail)
     go_cut [41] (fun v41 wc => ∃ (kq : Nat) (x41_16 : Bool), v41 = .bool x41_16 ∧ Aside0 (impl_Trace.j2 kq x0_2 x1_2 x7_2 (rd l2 x26_2) l2 (l2.length : Int) x26_2 x41_16 = some r) ∧ Aside0 (kq ≤ k2) ∧ Aside0 (Kd.R (Kd.int .i64) 3 wc w.heap.size (fun _ => True) v350 x0_2) ∧ Aside0 (Kd.S k49 49 wc w.heap.size (fun k_ => some k_ ≠ (v350 : Value).ownBlock) v353 x1_2) ∧ Aside0 (Kd.R k31 31 wc w.heap.size (fun _ => True) u7 x7_2) ∧ Aside0 (Below w.heap.size w wc))
     case first =>
      have H := HC17.1
      clear HC17
      replace H := zO H
      obtain ⟨t356, A18, H⟩ := H
      by_cases c19 : t356 = true
      rotate_left
      ·replace c19 := Bool.eq_false_iff.mpr c19
       subst c19
       rw [if_neg zF] at H
       have H' := zM H
       clear H
       obtain ⟨Ao25, co25, eo25⟩ := Kd.S_slice HO_1.1
       subst eo25
       go_wp2_with (first | ((with_reducible refine zG Try.func31 34 #[.int .i64 (rd l2 x26_2), .int .i64 0, .int .i64 (wrap64 ((x1_2.length : Int) - 1))] ?_); (with_reducible refine (impl_from.calls (rd l2 x26_2) 0 (wrap64 ((x1_2.length : Int) - 1)) false _ A18.1).mono ?_); rintro e w' ⟨rfl, ⟨nd, rfl⟩⟩; refine ⟨_, rfl, ?_⟩))
       go_meet
       case rel => exact ⟨_, (false), zJJ, H', ⟨by have := HJ3.1; have := HK2.1; first | omega | exact Nat.le_refl _⟩, ⟨zR HO_0.1⟩, ⟨zS HO_1.1⟩, ⟨zR HO_7.1⟩, ⟨zB1⟩⟩
      subst c19
      rw [if_pos rfl] at H
      replace H := zIt H
      obtain ⟨c20b0, H⟩ := H
      (first | rw [c20b0] | (simp only [i64_w, i32_w]; rw [c20b0]) | skip)
      replace H := zIt H
      obtain ⟨c21b0, H⟩ := H
      replace H := zO H
      obtain ⟨t358, A22, H⟩ := H
      have H' := zM H
      clear H
      obtain ⟨Ao23, co23, eo23⟩ := Kd.S_slice HO_1.1
      subst eo23
      go_wp2_with (first | ((with_reducible refine zG Try.func31 34 #[.int .i64 (rd l2 x26_2), .int .i64 0, .int .i64 (wrap64 ((x1_2.length : Int) - 1))] ?_); (with_reducible refine (impl_from.calls (rd l2 x26_2) 0 (wrap64 ((x1_2.length : Int) - 1)) true _ A18.1).mono ?_); rintro e w' ⟨rfl, ⟨nd, rfl⟩⟩; refine ⟨_, rfl, ?_⟩; have p357 : 0 ≤ ((rd l2 x26_2) : Int) := zA; have q357 : (rd l2 x26_2) < (x1_2.length : Int) := zA; obtain ⟨ad357, A357_0, c357_0, e357, hx357_0, hx357_1, hx357_2, hl357_0, hi357_0⟩ := at_T49 (Kd.S_reads' HO_1.1).2.2 (rd l2 x26_2) p357 q357; cases e357; obtain ⟨ce357, hce357, hMe357, hcc357⟩ := Kd.S_get HO_1.1 z49 (rd l2 x26_2) p357 (by first | exact q357 | exact zA | (have e_ := (Kd.S_reads' HO_1.1).1; omega)); obtain ⟨ve357_0, rfl, ge357_0⟩ := k49_openM hMe357; have hv357_0 := hcc357 0 _ rfl; rw [Nat.add_zero] at hv357_0; replace hv357_0 := Option.some.inj (hv357_0.symm.trans hx357_0); rw [hv357_0] at ge357_0; have HL357_0 := zM (show Kd.R (Kd.int .i64) 3 _ _ _ _ ((rd_T49 x1_2 (rd l2 x26_2)).f0) from ge357_0); clear hv357_0 ge357_0; clear hcc357 hce357; have HR357_0 := zM hi357_0; have HC357_0 := zM hl357_0; clear hi357_0 hl357_0; replace p357 := eq_true p357; replace q357 := eq_true q357) | (go_at_call 53; (with_reducible refine (impl_goes.calls k2 _ _ ((rd_T49 x1_2 (rd l2 x26_2)).f0) ((rd_T49 x1_2 (rd l2 x26_2)).f1) ((rd_T49 x1_2 (rd l2 x26_2)).f2) t358 _ ?side1 ?side2 A22.1).mono ?_); (case side1 => exact zC HR357_0.1); (case side2 => exact HC357_0.1); rintro e w24 ⟨rfl, hb⟩; replace HO_0 := zM (Kd.R_below (zR HO_0.1) hb); replace HO_1 := zM (Kd.S_below (zS HO_1.1) hb); replace HO_7 := zM (Kd.R_below (zR HO_7.1) hb); replace HL357_0 := zM (Kd.R_below (zR HL357_0.1) hb); replace HR357_0 := zM (Kd.C_below (zC HR357_0.1) hb); replace HB := zM (below_step zB1 hb); clear hb))
      go_meet
      case rel => exact ⟨_, (t358), zJJ, H', ⟨by have := HJ3.1; have := HK2.1; first | omega | exact Nat.le_refl _⟩, ⟨zR HO_0.1⟩, ⟨zS HO_1.1⟩, ⟨zR HO_7.1⟩, ⟨zB1⟩⟩
     case rest =>
      clear HC17
      obtain ⟨kq, x41_16, rfl, HA, HJ16, HO_0, HO_1, HO_7, HB⟩ := hcut
      cases kq with
      | zero => exact absurd HA.1 (by simp [impl_Trace.j2])
      | succ kj16 =>
       have H := HA.1
       clear HA
       simp only [impl_Trace.j2] at H
       by_cases c26 : x41_16 = true
       rotate_left
       ·replace c26 := Bool.eq_false_iff.mpr c26
        subst c26
        rw [if_neg zF] at H
        have H' := zM H
        clear H
        go_wp2
        go_roundg kj16
        case measure => have := HJ3.1; have := HK2.1; have := HJ16.1; omega
        case rel => exact ⟨(x0_2), (x1_2), (x7_2), (wrap64 (x26_2 + 1)), zJJ, H', ⟨by have := HJ3.1; have := HK2.1; have := HJ16.1; omega⟩, ⟨zR HO_0.1⟩, ⟨zS HO_1.1⟩, ⟨zR HO_7.1⟩, ⟨zB1⟩⟩
       subst c26
       rw [if_pos rfl] at H
       replace H := zIt H
       obtain ⟨c27b0, H⟩ := H
       replace H := zIt H
       obtain ⟨c28b0, H⟩ := H
       replace H := zO H
       obtain ⟨⟨t360, t361, t362, t363, t364⟩, A29, H⟩ := H
       try dsimp only at H
       replace H := zIn H
       obtain ⟨LMc30, H⟩ := H
       generalize hy365 : ((x7_2 ++ [(⟨t360, t361, t362, t363, t364⟩ : S31)]) : List (S31)) = y365 at H
       have Ny365 := zM hy365.symm
       clear hy365
       replace H := zO H
       obtain ⟨⟨t369, t372, t373, t374⟩, A31, H⟩ := H
       try dsimp only at H
       generalize hy375 : ((x1_2.set ((rd l2 x26_2) : Int).toNat (⟨t369, t372, t373⟩ : S49)) : List (S49)) = y375 at H
       have Ny375 := zM hy375.symm
       clear hy375
       have H' := zM H
       clear H
       obtain ⟨Ao33, co33, eo33⟩ := Kd.S_slice HO_1.1
       subst eo33
       have p359 : 0 ≤ ((rd l2 x26_2) : Int) := zA
       have q359 : (rd l2 x26_2) < (x1_2.length : Int) := zA
       obtain ⟨ad359, A359_0, c359_0, e359, hx359_0, hx359_1, hx359_2, hl359_0, hi359_0⟩ := at_T49 (Kd.S_reads' HO_1.1).2.2 (rd l2 x26_2) p359 q359
       cases e359
       obtain ⟨ce359, hce359, hMe359, hcc359⟩ := Kd.S_get HO_1.1 z49 (rd l2 x26_2) p359 (by first | exact q359 | exact zA | (have e_ := (Kd.S_reads' HO_1.1).1; omega))
       obtain ⟨ve359_0, rfl, ge359_0⟩ := k49_openM hMe359
       have hv359_0 := hcc359 0 _ rfl
       rw [Nat.add_zero] at hv359_0
       replace hv359_0 := Option.some.inj (hv359_0.symm.trans hx359_0)
       rw [hv359_0] at ge359_0
       have HL359_0 := zM (show Kd.R (Kd.int .i64) 3 _ _ _ _ ((rd_T49 x1_2 (rd l2 x26_2)).f0) from ge359_0)
       clear hv359_0 ge359_0 hcc359 hce359
       have HR359_0 := zM hi359_0
       have HC359_0 := zM hl359_0
       clear hi359_0 hl359_0
       replace p359 := eq_true p359
       replace q359 := eq_true q359
       obtain ⟨Ao34, co34, eo34⟩ := Kd.R_slice HO_0.1
       subst eo34
       go_wp2_with (first | ((with_reducible refine zG Try.func54 49 #[.slice Ao34 x0_2.length co34, .agg #[.slice A359_0 ((rd_T49 x1_2 (rd l2 x26_2)).f0).length c359_0, .int .i64 ((rd_T49 x1_2 (rd l2 x26_2)).f1), .int .i64 ((rd_T49 x1_2 (rd l2 x26_2)).f2)], .int .i64 (rd l2 x26_2)] ?_); (with_reducible refine (impl_eventOf.calls kj16 _ _ x0_2 _ _ ((rd_T49 x1_2 (rd l2 x26_2)).f0) ((rd_T49 x1_2 (rd l2 x26_2)).f1) ((rd_T49 x1_2 (rd l2 x26_2)).f2) (rd l2 x26_2) t360 t361 t362 t363 t364 _ ?side1 ?side2 ?side3 ?side4 A29.1).mono ?_); (case side1 => exact zC (Kd.R_reads' HO_0.1).2.2); (case side2 => exact (Kd.R_reads' HO_0.1).2.1); (case side3 => exact zC HR359_0.1); (case side4 => exact HC359_0.1); rintro e w35 ⟨rfl, hb⟩; refine ⟨_, rfl, ?_⟩; replace HO_0 := zM (Kd.R_below (zR HO_0.1) hb); replace HO_1 := zM (Kd.S_below (zS HO_1.1) hb); replace HO_7 := zM (Kd.R_below (zR HO_7.1) hb); replace HL359_0 := zM (Kd.R_below (zR HL359_0.1) hb); replace HR359_0 := zM (Kd.C_below (zC HR359_0.1) hb); replace HB := zM (below_step zB1 hb); clear hb) | ((with_reducible refine gate_builtin (b := .append) (xs := #[.tmp 42, .tmp 50]) rfl ?_); at_builtin; refine Kd.R_append k31 (w0 := w) w.heap.size rfl (.tmp 42) (.tmp 50) 24 31 (.agg #[(.int .i64 0), (.int .i64 0), (.int .i64 0), (.int .i64 0), (.int .i64 0)]) 40 rfl Try.underlying24 info31 rfl (by decide) (by omega) u7 x7_2 (⟨t360, t361, t362, t363, t364⟩ : S31) [.int .i64 t360, .int .i64 t361, .int .i64 t362, .int .i64 t363, .int .i64 t364] (fun _ => True) (fun _ => False) rfl rfl ?aP (fun _ hk => hk.elim) ?aF ?aO ?aB ?aS ?aL ?_; (case aP => exact k31_mkM _ _ _ (⟨t360, t361, t362, t363, t364⟩ : S31)); (case aB => exact zB1); (case aF => exact (fun _ _ => trivial)); (case aO => exact (zR HO_7.1)); (case aS => exact (below_size zB1)); (case aL => have := LMc30.out; omega); intro v366 w36 ho hb hg hat; rw [← Ny365.1] at ho; replace HO_0 := zM (Kd.R_over' (zR HO_0.1) (Kd.R_typed (zR HO_7.1)) (by decide) hg); replace HO_1 := zM (Kd.S_over' (zS HO_1.1) (Kd.R_typed (zR HO_7.1)) (by decide) hg); replace HL359_0 := zM (Kd.R_over' (zR HL359_0.1) (Kd.R_typed (zR HO_7.1)) (by decide) hg); replace HB := zM hb; have HO367 := zM ho; clear HO_7; clear ho hb hg hat; have p368 : 0 ≤ ((rd l2 x26_2) : Int) := zA; have q368 : (rd l2 x26_2) < (x1_2.length : Int) := zA; obtain ⟨ad368, A368_0, c368_0, e368, hx368_0, hx368_1, hx368_2, hl368_0, hi368_0⟩ := at_T49 (Kd.S_reads' HO_1.1).2.2 (rd l2 x26_2) p368 q368; obtain rfl : ad359 = ad368 := (by injection e368); obtain ⟨ce368, hce368, hMe368, hcc368⟩ := Kd.S_get HO_1.1 z49 (rd l2 x26_2) p368 (by first | exact q368 | exact zA | (have e_ := (Kd.S_reads' HO_1.1).1; omega)); obtain ⟨ve368_0, rfl, ge368_0⟩ := k49_openM hMe368; have hv368_0 := hcc368 0 _ rfl; rw [Nat.add_zero] at hv368_0; replace hv368_0 := Option.some.inj (hv368_0.symm.trans hx368_0); rw [hv368_0] at ge368_0; have HL368_0 := zM (show Kd.R (Kd.int .i64) 3 _ _ _ _ ((rd_T49 x1_2 (rd l2 x26_2)).f0) from ge368_0); clear hv368_0 ge368_0; clear hcc368 hce368; have HR368_0 := zM hi368_0; have HC368_0 := zM hl368_0; clear hi368_0 hl368_0; replace p368 := eq_true p368; replace q368 := eq_true q368) | ((with_reducible refine zG Try.func55 59 #[.slice Ao34 x0_2.length co34, .agg #[.slice A368_0 ((rd_T49 x1_2 (rd l2 x26_2)).f0).length c368_0, .int .i64 ((rd_T49 x1_2 (rd l2 x26_2)).f1), .int .i64 ((rd_T49 x1_2 (rd l2 x26_2)).f2)]] ?_); (with_reducible refine (impl_step.calls kj16 (fun k_ => some k_ = (.slice Ao34 x0_2.length co34 : Value).ownBlock) (.slice Ao34 x0_2.length co34) x0_2 _ _ ((rd_T49 x1_2 (rd l2 x26_2)).f0) ((rd_T49 x1_2 (rd l2 x26_2)).f1) ((rd_T49 x1_2 (rd l2 x26_2)).f2) t369 t372 t373 t374 w _ ?side1 ?side2 ?side3 ?side4 A31.1).mono ?_); (case side1 => exact zB1); (case side2 => exact Kd.R_tight rfl HO_0.1); (case side3 => exact Kd.C_kept_own (HL368_0.1) (fun k_ hk_ hs_ => (hk_.1) hs_)); (case side4 => exact HC368_0.1); rintro e w37 ⟨v370, rfl, ho0, hy0, hb, hkp⟩; refine ⟨_, rfl, ?_⟩; replace HO_1 := zM (Kd.S_mono (ok' := fun k_ => some k_ ≠ (.slice Ao34 x0_2.length co34 : Value).ownBlock ∧ some k_ ≠ (v370 : Value).ownBlock) (Kd.S_keptB (HO_1.1) hkp (fun k_ hk_ hs_ => (hk_) hs_)) (fun k_ hk_ => ⟨hk_.1, fun e_ => Or.elim (ho0.1 k_ e_.symm).1 (fun hs_ => hk_.2.1 hs_) (fun hn_ => Nat.not_le.2 hk_.2.2 hn_)⟩)); replace HO367 := zM (Kd.R_mono (ok' := fun k_ => True) (Kd.R_keptB ((Kd.R_apart' HO367.1 (Kd.R_typed HO_0.1) (by decide))) hkp (fun k_ hk_ hs_ => (hk_.2) hs_)) (fun k_ hk_ => trivial)); replace HO_0 := zM (Kd.R_reok rfl hy0 (fun k_ e_ => HO_0.1.1 k_ e_)); have HO371 := zM (Kd.R_mono (ok' := fun k_ => some k_ ≠ (.slice Ao34 x0_2.length co34 : Value).ownBlock) ho0 (fun k_ hk_ => hk_.2)); replace HB := zM hb; clear HL359_0 HL368_0; clear hb hkp ho0 hy0; have p32 : 0 ≤ ((rd l2 x26_2) : Int) := zA; have q32 : ((rd l2 x26_2) : Int) < ((x1_2.length : Int) : Int) := zA; obtain ⟨go32, co32, eo32, gb32, gl32, cl32, HG32⟩ := Kd.S_form HO_1.1 (by omega); (first | cases eo32 | (injection eo32 with ea_ en_ ec_; (first | subst ea_ | (injection ea_ with ea_; subst ea_)); subst ec_; clear en_)); have GB32 := zM gb32; have GG32 := zM HG32; clear gb32 gl32 HG32; (first | simp only [add_plain] at hx359_0 | skip); (first | simp only [add_plain] at hx359_1 | skip); (first | simp only [add_plain] at hx359_2 | skip); (first | simp only [add_plain] at hx368_0 | skip); (first | simp only [add_plain] at hx368_1 | skip); (first | simp only [add_plain] at hx368_2 | skip); obtain ⟨_, ce32, hcl32, hM32, hcc32, hfr32, _, _⟩ := Kd.S_elem HO_1.1 z49 ((rd l2 x26_2) : Int) p32 q32; obtain ⟨ve32_0, rfl, ge32_0⟩ := k49_openM hM32; have hx32_0 : w37.cell? ⟨go32, ((rd l2 x26_2) : Int).toNat * 3, none⟩ = some (ve32_0) := hcc32 0 _ rfl; have hx32_1 : w37.cell? ⟨go32, ((rd l2 x26_2) : Int).toNat * 3 + 1, none⟩ = some (.int .i64 ((rd_T49 x1_2 (rd l2 x26_2)).f1)) := hcc32 1 _ rfl; have hx32_2 : w37.cell? ⟨go32, ((rd l2 x26_2) : Int).toNat * 3 + 2, none⟩ = some (.int .i64 ((rd_T49 x1_2 (rd l2 x26_2)).f2)) := hcc32 2 _ rfl; have hf32_0 : w37.frozen? ⟨go32, ((rd l2 x26_2) : Int).toNat * 3, none⟩ = false := hfr32 0; have hf32_1 : w37.frozen? ⟨go32, ((rd l2 x26_2) : Int).toNat * 3 + 1, none⟩ = false := hfr32 1; have hf32_2 : w37.frozen? ⟨go32, ((rd l2 x26_2) : Int).toNat * 3 + 2, none⟩ = false := hfr32 2; clear hcl32 hcc32 hfr32 hM32; replace p32 := eq_true p32; replace q32 := eq_true q32; obtain ⟨Ao38, co38, eo38⟩ := Kd.R_slice HO371.1; subst eo38; have HX39 := zM (show Kd.S k49 49 w37 w.heap.size (fun k_ => ((fun k_ => some k_ ≠ (.slice Ao34 x0_2.length co34 : Value).ownBlock)) k_ ∧ ¬ ((fun k_ => some k_ = (.slice Ao38 t369.length co38 : Value).ownBlock)) k_) (.slice (some ⟨go32, 0, none⟩) x1_2.length co33) x1_2 from (by refine zrS ?_; exact Kd.S_mono HO_1.1 (fun k_ hk => ⟨hk.1, fun e_ => hk.2 e_⟩))); obtain ⟨oki39, ce39, hcl39, hM39, hcc39, hfr39, hoki39, hH39⟩ := Kd.S_elem HX39.out z49 ((rd l2 x26_2) : Int) zA (by have h_ : ((rd l2 x26_2) : Int) < ((x1_2.length : Int) : Int) := zA; first | exact h_ | (have e_ := (Kd.S_reads' HO_1.1).1; omega) | simpa using h_); obtain ⟨ve39_0, rfl, ge39_0⟩ := k49_openM hM39; have HP39 := Kd.S_seg hH39 zA (by have h_ : ((rd l2 x26_2) : Int) < ((x1_2.length : Int) : Int) := zA; first | exact h_ | (have e_ := (Kd.S_reads' HO_1.1).1; omega) | simpa using h_) (seg := [.slice Ao38 t369.length co38, .int .i64 t372, .int .i64 t373]) (j := 0) (show 3 ≤ 3 from by decide) (x' := (⟨t369, t372, t373⟩ : S49)) (k49_mkM _ _ _ (⟨t369, t372, t373⟩ : S49) (Kd.R_mono (Kd.R_tight rfl (Kd.R_mono (ok' := fun k_ => ((fun k_ => some k_ ≠ (.slice Ao34 x0_2.length co34 : Value).ownBlock)) k_ ∧ k_ ≠ go32) (Kd.R_apart' (HO371.1) (Kd.S_typed HO_1.1) (by decide)) (fun k_ hk => ⟨hk.1, fun e_ => (hk.2) (by rw [e_]; rfl)⟩))) (fun _ h_ => Or.inr (h_)))) (fun _ hk => hk) (fun k_ hk_ => ((Kd.R_mono (ok' := fun k_ => ((fun k_ => some k_ ≠ (.slice Ao34 x0_2.length co34 : Value).ownBlock)) k_ ∧ k_ ≠ go32) (Kd.R_apart' (HO371.1) (Kd.S_typed HO_1.1) (by decide)) (fun k_ hk => ⟨hk.1, fun e_ => (hk.2) (by rw [e_]; rfl)⟩))).1 k_ hk_.symm); have hx39_0 := hcc39 0 _ rfl; (try simp only [show (k49).sz = 3 from rfl, Nat.mul_one, Nat.add_zero] at hx39_0); have hf39_0 := hfr39 0; (try simp only [show (k49).sz = 3 from rfl, Nat.mul_one, Nat.add_zero] at hf39_0); have hx39_1 := hcc39 1 _ rfl; (try simp only [show (k49).sz = 3 from rfl, Nat.mul_one, Nat.add_zero] at hx39_1); have hf39_1 := hfr39 1; (try simp only [show (k49).sz = 3 from rfl, Nat.mul_one, Nat.add_zero] at hf39_1); have hx39_2 := hcc39 2 _ rfl; (try simp only [show (k49).sz = 3 from rfl, Nat.mul_one, Nat.add_zero] at hx39_2); have hf39_2 := hfr39 2; (try simp only [show (k49).sz = 3 from rfl, Nat.mul_one, Nat.add_zero] at hf39_2); clear hcl39 hcc39 hfr39 hM39 hoki39 hH39) | ((with_reducible refine gate_store (t := 49) (p := 60) rfl ?_); refine store_event (t := 49) (p := 60) (v := ?vo_w40) (w1 := (((w37.setCell ⟨go32, ((rd l2 x26_2) : Int).toNat * 3, none⟩ (.slice Ao38 t369.length co38)).setCell ⟨go32, ((rd l2 x26_2) : Int).toNat * 3 + 1, none⟩ (.int .i64 t372)).setCell ⟨go32, ((rd l2 x26_2) : Int).toNat * 3 + 2, none⟩ (.int .i64 t373))) ?hg ?ho ?hn ?hr ?_; (case ho => rfl); (case hg => rfl); (case hn => rfl); (case hr => exact zHH); intro w40 hw; have hg : w37.grownBy w40 (some go32) := (by rw [hw]; exact HP39.2); have hp_ : Kd.S k49 49 w40 w.heap.size (fun k_ => some k_ ≠ (.slice Ao34 x0_2.length co34 : Value).ownBlock) (.slice (some ⟨go32, 0, none⟩) x1_2.length co33) y375 := (by rw [hw, Ny375.1]; exact HP39.1); clear HP39; replace HO_0 := zM (Kd.R_over' (v := (.slice (some ⟨go32, 0, none⟩) x1_2.length co33)) (zR HO_0.1) (Kd.S_typed HO_1.1) (by decide) hg); replace HO367 := zM (Kd.R_over' (v := (.slice (some ⟨go32, 0, none⟩) x1_2.length co33)) (zR HO367.1) (Kd.S_typed HO_1.1) (by decide) hg); replace HO_1 := zM hp_; replace HB := zM ((by rw [hw]; exact below_set (below_set (below_set (HB.1) GB32.1) GB32.1) GB32.1 : Below w.heap.size w w40)); clear HO371; clear hg hw hp_))
       go_roundg kj16
       case measure => have := HJ3.1; have := HK2.1; have := HJ16.1; omega
       case rel => exact ⟨(t374), (y375), (y365), (wrap64 (x26_2 + 1)), zJJ, H', ⟨by have := HJ3.1; have := HK2.1; have := HJ16.1; omega⟩, ⟨zR HO_0.1⟩, ⟨zS HO_1.1⟩, ⟨zR HO367.1⟩, ⟨zB1⟩⟩

/-! ### laws_sameEvents: function 27 -/
def laws_sameEvents.l0 : Nat → List (S31) → List (S31) → Int → Option (Bool)
 | 0, _, _, _ => none
 | k + 1, x0, x1, x5 => if x5 < (x0.length : Int) then (if 0 ≤ x5 then (if x5 < (x1.length : Int) then (if (!(((rd_T31 x0 x5).f0) == ((rd_T31 x1 x5).f0)) || (!(((rd_T31 x0 x5).f1) == ((rd_T31 x1 x5).f1)) || (!(((rd_T31 x0 x5).f2) == ((rd_T31 x1 x5).f2)) || (!(((rd_T31 x0 x5).f3) == ((rd_T31 x1 x5).f3)) || (!(((rd_T31 x0 x5).f4) == ((rd_T31 x1 x5).f4))))))) = true then (some false) else (laws_sameEvents.l0 k x0 x1 (wrap64 (x5 + 1)))) else (none)) else (none)) else (some true)
def laws_sameEvents.f (k : Nat) (l0 : List (S31)) (l1 : List (S31)) : Option (Bool) := if (l0.length : Int) = (l1.length : Int) then (laws_sameEvents.l0 k l0 l1 0) else (some false)
theorem laws_sameEvents.mono_l : ∀ k, (∀ y0 y1 y2, LeO (laws_sameEvents.l0 k y0 y1 y2) (laws_sameEvents.l0 (k + 1) y0 y1 y2))
 | 0 => fun _ _ _ r h => by simp [laws_sameEvents.l0] at h
 | k + 1 => by
  have ih0 := laws_sameEvents.mono_l k
  ·intros
   unfold laws_sameEvents.l0
   exact zL
theorem laws_sameEvents.mono : ∀ a0 a1 k, LeO (laws_sameEvents.f k a0 a1) (laws_sameEvents.f (k + 1) a0 a1) := by
 intro a0 a1 k
 have ih0 := laws_sameEvents.mono_l k
 unfold laws_sameEvents.f
 exact zL
theorem laws_sameEvents.calls (k : Nat) (A0 : Option Addr) (c0 : Nat) (l0 : List (S31)) (A1 : Option Addr) (c1 : Nat) (l1 : List (S31)) (r : Bool) (w : World) (hr0 : Kd.C k31 w A0 l0.length l0) (hc0 : l0.length ≤ c0) (hr1 : Kd.C k31 w A1 l1.length l1) (hc1 : l1.length ≤ c1) (h : laws_sameEvents.f k l0 l1 = some r) :
  Calls Try.prog 27 #[.slice A0 l0.length c0, .slice A1 l1.length c1] w fun e w' => e = .returned (.bool r) ∧ Drawn0 w w' := by
 have hu31 := Try.underlying31
 have HR0 := zM hr0
 have HC0 := zM hc0
 clear hr0 hc0
 have HR1 := zM hr1
 have HC1 := zM hc1
 clear hr1 hc1
 unfold laws_sameEvents.f at h
 have H := h
 clear h
 by_cases c3 : (l0.length : Int) = (l1.length : Int)
 rotate_left
 ·rw [if_neg c3] at H
  have c3b0 : ((l0.length : Int) == (l1.length : Int)) = false := beq_eq_false_iff_ne.mpr c3
  have c3b1 : ((l0.length : Int) != (l1.length : Int)) = true := bne_iff_ne.mpr c3
  have c3b2 : (l0.length == l1.length) = false := by first | simpa using c3 | (simp at c3 ⊢; omega)
  obtain rfl := Option.some.inj H
  go_enter Try.func27, Try.ntmps27
  go_wp2
  repeat (go_quiet (fail); try go_wp2)
  go_ret
  exact ⟨zJJ, zDD⟩
 rw [if_pos c3] at H
 have c3b0 : ((l0.length : Int) == (l1.length : Int)) = true := beq_iff_eq.mpr c3
 have c3b1 : ((l0.length : Int) != (l1.length : Int)) = false := bne_eq_false_iff_eq.mpr c3
 have c3b2 : (l0.length == l1.length) = true := by first | simpa using c3 | (simp at c3 ⊢; omega)
 clear c3
 have H' := zM H
 clear H
 go_enter Try.func27, Try.ntmps27
 go_wp2
 repeat (go_quiet (fail); try go_wp2)
 go_loopg [5] k (fun kq v5 w' => ∃ (x5_1 : Int), v5 = .int .i64 x5_1 ∧ Aside0 (laws_sameEvents.l0 kq l0 l1 x5_1 = some r) ∧ Aside0 (kq ≤ k) ∧ Drawn0 w w')
 case atStart => exact ⟨(0), zJJ, H', ⟨Nat.le_refl _⟩, zDD⟩
 case round =>
  clear H'
  obtain ⟨x5_1, rfl, HA, HK1, ⟨m1, rfl⟩⟩ := hrel
  cases gk with
  | zero => exact absurd HA.1 (by simp [laws_sameEvents.l0])
  | succ k1 =>
   have H := HA.1
   clear HA
   simp only [laws_sameEvents.l0] at H
   by_cases c4 : x5_1 < (l0.length : Int)
   rotate_left
   ·rw [if_neg c4] at H
    have c4b0 := decide_eq_false c4
    clear c4
    obtain rfl := Option.some.inj H
    go_wp2
    repeat (go_quiet (fail); try go_wp2)
    go_ret
    exact ⟨zJJ, zDD⟩
   rw [if_pos c4] at H
   have c4b0 := decide_eq_true c4
   clear c4
   replace H := zIt H
   obtain ⟨c5b0, H⟩ := H
   replace H := zIt H
   obtain ⟨c6b0, H⟩ := H
   by_cases c7 : (!(((rd_T31 l0 x5_1).f0) == ((rd_T31 l1 x5_1).f0)) || (!(((rd_T31 l0 x5_1).f1) == ((rd_T31 l1 x5_1).f1)) || (!(((rd_T31 l0 x5_1).f2) == ((rd_T31 l1 x5_1).f2)) || (!(((rd_T31 l0 x5_1).f3) == ((rd_T31 l1 x5_1).f3)) || (!(((rd_T31 l0 x5_1).f4) == ((rd_T31 l1 x5_1).f4))))))) = true
   ·rw [if_pos c7] at H
    have c7b0 : (!(((rd_T31 l0 x5_1).f0) == ((rd_T31 l1 x5_1).f0)) || (!(((rd_T31 l0 x5_1).f1) == ((rd_T31 l1 x5_1).f1)) || (!(((rd_T31 l0 x5_1).f2) == ((rd_T31 l1 x5_1).f2)) || (!(((rd_T31 l0 x5_1).f3) == ((rd_T31 l1 x5_1).f3)) || (!(((rd_T31 l0 x5_1).f4) == ((rd_T31 l1 x5_1).f4))))))) = true := c7
    clear c7
    obtain rfl := Option.some.inj H
    have p376 : 0 ≤ (x5_1 : Int) := zA
    have q376 : x5_1 < (l0.length : Int) := zA
    obtain ⟨ad376, e376, hx376_0, hx376_1, hx376_2, hx376_3, hx376_4⟩ := at_T31 HR0.1 x5_1 p376 q376
    cases e376
    replace p376 := eq_true p376
    replace q376 := eq_true q376
    have p377 : 0 ≤ (x5_1 : Int) := zA
    have q377 : x5_1 < (l1.length : Int) := zA
    obtain ⟨ad377, e377, hx377_0, hx377_1, hx377_2, hx377_3, hx377_4⟩ := at_T31 HR1.1 x5_1 p377 q377
    cases e377
    replace p377 := eq_true p377
    replace q377 := eq_true q377
    go_wp2
    repeat (go_quiet (fail); try go_wp2)
    go_ret
    exact ⟨zJJ, zDD⟩
   rw [if_neg c7] at H
   have c7b0 : (!(((rd_T31 l0 x5_1).f0) == ((rd_T31 l1 x5_1).f0)) || (!(((rd_T31 l0 x5_1).f1) == ((rd_T31 l1 x5_1).f1)) || (!(((rd_T31 l0 x5_1).f2) == ((rd_T31 l1 x5_1).f2)) || (!(((rd_T31 l0 x5_1).f3) == ((rd_T31 l1 x5_1).f3)) || (!(((rd_T31 l0 x5_1).f4) == ((rd_T31 l1 x5_1).f4))))))) = false := by simpa using c7
   clear c7
   have H' := zM H
   clear H
   have p376 : 0 ≤ (x5_1 : Int) := zA
   have q376 : x5_1 < (l0.length : Int) := zA
   obtain ⟨ad376, e376, hx376_0, hx376_1, hx376_2, hx376_3, hx376_4⟩ := at_T31 HR0.1 x5_1 p376 q376
   cases e376
   replace p376 := eq_true p376
   replace q376 := eq_true q376
   have p377 : 0 ≤ (x5_1 : Int) := zA
   have q377 : x5_1 < (l1.length : Int) := zA
   obtain ⟨ad377, e377, hx377_0, hx377_1, hx377_2, hx377_3, hx377_4⟩ := at_T31 HR1.1 x5_1 p377 q377
   cases e377
   replace p377 := eq_true p377
   replace q377 := eq_true q377
   go_wp2
   repeat (go_quiet (fail); try go_wp2)
   go_roundg k1
   case measure => have := HK1.1; omega
   case rel => exact ⟨(wrap64 (x5_1 + 1)), zJJ, H', ⟨by have := HK1.1; omega⟩, zDD⟩

/-! ### spec_l1In: function 44 -/
def spec_l1In.f (a0 : Int) (a1 : Int) (a2 : Int) : Option (Bool) := if a0 ≥ a1 then (some (decide (a0 ≤ a2))) else (some false)
theorem spec_l1In.calls (a0 : Int) (a1 : Int) (a2 : Int) (r : Bool) (w : World) (h : spec_l1In.f a0 a1 a2 = some r) :
  Calls Try.prog 44 #[.int .i64 a0, .int .i64 a1, .int .i64 a2] w fun e w' => e = .returned (.bool r) ∧ Drawn0 w w' := by
 unfold spec_l1In.f at h
 have H := h
 clear h
 by_cases c4 : a0 ≥ a1
 ·rw [if_pos c4] at H
  have c4b0 := decide_eq_true c4
  clear c4
  obtain rfl := Option.some.inj H
  go_enter Try.func44, Try.ntmps44
  go_wp2
  go_ret
  exact ⟨zJJ, zDD⟩
 rw [if_neg c4] at H
 have c4b0 := decide_eq_false c4
 clear c4
 obtain rfl := Option.some.inj H
 go_enter Try.func44, Try.ntmps44
 go_wp2
 go_ret
 exact ⟨zJJ, zDD⟩

/-! ### spec_l1Words: function 75 -/
def spec_l1Words.l0 : Nat → List Int → Int → Int → Option (Bool)
 | 0, _, _, _ => none
 | k + 1, x0, x1, x5 => if x5 < (x0.length : Int) then (if 0 ≤ x5 then ((spec_l1In.f (rd x0 x5) 0 65535).bind fun t379 => (if t379 = true then (spec_l1Words.l0 k x0 x1 (wrap64 (x5 + 1))) else (some false))) else (none)) else (some ((x0.length : Int) == x1))
def spec_l1Words.f (k : Nat) (l0 : List Int) (a1 : Int) : Option (Bool) := spec_l1Words.l0 k l0 a1 0
theorem spec_l1Words.mono_l : ∀ k, (∀ y0 y1 y2, LeO (spec_l1Words.l0 k y0 y1 y2) (spec_l1Words.l0 (k + 1) y0 y1 y2))
 | 0 => fun _ _ _ r h => by simp [spec_l1Words.l0] at h
 | k + 1 => by
  have ih0 := spec_l1Words.mono_l k
  ·intros
   unfold spec_l1Words.l0
   exact zL
theorem spec_l1Words.mono : ∀ a0 a1 k, LeO (spec_l1Words.f k a0 a1) (spec_l1Words.f (k + 1) a0 a1) := by
 intro a0 a1 k
 have ih0 := spec_l1Words.mono_l k
 unfold spec_l1Words.f
 exact zL
theorem spec_l1Words.calls (k : Nat) (A0 : Option Addr) (c0 : Nat) (l0 : List Int) (a1 : Int) (r : Bool) (w : World) (hr0 : Kd.C (Kd.int .i64) w A0 l0.length l0) (hc0 : l0.length ≤ c0) (h : spec_l1Words.f k l0 a1 = some r) :
  Calls Try.prog 75 #[.slice A0 l0.length c0, .int .i64 a1] w fun e w' => e = .returned (.bool r) ∧ Drawn0 w w' := by
 have HR0 := zM hr0
 have HC0 := zM hc0
 clear hr0 hc0
 unfold spec_l1Words.f at h
 have H := h
 clear h
 have H' := zM H
 clear H
 go_enter Try.func75, Try.ntmps75
 go_wp2
 go_loopg [5] k (fun kq v5 w' => ∃ (x5_1 : Int), v5 = .int .i64 x5_1 ∧ Aside0 (spec_l1Words.l0 kq l0 a1 x5_1 = some r) ∧ Aside0 (kq ≤ k) ∧ Drawn0 w w')
 case atStart => exact ⟨(0), zJJ, H', ⟨Nat.le_refl _⟩, zDD⟩
 case round =>
  clear H'
  obtain ⟨x5_1, rfl, HA, HK1, ⟨m1, rfl⟩⟩ := hrel
  cases gk with
  | zero => exact absurd HA.1 (by simp [spec_l1Words.l0])
  | succ k1 =>
   have H := HA.1
   clear HA
   simp only [spec_l1Words.l0] at H
   by_cases c3 : x5_1 < (l0.length : Int)
   rotate_left
   ·rw [if_neg c3] at H
    have c3b0 := decide_eq_false c3
    clear c3
    obtain rfl := Option.some.inj H
    go_wp2
    go_ret
    exact ⟨zJJ, zDD⟩
   rw [if_pos c3] at H
   have c3b0 := decide_eq_true c3
   clear c3
   replace H := zIt H
   obtain ⟨c4b0, H⟩ := H
   replace H := zO H
   obtain ⟨t379, A5, H⟩ := H
   by_cases c6 : t379 = true
   rotate_left
   ·replace c6 := Bool.eq_false_iff.mpr c6
    subst c6
    rw [if_neg zF] at H
    obtain rfl := Option.some.inj H
    have p378 : 0 ≤ (x5_1 : Int) := zA
    have q378 : x5_1 < (l0.length : Int) := zA
    obtain ⟨ad378, e378, hx378_0⟩ := Kd.at_int HR0.1 x5_1 p378 q378
    cases e378
    replace p378 := eq_true p378
    replace q378 := eq_true q378
    go_wp2_with (first | ((with_reducible refine zG Try.func44 16 #[.int .i64 (rd l0 x5_1), .int .i64 0, .int .i64 65535] ?_); (with_reducible refine (spec_l1In.calls (rd l0 x5_1) 0 65535 false _ A5.1).mono ?_); rintro e w' ⟨rfl, ⟨nd, rfl⟩⟩; refine ⟨_, rfl, ?_⟩))
    go_ret
    exact ⟨zJJ, zDD⟩
   subst c6
   rw [if_pos rfl] at H
   have H' := zM H
   clear H
   have p378 : 0 ≤ (x5_1 : Int) := zA
   have q378 : x5_1 < (l0.length : Int) := zA
   obtain ⟨ad378, e378, hx378_0⟩ := Kd.at_int HR0.1 x5_1 p378 q378
   cases e378
   replace p378 := eq_true p378
   replace q378 := eq_true q378
   go_wp2_with (first | ((with_reducible refine zG Try.func44 16 #[.int .i64 (rd l0 x5_1), .int .i64 0, .int .i64 65535] ?_); (with_reducible refine (spec_l1In.calls (rd l0 x5_1) 0 65535 true _ A5.1).mono ?_); rintro e w' ⟨rfl, ⟨nd, rfl⟩⟩; refine ⟨_, rfl, ?_⟩))
   go_roundg k1
   case measure => have := HK1.1; omega
   case rel => exact ⟨(wrap64 (x5_1 + 1)), zJJ, H', ⟨by have := HK1.1; omega⟩, zDD⟩

end Go.Proofs.Ytgbjengnkbomoaa.PFnRacesOfCounts
