-- made by wip/tools/myprint.py out of the seat's translation
import Derived.Test.YtgbjengnkbomoaaPFnKnowsx0
import Derived.Test.YtgbjengnkbomoaaPFnKnowsx5
import Derived.Test.YtgbjengnkbomoaaPFnKnowsx9
import Derived.Test.YtgbjengnkbomoaaPFnKnowsx10
import Derived.Test.YtgbjengnkbomoaaPFnKnowsx11
namespace Go.Proofs.Ytgbjengnkbomoaa.PFnKnows
open Go.RowKit Go.Proofs.YtgbjengnkbomoaaW.PrintWords Go.Proofs.YtgbjengnkbomoaaW.PrintLast Go.Proofs.YtgbjengnkbomoaaW.PrintMore
attribute [local go_sem] max2_int min2_int max_two min_two max_three min_three max_four min_four   -- for this text's walks alone
set_option linter.unusedVariables false
set_option linter.unusedSimpArgs false
set_option maxHeartbeats 8000000
set_option maxRecDepth 100000

/-! ### spec_l18DrawRun: function 59 -/
mutual
def spec_l18DrawRun.l0 : Nat → Int → List Int → List (S49) → Int → List Int → Int → Int → Option (List Int × (List (S49)) × List Int × Int × Int)
 | 0, _, _, _, _, _, _, _ => none
 | k + 1, x1, x7, x8, x9, x1000, x1001, x1002 => (spec_l1Below.f x1000 x1001 x1002 3).bind fun bt571 => (if x9 < (wrap64 (1 + bt571.1)) then ((spec_l9DrawHart.f k x1000 bt571.2.1 bt571.2.2).bind fun bt574 => ((spec_HartOk.f k bt574.1 bt574.2.1 bt574.2.2.1).bind fun t582 => (if t582 = true then (if x8.length < 3518437208883 then (spec_l18DrawRun.l0 k x1 x7 (x8 ++ [(⟨bt574.1, bt574.2.1, bt574.2.2.1⟩ : S49)]) (wrap64 (x9 + 1)) x1000 bt574.2.2.2.1 bt574.2.2.2.2) else (none)) else ((spec_l1Below.f x1000 bt574.2.2.2.1 bt574.2.2.2.2 20).bind fun bt586 => ((spec_HartNew.f bt586.1).bind fun bt589 => (if x8.length < 3518437208883 then (spec_l18DrawRun.l0 k x1 x7 (x8 ++ [(⟨bt589.1, bt589.2.1, bt589.2.2⟩ : S49)]) (wrap64 (x9 + 1)) x1000 bt586.2.1 bt586.2.2) else (none))))))) else (spec_l18DrawRun.l1 k x1 x7 x8 (([] : List Int)) 0 x1000 bt571.2.1 bt571.2.2))
def spec_l18DrawRun.l1 : Nat → Int → List Int → List (S49) → List Int → Int → List Int → Int → Int → Option (List Int × (List (S49)) × List Int × Int × Int)
 | 0, _, _, _, _, _, _, _, _ => none
 | k + 1, x1, x7, x8, x11, x12, x1000, x1001, x1002 => (spec_l1Below.f x1000 x1001 x1002 x1).bind fun bt600 => (if x12 < bt600.1 then ((spec_l1Below.f x1000 bt600.2.1 bt600.2.2 (x8.length : Int)).bind fun bt603 => (if x11.length < 17592186044416 then (spec_l18DrawRun.l1 k x1 x7 x8 (x11 ++ [bt603.1]) (wrap64 (x12 + 1)) x1000 bt603.2.1 bt603.2.2) else (none))) else (some (x7, x8, x11, bt600.2.1, bt600.2.2)))
end
def spec_l18DrawRun.f (k : Nat) (s0_0 : List Int) (s0_1 : Int) (s0_2 : Int) (a1 : Int) : Option (List Int × (List (S49)) × List Int × Int × Int) := (spec_l9DrawMem.f k s0_0 s0_1 s0_2).bind fun bt563 => (spec_l18DrawRun.l0 k a1 bt563.1 (([] : List (S49))) 0 s0_0 bt563.2.1 bt563.2.2)
theorem spec_l18DrawRun.mono_l : ∀ k, (∀ y0 y1 y2 y3 y4 y5 y6, LeO (spec_l18DrawRun.l0 k y0 y1 y2 y3 y4 y5 y6) (spec_l18DrawRun.l0 (k + 1) y0 y1 y2 y3 y4 y5 y6)) ∧ (∀ y0 y1 y2 y3 y4 y5 y6 y7, LeO (spec_l18DrawRun.l1 k y0 y1 y2 y3 y4 y5 y6 y7) (spec_l18DrawRun.l1 (k + 1) y0 y1 y2 y3 y4 y5 y6 y7))
 | 0 => ⟨fun _ _ _ _ _ _ _ r h => by simp [spec_l18DrawRun.l0] at h, fun _ _ _ _ _ _ _ _ r h => by simp [spec_l18DrawRun.l1] at h⟩
 | k + 1 => by
  obtain ⟨ih0, ih1⟩ := spec_l18DrawRun.mono_l k
  refine ⟨?_, ?_⟩
  ·intros
   unfold spec_l18DrawRun.l0
   have mo0 := @spec_HartOk.mono
   have mo1 := @spec_l9DrawHart.mono
   have mo2 := @spec_l9DrawMem.mono
   exact zL
  ·intros
   unfold spec_l18DrawRun.l1
   have mo0 := @spec_HartOk.mono
   have mo1 := @spec_l9DrawHart.mono
   have mo2 := @spec_l9DrawMem.mono
   exact zL
theorem spec_l18DrawRun.mono : ∀ a0 a1 a2 a3 k, LeO (spec_l18DrawRun.f k a0 a1 a2 a3) (spec_l18DrawRun.f (k + 1) a0 a1 a2 a3) := by
 intro a0 a1 a2 a3 k
 obtain ⟨ih0, ih1⟩ := spec_l18DrawRun.mono_l k
 unfold spec_l18DrawRun.f
 have mo0 := @spec_HartOk.mono
 have mo1 := @spec_l9DrawHart.mono
 have mo2 := @spec_l9DrawMem.mono
 exact zL
theorem l1Words_len {n : Int} : ∀ (k : Nat) (r : List Int) (x : Int), spec_l1Words.l0 k r n x = some true → (r.length : Int) = n
 | 0, r, x, h => by simp [spec_l1Words.l0] at h
 | k + 1, r, x, h => by
  unfold spec_l1Words.l0 at h
  by_cases c : x < (r.length : Int)
  rotate_left
  ·rw [if_neg c] at h; simpa using h
  rw [if_pos c] at h
  by_cases c2 : 0 ≤ x
  rotate_left
  ·rw [if_neg c2] at h; cases h
  rw [if_pos c2] at h
  obtain ⟨b, hb, h⟩ := Option.bind_eq_some_iff.1 h
  cases b with
  | true => exact l1Words_len k r _ (by simpa using h)
  | false => simp at h
theorem hartOk_len {k : Nat} {r : List Int} {p s : Int} (h : spec_HartOk.f k r p s = some true) : r.length = 4 := by
 unfold spec_HartOk.f at h
 obtain ⟨b, hb, h⟩ := Option.bind_eq_some_iff.1 h
 cases b with
 | false => simp at h
 | true =>
  have := l1Words_len k r 0 (show spec_l1Words.l0 k r 4 0 = some true from hb)
  omega
theorem spec_l18DrawRun.calls (k : Nat) (g : Nat) (s0_0 : List Int) (s0_1 : Int) (s0_2 : Int) (a1 : Int) (r1 : List Int) (r2 : List (S49)) (r3 : List Int) (r4 : Int) (r5 : Int) (w0 w : World) (hI : IsS90 w0 w g s0_0 s0_1 s0_2) (hB : Below w0.heap.size w0 w) (h : spec_l18DrawRun.f k s0_0 s0_1 s0_2 a1 = some (r1, r2, r3, r4, r5)) :
  Calls Try.prog 59 #[.pointer (some ⟨g, 0, none⟩), .int .i64 a1] w fun e w' => ∃ v0_ v1_ v2_ : Value, e = .returned (.tuple #[v0_, v1_, v2_]) ∧ Kd.R (Kd.int .i64) 3 w' w.heap.size (fun k_ => some k_ ≠ (v2_ : Value).ownBlock) v0_ r1 ∧ Kd.S k49 49 w' w.heap.size (fun k_ => some k_ ≠ (v0_ : Value).ownBlock ∧ some k_ ≠ (v2_ : Value).ownBlock) v1_ r2 ∧ Kd.R (Kd.int .i64) 3 w' w.heap.size (fun k_ => some k_ ≠ (v0_ : Value).ownBlock) v2_ r3 ∧ IsS90 w0 w' g s0_0 r4 r5 ∧ Below w0.heap.size w0 w' ∧ KeepBut w w' g none := by
 have hu49 := Try.underlying49
 have HI0 := zM hI
 have HK := zM (KeepBut.refl w g none)
 have HL := zM hB.size
 clear hI
 have HW0 := zM hB.size
 have HB := zM hB
 clear hB
 unfold spec_l18DrawRun.f at h
 have H := h
 clear h
 replace H := zO H
 obtain ⟨⟨t563, t566, t567⟩, A3, H⟩ := H
 try dsimp only at H
 obtain ⟨y568, hy568⟩ : ∃ y_ : List (S49), y_ = (([] : List (S49))) := ⟨_, rfl⟩
 replace H : (spec_l18DrawRun.l0 k a1 t563 y568 0 s0_0 t566 t567) = some (r1, r2, r3, r4, r5) := by first | (rw [hy568]; with_reducible exact H) | (have H2_ := (Option.bind_some _ _).symm.trans H; rw [hy568]; with_reducible exact H2_) | (have H2_ := (Option.bind_some _ _).symm.trans H; with_reducible exact H2_) | with_reducible exact H | (rw [hy568]; exact H) | exact H
 have Ny568 := zM hy568
 clear hy568
 have H' := zM H
 clear H
 go_enter Try.func59, Try.ntmps59
 go_wp2_with (first | ((with_reducible refine zG Try.func81 14 #[.pointer (some ⟨g, 0, none⟩)] ?_); (with_reducible refine (spec_l9DrawMem.calls k g s0_0 s0_1 s0_2 t563 t566 t567 w0 _ ?side1 ?side2 A3.1).mono ?_); (case side1 => exact zB35); (case side2 => exact zB36); rintro e w4 ⟨v564, rfl, ho0, hi, hb, hk⟩; refine ⟨_, rfl, ?_⟩; have HO565 := zM (Kd.R_lower ho0 (keep_size (w := w) (g := g) (row := none) zB37)); replace HK := zM (KeepBut.trans zB37 hk (.inl rfl)); replace HB := zM hb; replace HI0 := zM hi; clear hb hk hi ho0) | ((with_reducible refine gate_dst (N := 15) rfl ?_); refine Kd.S_lit k49 _ 49 ?hg (N := 15) ?hd (xs := ([] : List (S49))) (inner := []) (ok := fun _ => True) (okp := fun _ => True) ?hr ?hp (fun _ hk => hk) trivial (Below.refl _ _) (Nat.le_refl _) (by simp) ?_; (case hd => rfl); (case hg => rfl); (case hr => exact zHH); (case hp => exact (Reps.none _ _)); intro v569 w5 ho6 hb hg_ hnew_; clear hg_ hnew_; (first | rw [← Ny568.1] at ho6 | (simp only [Int.reduceToNat] at ho6; rw [← Ny568.1] at ho6)); have HO570 := zM (Kd.S_lower (Kd.S_new' ho6 (Kd.R_lt (zR HO565.1))) (keep_size (w := w) (g := g) (row := none) zB37)); replace HO565 := zM (Kd.R_below (zR HO565.1) hb); replace HK := zM (KeepBut.trans zB37 (KeepBut.of_below hb g none) (.inl rfl)); replace HB := zM (below_step zB36 hb); replace HI0 := zM (IsS90.below zB35 hb); clear hb ho6))
 go_loopg [8, 9] k (fun kq v8 v9 w' => ∃ (x8_1 : List (S49)) (x9_1 : Int) (x1001_1 : Int) (x1002_1 : Int), v9 = .int .i64 x9_1 ∧ Aside0 (spec_l18DrawRun.l0 kq a1 t563 x8_1 x9_1 s0_0 x1001_1 x1002_1 = some (r1, r2, r3, r4, r5)) ∧ Aside0 (kq ≤ k) ∧ Aside0 (Kd.R (Kd.int .i64) 3 w' w.heap.size (fun _ => True) v564 t563) ∧ Aside0 (Kd.S k49 49 w' w.heap.size (fun k_ => some k_ ≠ (v564 : Value).ownBlock) v8 x8_1) ∧ Aside0 (IsS90 w0 w' g s0_0 x1001_1 x1002_1) ∧ Aside0 (KeepBut w w' g none) ∧ Aside0 (Below w0.heap.size w0 w'))
 case atStart => exact ⟨(y568), (0), (t566), (t567), zJJ, H', ⟨Nat.le_refl _⟩, ⟨zR HO565.1⟩, ⟨by refine zrS ?_; exact Kd.S_mono HO570.1 (fun _ hk => hk.2)⟩, ⟨zB35⟩, ⟨zB37⟩, ⟨zB36⟩⟩
 case round =>
  clear H'
  try clear p2
  try clear c5
  obtain ⟨x8_1, x9_1, x1001_1, x1002_1, rfl, HA, HK1, HO_7, HO_8, HI0, HK, HB⟩ := hrel
  cases gk with
  | zero => exact absurd HA.1 (by simp [spec_l18DrawRun.l0])
  | succ k1 =>
   have H := HA.1
   clear HA
   simp only [spec_l18DrawRun.l0] at H
   replace H := zO H
   obtain ⟨⟨t571, t572, t573⟩, A7, H⟩ := H
   try dsimp only at H
   by_cases c8 : x9_1 < (wrap64 (1 + t571))
   rotate_left
   ·rw [if_neg c8] at H
    have c8b0 := decide_eq_false c8
    clear c8
    obtain ⟨y597, hy597⟩ : ∃ y_ : List Int, y_ = (([] : List Int)) := ⟨_, rfl⟩
    replace H : (spec_l18DrawRun.l1 k1 a1 t563 x8_1 y597 0 s0_0 t572 t573) = some (r1, r2, r3, r4, r5) := by first | (rw [hy597]; with_reducible exact H) | (have H2_ := (Option.bind_some _ _).symm.trans H; rw [hy597]; with_reducible exact H2_) | (have H2_ := (Option.bind_some _ _).symm.trans H; with_reducible exact H2_) | with_reducible exact H | (rw [hy597]; exact H) | exact H
    have Ny597 := zM hy597
    clear hy597
    have H' := zM H
    clear H
    go_wp2_with (first | ((with_reducible refine zG Try.func42 18 #[.pointer (some ⟨g, 0, none⟩), .int .i64 3] ?_); (with_reducible refine (spec_l1Below.calls g s0_0 x1001_1 x1002_1 3 t571 t572 t573 w0 _ ?side1 ?side2 A7.1).mono ?_); (case side1 => exact zB35); (case side2 => exact zB36); rintro e w39 ⟨rfl, hi, hb, hk⟩; refine ⟨_, rfl, ?_⟩; replace HO_7 := zM (Kd.R_mono (Kd.R_keep (IsS90.apart (show IsS90 w0 _ g s0_0 x1001_1 x1002_1 from zB35) (zR HO_7.1) (by decide)) hk (fun _ h => h.2)) (fun _ h => h.1)); replace HO_8 := zM (Kd.S_mono (Kd.S_keep (IsS90.apartS (show IsS90 w0 _ g s0_0 x1001_1 x1002_1 from zB35) (zS HO_8.1) (by decide)) hk (fun _ h => h.2)) (fun _ h => h.1)); replace HK := zM (KeepBut.trans zB37 hk (.inl rfl)); replace HB := zM hb; replace HI0 := zM hi; clear hb hk hi) | ((with_reducible refine gate_dst (N := 35) rfl ?_); refine Kd.R_lit (Kd.int .i64) _ 3 ?hg (N := 35) ?hd (xs := ([] : List Int)) (inner := []) (ok := fun _ => True) (okp := fun _ => True) ?hr ?hp (fun _ hk => hk) trivial (Below.refl _ _) (Nat.le_refl _) (by simp) ?_; (case hd => rfl); (case hg => rfl); (case hr => exact zHH); (case hp => exact (Reps.none _ _)); intro v598 w40 ho41 hb hg_ hnew_; clear hg_ hnew_; (first | rw [← Ny597.1] at ho41 | (simp only [Int.reduceToNat] at ho41; rw [← Ny597.1] at ho41)); replace HO_8 := zM (Kd.S_elder' (zS HO_8.1) (Kd.R_base ho41) hb); have HO599 := zM (Kd.R_lower (Kd.R_new' ho41 (Kd.R_lt (zR HO_7.1))) (keep_size (w := w) (g := g) (row := none) zB37)); replace HO_7 := zM (Kd.R_elder' (zR HO_7.1) (Kd.R_base ho41) hb); replace HK := zM (KeepBut.trans zB37 (KeepBut.of_below hb g none) (.inl rfl)); replace HB := zM (below_step zB36 hb); replace HI0 := zM (IsS90.below zB35 hb); clear hb ho41))
    go_loopg [11, 12] k1 (fun kq v11 v12 w' => ∃ (x11_2 : List Int) (x12_2 : Int) (x1001_2 : Int) (x1002_2 : Int), v12 = .int .i64 x12_2 ∧ Aside0 (spec_l18DrawRun.l1 kq a1 t563 x8_1 x11_2 x12_2 s0_0 x1001_2 x1002_2 = some (r1, r2, r3, r4, r5)) ∧ Aside0 (kq ≤ k1) ∧ Aside0 (Kd.R (Kd.int .i64) 3 w' w.heap.size (fun k_ => some k_ ≠ (v11 : Value).ownBlock) v564 t563) ∧ Aside0 (Kd.S k49 49 w' w.heap.size (fun k_ => some k_ ≠ (v564 : Value).ownBlock ∧ some k_ ≠ (v11 : Value).ownBlock) u8 x8_1) ∧ Aside0 (Kd.R (Kd.int .i64) 3 w' w.heap.size (fun k_ => some k_ ≠ (v564 : Value).ownBlock) v11 x11_2) ∧ Aside0 (IsS90 w0 w' g s0_0 x1001_2 x1002_2) ∧ Aside0 (KeepBut w w' g none) ∧ Aside0 (Below w0.heap.size w0 w'))
    case atStart => exact ⟨(y597), (0), (t572), (t573), zJJ, H', ⟨Nat.le_refl _⟩, ⟨by refine zrR ?_; exact Kd.R_mono HO_7.1 (fun _ hk => hk.2)⟩, ⟨zS HO_8.1⟩, ⟨by refine zrR ?_; exact Kd.R_mono HO599.1 (fun _ hk => hk.2)⟩, ⟨zB35⟩, ⟨zB37⟩, ⟨zB36⟩⟩
    case round =>
     clear H'
     try clear c1
     try clear c2
     try clear p2
     try clear c4
     try clear c5
     try clear p6
     try clear c7
     try clear c8
     try clear c8b0
     try clear c11
     try clear c12
     try clear c17
     try clear c24
     try clear c29
     try clear hcz18
     try clear hcz20
     try clear hcz30
     try clear hcz35
     try clear hcz37
     try clear p2
     obtain ⟨x11_2, x12_2, x1001_2, x1002_2, rfl, HA, HK2, HO_7, HO_8, HO_11, HI0, HK, HB⟩ := hrel
     cases gk with
     | zero => exact absurd HA.1 (by simp [spec_l18DrawRun.l1])
     | succ k2 =>
      have H := HA.1
      clear HA
      simp only [spec_l18DrawRun.l1] at H
      replace H := zO H
      obtain ⟨⟨t600, t601, t602⟩, A42, H⟩ := H
      try dsimp only at H
      by_cases c43 : x12_2 < t600
      rotate_left
      ·rw [if_neg c43] at H
       have c43b0 := decide_eq_false c43
       clear c43
       simp only [Option.some.injEq, Prod.mk.injEq] at H
       obtain ⟨rfl, rfl, rfl, rfl, rfl⟩ := H
       go_wp2_with (first | ((with_reducible refine zG Try.func42 39 #[.pointer (some ⟨g, 0, none⟩), .int .i64 a1] ?_); (with_reducible refine (spec_l1Below.calls g s0_0 x1001_2 x1002_2 a1 t600 t601 t602 w0 _ ?side1 ?side2 A42.1).mono ?_); (case side1 => exact zB35); (case side2 => exact zB36); rintro e w50 ⟨rfl, hi, hb, hk⟩; refine ⟨_, rfl, ?_⟩; replace HO_7 := zM (Kd.R_mono (Kd.R_keep (IsS90.apart (show IsS90 w0 _ g s0_0 x1001_2 x1002_2 from zB35) (zR HO_7.1) (by decide)) hk (fun _ h => h.2)) (fun _ h => h.1)); replace HO_8 := zM (Kd.S_mono (Kd.S_keep (IsS90.apartS (show IsS90 w0 _ g s0_0 x1001_2 x1002_2 from zB35) (zS HO_8.1) (by decide)) hk (fun _ h => h.2)) (fun _ h => h.1)); replace HO_11 := zM (Kd.R_mono (Kd.R_keep (IsS90.apart (show IsS90 w0 _ g s0_0 x1001_2 x1002_2 from zB35) (zR HO_11.1) (by decide)) hk (fun _ h => h.2)) (fun _ h => h.1)); replace HK := zM (KeepBut.trans zB37 hk (.inl rfl)); replace HB := zM hb; replace HI0 := zM hi; clear hb hk hi))
       go_ret3
       exact ⟨_, _, _, zE, zR HO_7.1, zS HO_8.1, zR HO_11.1, zB35, zB36, zB37⟩
      rw [if_pos c43] at H
      have c43b0 := decide_eq_true c43
      clear c43
      replace H := zO H
      obtain ⟨⟨t603, t604, t605⟩, A44, H⟩ := H
      try dsimp only at H
      replace H := zIn H
      obtain ⟨LMc45, H⟩ := H
      obtain ⟨y606, hy606⟩ : ∃ y_ : List Int, y_ = (x11_2 ++ [t603]) := ⟨_, rfl⟩
      replace H : (spec_l18DrawRun.l1 k2 a1 t563 x8_1 y606 (wrap64 (x12_2 + 1)) s0_0 t604 t605) = some (r1, r2, r3, r4, r5) := by first | (rw [hy606]; with_reducible exact H) | (have H2_ := (Option.bind_some _ _).symm.trans H; rw [hy606]; with_reducible exact H2_) | (have H2_ := (Option.bind_some _ _).symm.trans H; with_reducible exact H2_) | with_reducible exact H | (rw [hy606]; exact H) | exact H
      have Ny606 := zM hy606
      clear hy606
      have H' := zM H
      clear H
      go_wp2_with (first | ((with_reducible refine zG Try.func42 39 #[.pointer (some ⟨g, 0, none⟩), .int .i64 a1] ?_); (with_reducible refine (spec_l1Below.calls g s0_0 x1001_2 x1002_2 a1 t600 t601 t602 w0 _ ?side1 ?side2 A42.1).mono ?_); (case side1 => exact zB35); (case side2 => exact zB36); rintro e w46 ⟨rfl, hi, hb, hk⟩; refine ⟨_, rfl, ?_⟩; replace HO_7 := zM (Kd.R_mono (Kd.R_keep (IsS90.apart (show IsS90 w0 _ g s0_0 x1001_2 x1002_2 from zB35) (zR HO_7.1) (by decide)) hk (fun _ h => h.2)) (fun _ h => h.1)); replace HO_8 := zM (Kd.S_mono (Kd.S_keep (IsS90.apartS (show IsS90 w0 _ g s0_0 x1001_2 x1002_2 from zB35) (zS HO_8.1) (by decide)) hk (fun _ h => h.2)) (fun _ h => h.1)); replace HO_11 := zM (Kd.R_mono (Kd.R_keep (IsS90.apart (show IsS90 w0 _ g s0_0 x1001_2 x1002_2 from zB35) (zR HO_11.1) (by decide)) hk (fun _ h => h.2)) (fun _ h => h.1)); replace HK := zM (KeepBut.trans zB37 hk (.inl rfl)); replace HB := zM hb; replace HI0 := zM hi; clear hb hk hi; obtain ⟨Ao47, co47, eo47⟩ := Kd.S_slice HO_8.1; subst eo47) | ((with_reducible refine zG Try.func42 47 #[.pointer (some ⟨g, 0, none⟩), .int .i64 (x8_1.length : Int)] ?_); (with_reducible refine (spec_l1Below.calls g s0_0 t601 t602 (x8_1.length : Int) t603 t604 t605 w0 _ ?side1 ?side2 A44.1).mono ?_); (case side1 => exact zB35); (case side2 => exact zB36); rintro e w48 ⟨rfl, hi, hb, hk⟩; refine ⟨_, rfl, ?_⟩; replace HO_7 := zM (Kd.R_mono (Kd.R_keep (IsS90.apart (show IsS90 w0 _ g s0_0 t601 t602 from zB35) (zR HO_7.1) (by decide)) hk (fun _ h => h.2)) (fun _ h => h.1)); replace HO_8 := zM (Kd.S_mono (Kd.S_keep (IsS90.apartS (show IsS90 w0 _ g s0_0 t601 t602 from zB35) (zS HO_8.1) (by decide)) hk (fun _ h => h.2)) (fun _ h => h.1)); replace HO_11 := zM (Kd.R_mono (Kd.R_keep (IsS90.apart (show IsS90 w0 _ g s0_0 t601 t602 from zB35) (zR HO_11.1) (by decide)) hk (fun _ h => h.2)) (fun _ h => h.1)); replace HK := zM (KeepBut.trans zB37 hk (.inl rfl)); replace HB := zM hb; replace HI0 := zM hi; clear hb hk hi) | ((with_reducible refine gate_builtin (b := .append) (xs := #[.tmp 43, .tmp 48]) rfl ?_); at_builtin; refine Kd.R_append (Kd.int .i64) w.heap.size rfl (.tmp 43) (.tmp 48) 29 3 (.int .i64 0) 8 rfl Try.underlying29 info3 rfl (by decide) (by omega) u11 x11_2 t603 [.int .i64 t603] (fun k_ => some k_ ≠ (v564 : Value).ownBlock) (fun _ => False) rfl rfl ?aP (fun _ hk => hk.elim) ?aF ?aO (Below.refl _ _) ?aS ?aL ?_; (case aP => exact rfl); (case aF => exact (fun k_ hk => Kd.fresh' (Kd.R_lt (zR HO_7.1)) k_ hk)); (case aO => exact (zR HO_11.1)); (case aS => exact (keep_size (w := w) (g := g) (row := none) zB37)); (case aL => have := LMc45.out; omega); intro v607 w49 ho hb hg hat; rw [← Ny606.1] at ho; replace HO_7 := zM (Kd.R_after (ok := (fun _ => True)) (by refine zrR ?_; exact Kd.R_mono HO_7.1 (fun _ hk => ⟨trivial, hk⟩)) hg hat); replace HO_8 := zM (Kd.S_after (ok := (fun k_ => some k_ ≠ (v564 : Value).ownBlock)) (zS HO_8.1) hg hat); replace HB := zM (below_weaken zB36 HL.1 hb); replace HI0 := zM (IsS90.grown (show IsS90 w0 _ g s0_0 t604 t605 from zB35) hg (IsS90.own_ne HI0.1 HO_11.1 (by decide))); replace HK := zM (KeepBut.trans zB37 (KeepBut.of_grown hg g) (Kd.R_base2 HO_11.1)); have HO608 := zM ho; clear HO_11; clear ho hb hg hat))
      go_roundg k2
      case measure => have := HK1.1; have := HK2.1; omega
      case rel => exact ⟨(y606), (wrap64 (x12_2 + 1)), (t604), (t605), zJJ, H', ⟨by have := HK1.1; have := HK2.1; omega⟩, ⟨by refine zrR ?_; exact Kd.R_mono HO_7.1 (fun _ hk => hk.2)⟩, ⟨zS HO_8.1⟩, ⟨zR HO608.1⟩, ⟨zB35⟩, ⟨zB37⟩, ⟨zB36⟩⟩
   rw [if_pos c8] at H
   have c8b0 := decide_eq_true c8
   clear c8
   replace H := zO H
   obtain ⟨⟨t574, t577, t578, t579, t580⟩, A9, H⟩ := H
   try dsimp only at H
   replace H := zO H
   obtain ⟨t582, A10, H⟩ := H
   by_cases c11 : t582 = true
   ·subst c11
    rw [if_pos rfl] at H
    replace H := zIn H
    obtain ⟨LMc12, H⟩ := H
    obtain ⟨y583, hy583⟩ : ∃ y_ : List (S49), y_ = (x8_1 ++ [(⟨t574, t577, t578⟩ : S49)]) := ⟨_, rfl⟩
    replace H : (spec_l18DrawRun.l0 k1 a1 t563 y583 (wrap64 (x9_1 + 1)) s0_0 t579 t580) = some (r1, r2, r3, r4, r5) := by first | (rw [hy583]; with_reducible exact H) | (have H2_ := (Option.bind_some _ _).symm.trans H; rw [hy583]; with_reducible exact H2_) | (have H2_ := (Option.bind_some _ _).symm.trans H; with_reducible exact H2_) | with_reducible exact H | (rw [hy583]; exact H) | exact H
    have Ny583 := zM hy583
    clear hy583
    have H' := zM H
    clear H
    go_wp2_with (first | ((with_reducible refine zG Try.func42 18 #[.pointer (some ⟨g, 0, none⟩), .int .i64 3] ?_); (with_reducible refine (spec_l1Below.calls g s0_0 x1001_1 x1002_1 3 t571 t572 t573 w0 _ ?side1 ?side2 A7.1).mono ?_); (case side1 => exact zB35); (case side2 => exact zB36); rintro e w13 ⟨rfl, hi, hb, hk⟩; refine ⟨_, rfl, ?_⟩; replace HO_7 := zM (Kd.R_mono (Kd.R_keep (IsS90.apart (show IsS90 w0 _ g s0_0 x1001_1 x1002_1 from zB35) (zR HO_7.1) (by decide)) hk (fun _ h => h.2)) (fun _ h => h.1)); replace HO_8 := zM (Kd.S_mono (Kd.S_keep (IsS90.apartS (show IsS90 w0 _ g s0_0 x1001_1 x1002_1 from zB35) (zS HO_8.1) (by decide)) hk (fun _ h => h.2)) (fun _ h => h.1)); replace HK := zM (KeepBut.trans zB37 hk (.inl rfl)); replace HB := zM hb; replace HI0 := zM hi; clear hb hk hi) | ((with_reducible refine zG Try.func82 24 #[.pointer (some ⟨g, 0, none⟩)] ?_); (with_reducible refine (spec_l9DrawHart.calls k1 g s0_0 t572 t573 t574 t577 t578 t579 t580 w0 _ ?side1 ?side2 A9.1).mono ?_); (case side1 => exact zB35); (case side2 => exact zB36); rintro e w14 ⟨v575, rfl, hoq_, hi, hb, hk⟩; have ho0 := hoq_.2 (hartOk_len A10.1); clear hoq_; refine ⟨_, rfl, ?_⟩; replace HO_8 := zM (Kd.S_mono (Kd.S_told (Kd.S_oldK (IsS90.apartS (show IsS90 w0 _ g s0_0 t572 t573 from zB35) (zS HO_8.1) (by decide)) hk) (Kd.R_base ho0)) (fun _ h_ => h_.1)); have HO576 := zM (Kd.R_lower (Kd.R_new' ho0 (Kd.R_lt (zR HO_7.1))) (keep_size (w := w) (g := g) (row := none) zB37)); replace HO_7 := zM (Kd.R_mono (Kd.R_told (Kd.R_oldK (IsS90.apart (show IsS90 w0 _ g s0_0 t572 t573 from zB35) (zR HO_7.1) (by decide)) hk) (Kd.R_base ho0)) (fun _ h_ => h_.1)); replace HK := zM (KeepBut.trans zB37 hk (.inl rfl)); replace HB := zM hb; replace HI0 := zM hi; clear hb hk hi) | ((with_reducible refine zBx 10 49 #[.slice none 0 0, .int .i64 0, .int .i64 0] ?_); intro gb581 hg w15 hbox hb; replace HO_7 := zM (Kd.R_below (zR HO_7.1) hb); replace HO_8 := zM (Kd.S_below (Kd.S_elderB (zS HO_8.1) gb581 (Nat.le_of_eq hg.symm)) hb); replace HO576 := zM (Kd.R_below (zR HO576.1) hb); replace HB := zM (below_step zB36 hb); have BK581 := zM hbox; have GW581 := zM ((by rw [hg]; exact (keep_size (w := w) (g := g) (row := none) zB37) : w.heap.size ≤ gb581)); have GE581 := zM ((Nat.le_trans HW0.1 (by rw [hg]; exact (keep_size (w := w) (g := g) (row := none) zB37) : w.heap.size ≤ gb581) : w0.heap.size ≤ gb581)); replace HK := zM (KeepBut.trans zB37 (KeepBut.of_below hb g none) (.inl rfl)); have NB0_581 := zM ((by rw [hg]; exact Nat.ne_of_lt (IsS90.lt (show IsS90 w0 _ g s0_0 t579 t580 from zB35)) : g ≠ gb581)); replace HI0 := zM (IsS90.below zB35 hb); clear hb hbox hg; obtain ⟨Ao16, co16, eo16⟩ := Kd.R_slice HO576.1; subst eo16; have hcz18 := zc_3 (w := w15) BK581.1) | ((with_reducible refine zG Try.func76 26 #[.agg #[.slice Ao16 t574.length co16, .int .i64 t577, .int .i64 t578]] ?_); (with_reducible refine (spec_HartOk.calls k1 _ _ t574 t577 t578 true _ ?side1 ?side2 A10.1).mono ?_); (case side1 => refine (Kd.R_reads' (e := 3) (base := w.heap.size) (ok := fun k_ => (True ∧ some k_ ≠ (v564 : Value).ownBlock)) (n := t574.length) (c := co16) ?_).2.2; exact (by refine zrR ?_; exact (Kd.R_mono (Kd.R_far (p := ⟨gb581, 2, none⟩) (Kd.R_far (p := ⟨gb581, 1, none⟩) (Kd.R_far (p := ⟨gb581, 0, none⟩) (Kd.R_types HO576.1 BK581.1 (by decide)) (fun _ hk => hk.2) (.slice Ao16 t574.length co16)) (fun _ hk => hk.2) (.int .i64 t577)) (fun _ hk => hk.2) (.int .i64 t578)) (fun _ h_ => h_.1)))); (case side2 => exact (Kd.R_reads' HO576.1).2.1); rintro e w19 ⟨rfl, hb⟩; refine ⟨_, rfl, ?_⟩; replace HO_7 := zM (Kd.R_below (by refine zrR ?_; exact (Kd.R_mono (Kd.R_far (p := ⟨gb581, 2, none⟩) (Kd.R_far (p := ⟨gb581, 1, none⟩) (Kd.R_far (p := ⟨gb581, 0, none⟩) (Kd.R_types HO_7.1 BK581.1 (by decide)) (fun _ hk => hk.2) (.slice Ao16 t574.length co16)) (fun _ hk => hk.2) (.int .i64 t577)) (fun _ hk => hk.2) (.int .i64 t578)) (fun _ h_ => h_.1))) hb); replace HO_8 := zM (Kd.S_below (by refine zrS ?_; exact (Kd.S_mono (Kd.S_far (p := ⟨gb581, 2, none⟩) (Kd.S_far (p := ⟨gb581, 1, none⟩) (Kd.S_far (p := ⟨gb581, 0, none⟩) (Kd.S_mono HO_8.1 (fun k_ hk => (⟨hk, hk.2⟩ : _ ∧ k_ ≠ gb581))) (fun _ hk => hk.2) (.slice Ao16 t574.length co16)) (fun _ hk => hk.2) (.int .i64 t577)) (fun _ hk => hk.2) (.int .i64 t578)) (fun _ h_ => h_.1))) hb); replace HO576 := zM (Kd.R_below (by refine zrR ?_; exact (Kd.R_mono (Kd.R_far (p := ⟨gb581, 2, none⟩) (Kd.R_far (p := ⟨gb581, 1, none⟩) (Kd.R_far (p := ⟨gb581, 0, none⟩) (Kd.R_types HO576.1 BK581.1 (by decide)) (fun _ hk => hk.2) (.slice Ao16 t574.length co16)) (fun _ hk => hk.2) (.int .i64 t577)) (fun _ hk => hk.2) (.int .i64 t578)) (fun _ h_ => h_.1))) hb); replace BK581 := zM (blk_below (g := gb581) (o := .cells #[.slice Ao16 t574.length co16, .int .i64 t577, .int .i64 t578] 49 (0, 0)) (by exact zp3 (zK BK581.1)) hb); replace HK := zM (KeepBut.trans zB37 (KeepBut.of_below hb g none) (.inl rfl)); replace HB := zM (below_step zB36 hb); replace HI0 := zM (IsS90.below (show IsS90 w0 (((w15.setCell ⟨gb581, 0, none⟩ (.slice Ao16 t574.length co16)).setCell ⟨gb581, 1, none⟩ (.int .i64 t577)).setCell ⟨gb581, 2, none⟩ (.int .i64 t578)) g s0_0 t579 t580 from zB58) hb); clear hb; have hcz20 := zc_3 (w := w19) BK581.1) | ((with_reducible refine gate_builtin (b := .append) (xs := #[.tmp 31, .tmp 33]) rfl ?_); at_builtin; refine Kd.S_append k49 w.heap.size rfl (.tmp 31) (.tmp 33) 51 49 (.agg #[(.slice none 0 0), (.int .i64 0), (.int .i64 0)]) 40 rfl Try.underlying51 info49 rfl (by decide) (by omega) u8 x8_1 (⟨t574, t577, t578⟩ : S49) [.slice Ao16 t574.length co16, .int .i64 t577, .int .i64 t578] (fun k_ => some k_ ≠ (v564 : Value).ownBlock ∧ k_ ≠ gb581) (fun k_ => some k_ = (.slice Ao16 t574.length co16 : Value).ownBlock) rfl rfl ?aP (fun k_ hk_ => ((Kd.R_mono (ok' := fun k_ => ((fun k_ => some k_ ≠ (v564 : Value).ownBlock ∧ k_ ≠ gb581)) k_ ∧ some k_ ≠ (u8 : Value).ownBlock) (Kd.R_types (Kd.R_apart' (HO576.1) (Kd.S_typed HO_8.1) (by decide)) BK581.1 (by decide)) (fun k_ hk => ⟨⟨hk.1.1.2, hk.2⟩, hk.1.2⟩))).1 k_ hk_.symm) ?aF ?aO (Below.refl _ _) ?aS ?aL ?_; (case aP => exact k49_mkM _ _ _ (⟨t574, t577, t578⟩ : S49) (Kd.R_mono (Kd.R_tight rfl (Kd.R_mono (ok' := fun k_ => ((fun k_ => some k_ ≠ (v564 : Value).ownBlock ∧ k_ ≠ gb581)) k_ ∧ some k_ ≠ (u8 : Value).ownBlock) (Kd.R_types (Kd.R_apart' (HO576.1) (Kd.S_typed HO_8.1) (by decide)) BK581.1 (by decide)) (fun k_ hk => ⟨⟨hk.1.1.2, hk.2⟩, hk.1.2⟩))) (fun _ h_ => h_))); (case aF => exact (fun k_ hk => ⟨Kd.fresh' (Kd.R_lt (zR HO_7.1)) k_ hk, Kd.freshB (g := gb581) (o := .cells #[.slice Ao16 t574.length co16, .int .i64 t577, .int .i64 t578] 49 (0, 0)) (zK BK581.1) k_ hk⟩)); (case aO => exact (by refine zrS ?_; exact Kd.S_mono HO_8.1 (fun k_ hk => ⟨⟨hk.1.1, hk.2⟩, fun e_ => hk.1.2 e_⟩))); (case aS => exact (keep_size (w := w) (g := g) (row := none) zB37)); (case aL => have := LMc12.out; omega); intro v584 w21 ho hb hg hat; rw [← Ny583.1] at ho; replace HO_7 := zM (Kd.R_over' (zR HO_7.1) (Kd.S_typed (zS HO_8.1)) (by decide) hg); replace HB := zM (below_weaken zB36 HL.1 hb); replace HI0 := zM (IsS90.grown (show IsS90 w0 _ g s0_0 t579 t580 from zB58) hg (IsS90.own_neS HI0.1 HO_8.1 (by decide))); replace HK := zM (KeepBut.trans zB37 (KeepBut.of_grown hg g) (Kd.S_base2 HO_8.1)); have HO585 := zM ho; clear HO_8; try clear HO576; clear ho hb hg hat))
    go_roundg k1
    case measure => have := HK1.1; omega
    case rel => exact ⟨(y583), (wrap64 (x9_1 + 1)), (t579), (t580), zJJ, H', ⟨by have := HK1.1; omega⟩, ⟨by refine zrR ?_; exact Kd.R_mono HO_7.1 (fun _ hk => trivial)⟩, ⟨by refine zrS ?_; exact Kd.S_mono HO585.1 (fun _ hk => hk.1)⟩, ⟨zB58⟩, ⟨zB37⟩, ⟨zB36⟩⟩
   replace c11 := Bool.eq_false_iff.mpr c11
   subst c11
   rw [if_neg zF] at H
   replace H := zO H
   obtain ⟨⟨t586, t587, t588⟩, A22, H⟩ := H
   try dsimp only at H
   replace H := zO H
   obtain ⟨⟨t589, t592, t593⟩, A23, H⟩ := H
   try dsimp only at H
   replace H := zIn H
   obtain ⟨LMc24, H⟩ := H
   obtain ⟨y594, hy594⟩ : ∃ y_ : List (S49), y_ = (x8_1 ++ [(⟨t589, t592, t593⟩ : S49)]) := ⟨_, rfl⟩
   replace H : (spec_l18DrawRun.l0 k1 a1 t563 y594 (wrap64 (x9_1 + 1)) s0_0 t587 t588) = some (r1, r2, r3, r4, r5) := by first | (rw [hy594]; with_reducible exact H) | (have H2_ := (Option.bind_some _ _).symm.trans H; rw [hy594]; with_reducible exact H2_) | (have H2_ := (Option.bind_some _ _).symm.trans H; with_reducible exact H2_) | with_reducible exact H | (rw [hy594]; exact H) | exact H
   have Ny594 := zM hy594
   clear hy594
   have H' := zM H
   clear H
   go_wp2_with (first | ((with_reducible refine zG Try.func42 18 #[.pointer (some ⟨g, 0, none⟩), .int .i64 3] ?_); (with_reducible refine (spec_l1Below.calls g s0_0 x1001_1 x1002_1 3 t571 t572 t573 w0 _ ?side1 ?side2 A7.1).mono ?_); (case side1 => exact zB35); (case side2 => exact zB36); rintro e w25 ⟨rfl, hi, hb, hk⟩; refine ⟨_, rfl, ?_⟩; replace HO_7 := zM (Kd.R_mono (Kd.R_keep (IsS90.apart (show IsS90 w0 _ g s0_0 x1001_1 x1002_1 from zB35) (zR HO_7.1) (by decide)) hk (fun _ h => h.2)) (fun _ h => h.1)); replace HO_8 := zM (Kd.S_mono (Kd.S_keep (IsS90.apartS (show IsS90 w0 _ g s0_0 x1001_1 x1002_1 from zB35) (zS HO_8.1) (by decide)) hk (fun _ h => h.2)) (fun _ h => h.1)); replace HK := zM (KeepBut.trans zB37 hk (.inl rfl)); replace HB := zM hb; replace HI0 := zM hi; clear hb hk hi) | ((with_reducible refine zG Try.func82 24 #[.pointer (some ⟨g, 0, none⟩)] ?_); (with_reducible refine (spec_l9DrawHart.calls k1 g s0_0 t572 t573 t574 t577 t578 t579 t580 w0 _ ?side1 ?side2 A9.1).mono ?_); (case side1 => exact zB35); (case side2 => exact zB36); rintro e w26 ⟨v575, rfl, hoq_, hi, hb, hk⟩; have ho0 := hoq_.1; clear hoq_; refine ⟨_, rfl, ?_⟩; replace HO_8 := zM (Kd.S_mono (Kd.S_told (Kd.S_oldK (IsS90.apartS (show IsS90 w0 _ g s0_0 t572 t573 from zB35) (zS HO_8.1) (by decide)) hk) (Kd.Q_base ho0)) (fun _ h_ => h_.1)); have HO576 := zM (Kd.Q_lower (Kd.Q_new' ho0 (Kd.R_lt (zR HO_7.1))) (keep_size (w := w) (g := g) (row := none) zB37)); replace HO_7 := zM (Kd.R_mono (Kd.R_told (Kd.R_oldK (IsS90.apart (show IsS90 w0 _ g s0_0 t572 t573 from zB35) (zR HO_7.1) (by decide)) hk) (Kd.Q_base ho0)) (fun _ h_ => h_.1)); replace HK := zM (KeepBut.trans zB37 hk (.inl rfl)); replace HB := zM hb; replace HI0 := zM hi; clear hb hk hi) | ((with_reducible refine zBx 10 49 #[.slice none 0 0, .int .i64 0, .int .i64 0] ?_); intro gb581 hg w27 hbox hb; replace HO_7 := zM (Kd.R_below (zR HO_7.1) hb); replace HO_8 := zM (Kd.S_below (Kd.S_elderB (zS HO_8.1) gb581 (Nat.le_of_eq hg.symm)) hb); replace HO576 := zM (Kd.Q_below (zQ HO576.1) hb); replace HB := zM (below_step zB36 hb); have BK581 := zM hbox; have GW581 := zM ((by rw [hg]; exact (keep_size (w := w) (g := g) (row := none) zB37) : w.heap.size ≤ gb581)); have GE581 := zM ((Nat.le_trans HW0.1 (by rw [hg]; exact (keep_size (w := w) (g := g) (row := none) zB37) : w.heap.size ≤ gb581) : w0.heap.size ≤ gb581)); replace HK := zM (KeepBut.trans zB37 (KeepBut.of_below hb g none) (.inl rfl)); have NB0_581 := zM ((by rw [hg]; exact Nat.ne_of_lt (IsS90.lt (show IsS90 w0 _ g s0_0 t579 t580 from zB35)) : g ≠ gb581)); have NB581_0 := zM ((by rw [hg]; exact Nat.ne_of_gt (IsS90.lt (show IsS90 w0 _ g s0_0 t579 t580 from zB35)) : gb581 ≠ g)); replace HI0 := zM (IsS90.below zB35 hb); clear hb hbox hg; obtain ⟨Ao28, co28, eo28, _⟩ := Kd.Q_slice HO576.1; subst eo28; have hcz30 := zc_3 (w := w27) BK581.1) | ((with_reducible refine zG Try.func76 26 #[.agg #[.slice Ao28 t574.length co28, .int .i64 t577, .int .i64 t578]] ?_); (with_reducible refine (spec_HartOk.calls k1 _ _ t574 t577 t578 false _ ?side1 ?side2 A10.1).mono ?_); (case side1 => refine (Kd.Q_reads' (e := 3) (base := w.heap.size) (ok := fun k_ => (True ∧ some k_ ≠ (v564 : Value).ownBlock)) (n := t574.length) (c := co28) ?_).2.2; exact (by refine zrQ ?_; exact (Kd.Q_mono (Kd.Q_far (p := ⟨gb581, 2, none⟩) (Kd.Q_far (p := ⟨gb581, 1, none⟩) (Kd.Q_far (p := ⟨gb581, 0, none⟩) (Kd.Q_types HO576.1 BK581.1 (by decide)) (fun _ hk => hk.2) (.slice Ao28 t574.length co28)) (fun _ hk => hk.2) (.int .i64 t577)) (fun _ hk => hk.2) (.int .i64 t578)) (fun _ h_ => h_.1)))); (case side2 => exact (Kd.Q_reads' HO576.1).2.1); rintro e w31 ⟨rfl, hb⟩; refine ⟨_, rfl, ?_⟩; replace HO_7 := zM (Kd.R_below (by refine zrR ?_; exact (Kd.R_mono (Kd.R_far (p := ⟨gb581, 2, none⟩) (Kd.R_far (p := ⟨gb581, 1, none⟩) (Kd.R_far (p := ⟨gb581, 0, none⟩) (Kd.R_types HO_7.1 BK581.1 (by decide)) (fun _ hk => hk.2) (.slice Ao28 t574.length co28)) (fun _ hk => hk.2) (.int .i64 t577)) (fun _ hk => hk.2) (.int .i64 t578)) (fun _ h_ => h_.1))) hb); replace HO_8 := zM (Kd.S_below (by refine zrS ?_; exact (Kd.S_mono (Kd.S_far (p := ⟨gb581, 2, none⟩) (Kd.S_far (p := ⟨gb581, 1, none⟩) (Kd.S_far (p := ⟨gb581, 0, none⟩) (Kd.S_mono HO_8.1 (fun k_ hk => (⟨hk, hk.2⟩ : _ ∧ k_ ≠ gb581))) (fun _ hk => hk.2) (.slice Ao28 t574.length co28)) (fun _ hk => hk.2) (.int .i64 t577)) (fun _ hk => hk.2) (.int .i64 t578)) (fun _ h_ => h_.1))) hb); replace HO576 := zM (Kd.Q_below (by refine zrQ ?_; exact (Kd.Q_mono (Kd.Q_far (p := ⟨gb581, 2, none⟩) (Kd.Q_far (p := ⟨gb581, 1, none⟩) (Kd.Q_far (p := ⟨gb581, 0, none⟩) (Kd.Q_types HO576.1 BK581.1 (by decide)) (fun _ hk => hk.2) (.slice Ao28 t574.length co28)) (fun _ hk => hk.2) (.int .i64 t577)) (fun _ hk => hk.2) (.int .i64 t578)) (fun _ h_ => h_.1))) hb); replace BK581 := zM (blk_below (g := gb581) (o := .cells #[.slice Ao28 t574.length co28, .int .i64 t577, .int .i64 t578] 49 (0, 0)) (by exact zp3 (zK BK581.1)) hb); replace HK := zM (KeepBut.trans zB37 (KeepBut.of_below hb g none) (.inl rfl)); replace HB := zM (below_step zB36 hb); replace HI0 := zM (IsS90.below (show IsS90 w0 (((w27.setCell ⟨gb581, 0, none⟩ (.slice Ao28 t574.length co28)).setCell ⟨gb581, 1, none⟩ (.int .i64 t577)).setCell ⟨gb581, 2, none⟩ (.int .i64 t578)) g s0_0 t579 t580 from zB58) hb); clear hb) | ((with_reducible refine zG Try.func42 29 #[.pointer (some ⟨g, 0, none⟩), .int .i64 20] ?_); (with_reducible refine (spec_l1Below.calls g s0_0 t579 t580 20 t586 t587 t588 w0 _ ?side1 ?side2 A22.1).mono ?_); (case side1 => exact zB58); (case side2 => exact zB36); rintro e w32 ⟨rfl, hi, hb, hk⟩; refine ⟨_, rfl, ?_⟩; replace HO_7 := zM (Kd.R_mono (Kd.R_keep (IsS90.apart (show IsS90 w0 _ g s0_0 t579 t580 from zB58) (zR HO_7.1) (by decide)) hk (fun _ h => h.2)) (fun _ h => h.1)); replace HO_8 := zM (Kd.S_mono (Kd.S_keep (IsS90.apartS (show IsS90 w0 _ g s0_0 t579 t580 from zB58) (zS HO_8.1) (by decide)) hk (fun _ h => h.2)) (fun _ h => h.1)); replace HO576 := zM (Kd.Q_mono (Kd.Q_keep (IsS90.apartQ (show IsS90 w0 _ g s0_0 t579 t580 from zB58) (zQ HO576.1) (by decide)) hk (fun _ h => h.2)) (fun _ h => h.1)); replace BK581 := zM (zh hk BK581.1 NB581_0.1); replace HK := zM (KeepBut.trans zB37 hk (.inl rfl)); replace HB := zM hb; replace HI0 := zM hi; clear hb hk hi) | ((with_reducible refine zG Try.func83 30 #[.int .i64 t586] ?_); (with_reducible refine (spec_HartNew.calls t586 t589 t592 t593 _ A23.1).mono ?_); rintro e w33 ⟨v590, rfl, ho0, hb⟩; refine ⟨_, rfl, ?_⟩; replace HO_8 := zM (Kd.S_elder' (zS HO_8.1) (Kd.R_base ho0) hb); have HO591 := zM (Kd.R_lower (Kd.R_new' (Kd.R_new' ho0 (Kd.R_lt (zR HO_7.1))) (Kd.Q_lt (zQ HO576.1))) (keep_size (w := w) (g := g) (row := none) zB37)); replace HO_7 := zM (Kd.R_elder' (zR HO_7.1) (Kd.R_base ho0) hb); replace HO576 := zM (Kd.Q_elder' (zQ HO576.1) (Kd.R_base ho0) hb); replace BK581 := zM (zb BK581.1 hb); replace HK := zM (KeepBut.trans zB37 (KeepBut.of_below hb g none) (.inl rfl)); replace HB := zM (below_step zB36 hb); replace HI0 := zM (IsS90.below zB58 hb); clear hb ho0; obtain ⟨Ao34, co34, eo34⟩ := Kd.R_slice HO591.1; subst eo34; have hcz35 := zc_3 (w := w33) BK581.1) | ((with_reducible refine gate_store (t := 49) (p := 10) rfl ?_); refine store_event (t := 49) (p := 10) (v := ?vo_w36) (w1 := (((w33.setCell ⟨gb581, 0, none⟩ (.slice Ao34 t589.length co34)).setCell ⟨gb581, 1, none⟩ (.int .i64 t592)).setCell ⟨gb581, 2, none⟩ (.int .i64 t593))) ?hg ?ho ?hn ?hr ?_; (case ho => rfl); (case hg => rfl); (case hn => rfl); (case hr => exact zHH); intro w36 hw; have n0_ : Aside0 (Kd.R (Kd.int .i64) 3 w36 w.heap.size (fun k_ => some k_ ≠ (.slice Ao28 t574.length co28 : Value).ownBlock ∧ some k_ ≠ (.slice Ao34 t589.length co34 : Value).ownBlock) v564 t563) := ⟨(by rw [hw]; exact (by refine zrR ?_; exact Kd.R_mono (Kd.R_far (p := ⟨gb581, 2, none⟩) (Kd.R_far (p := ⟨gb581, 1, none⟩) (Kd.R_far (p := ⟨gb581, 0, none⟩) (Kd.R_types HO_7.1 BK581.1 (by decide)) (fun _ hk => hk.2) (.slice Ao34 t589.length co34)) (fun _ hk => hk.2) (.int .i64 t592)) (fun _ hk => hk.2) (.int .i64 t593)) (fun _ hk => ⟨hk.1.1.2, hk.1.2⟩)))⟩; have n1_ : Aside0 (Kd.S k49 49 w36 w.heap.size (fun k_ => some k_ ≠ (v564 : Value).ownBlock ∧ some k_ ≠ (.slice Ao28 t574.length co28 : Value).ownBlock ∧ some k_ ≠ (.slice Ao34 t589.length co34 : Value).ownBlock ∧ k_ ≠ gb581) u8 x8_1) := ⟨(by rw [hw]; exact (by refine zrS ?_; exact Kd.S_mono (Kd.S_far (p := ⟨gb581, 2, none⟩) (Kd.S_far (p := ⟨gb581, 1, none⟩) (Kd.S_far (p := ⟨gb581, 0, none⟩) (Kd.S_mono HO_8.1 (fun k_ hk => (⟨hk, hk.1.2⟩ : _ ∧ k_ ≠ gb581))) (fun _ hk => hk.2) (.slice Ao34 t589.length co34)) (fun _ hk => hk.2) (.int .i64 t592)) (fun _ hk => hk.2) (.int .i64 t593)) (fun _ hk => ⟨hk.1.1.1.1, ⟨hk.1.1.1.2, ⟨hk.1.2, hk.1.1.2⟩⟩⟩)))⟩; have n2_ : Aside0 (Kd.Q (Kd.int .i64) 3 w36 w.heap.size (fun k_ => some k_ ≠ (v564 : Value).ownBlock ∧ some k_ ≠ (.slice Ao34 t589.length co34 : Value).ownBlock) (.slice Ao28 t574.length co28) t574) := ⟨(by rw [hw]; exact (by refine zrQ ?_; exact Kd.Q_mono (Kd.Q_far (p := ⟨gb581, 2, none⟩) (Kd.Q_far (p := ⟨gb581, 1, none⟩) (Kd.Q_far (p := ⟨gb581, 0, none⟩) (Kd.Q_types HO576.1 BK581.1 (by decide)) (fun _ hk => hk.2) (.slice Ao34 t589.length co34)) (fun _ hk => hk.2) (.int .i64 t592)) (fun _ hk => hk.2) (.int .i64 t593)) (fun _ hk => ⟨hk.1.1.2, hk.1.2⟩)))⟩; have n3_ : Aside0 (Kd.R (Kd.int .i64) 3 w36 w.heap.size (fun k_ => some k_ ≠ (v564 : Value).ownBlock ∧ some k_ ≠ (.slice Ao28 t574.length co28 : Value).ownBlock) (.slice Ao34 t589.length co34) t589) := ⟨(by rw [hw]; exact (by refine zrR ?_; exact Kd.R_mono (Kd.R_far (p := ⟨gb581, 2, none⟩) (Kd.R_far (p := ⟨gb581, 1, none⟩) (Kd.R_far (p := ⟨gb581, 0, none⟩) (Kd.R_types HO591.1 BK581.1 (by decide)) (fun _ hk => hk.2) (.slice Ao34 t589.length co34)) (fun _ hk => hk.2) (.int .i64 t592)) (fun _ hk => hk.2) (.int .i64 t593)) (fun _ hk => ⟨hk.1.1.2, hk.1.2⟩)))⟩; have n4_ : Aside0 (w36.heap[gb581]? = some (.cells #[.slice Ao34 t589.length co34, .int .i64 t592, .int .i64 t593] 49 (0, 0))) := ⟨(by rw [hw]; exact (by exact zp3 (zK BK581.1)))⟩; have n5_ : Aside0 (IsS90 w0 w36 g s0_0 t587 t588) := ⟨(by rw [hw]; exact zB58)⟩; have n6_ : Aside0 (KeepBut w w36 g none) := ⟨(by rw [hw]; exact zB37)⟩; have n7_ : Aside0 (Below w0.heap.size w0 w36) := ⟨(by rw [hw]; exact zB36)⟩; clear hw; clear HO_7; clear HO_8; try clear HO576; clear HO591; try clear BK581; clear HI0; clear HK; clear HB; have HO_7 := n0_; have HO_8 := n1_; have HO576 := n2_; have HO591 := n3_; have BK581 := n4_; have HI0 := n5_; have HK := n6_; have HB := n7_; clear n0_ n1_ n2_ n3_ n4_ n5_ n6_ n7_; have hcz37 := zc_3 (w := w36) BK581.1) | ((with_reducible refine gate_builtin (b := .append) (xs := #[.tmp 31, .tmp 33]) rfl ?_); at_builtin; refine Kd.S_append k49 w.heap.size rfl (.tmp 31) (.tmp 33) 51 49 (.agg #[(.slice none 0 0), (.int .i64 0), (.int .i64 0)]) 40 rfl Try.underlying51 info49 rfl (by decide) (by omega) u8 x8_1 (⟨t589, t592, t593⟩ : S49) [.slice Ao34 t589.length co34, .int .i64 t592, .int .i64 t593] (fun k_ => some k_ ≠ (v564 : Value).ownBlock ∧ some k_ ≠ (.slice Ao28 t574.length co28 : Value).ownBlock ∧ k_ ≠ gb581) (fun k_ => some k_ = (.slice Ao34 t589.length co34 : Value).ownBlock) rfl rfl ?aP (fun k_ hk_ => ((Kd.R_mono (ok' := fun k_ => ((fun k_ => some k_ ≠ (v564 : Value).ownBlock ∧ some k_ ≠ (.slice Ao28 t574.length co28 : Value).ownBlock ∧ k_ ≠ gb581)) k_ ∧ some k_ ≠ (u8 : Value).ownBlock) (Kd.R_types (Kd.R_apart' (HO591.1) (Kd.S_typed HO_8.1) (by decide)) BK581.1 (by decide)) (fun k_ hk => ⟨⟨hk.1.1.1, ⟨hk.1.1.2, hk.2⟩⟩, hk.1.2⟩))).1 k_ hk_.symm) ?aF ?aO (Below.refl _ _) ?aS ?aL ?_; (case aP => exact k49_mkM _ _ _ (⟨t589, t592, t593⟩ : S49) (Kd.R_mono (Kd.R_tight rfl (Kd.R_mono (ok' := fun k_ => ((fun k_ => some k_ ≠ (v564 : Value).ownBlock ∧ some k_ ≠ (.slice Ao28 t574.length co28 : Value).ownBlock ∧ k_ ≠ gb581)) k_ ∧ some k_ ≠ (u8 : Value).ownBlock) (Kd.R_types (Kd.R_apart' (HO591.1) (Kd.S_typed HO_8.1) (by decide)) BK581.1 (by decide)) (fun k_ hk => ⟨⟨hk.1.1.1, ⟨hk.1.1.2, hk.2⟩⟩, hk.1.2⟩))) (fun _ h_ => h_))); (case aF => exact (fun k_ hk => ⟨Kd.fresh' (Kd.R_lt (zR HO_7.1)) k_ hk, Kd.fresh' (Kd.Q_lt (zQ HO576.1)) k_ hk, Kd.freshB (g := gb581) (o := .cells #[.slice Ao34 t589.length co34, .int .i64 t592, .int .i64 t593] 49 (0, 0)) (zK BK581.1) k_ hk⟩)); (case aO => exact (by refine zrS ?_; exact Kd.S_mono HO_8.1 (fun k_ hk => ⟨⟨hk.1, ⟨hk.2.1, hk.2.2.2⟩⟩, fun e_ => hk.2.2.1 e_⟩))); (case aS => exact (keep_size (w := w) (g := g) (row := none) zB37)); (case aL => have := LMc24.out; omega); intro v595 w38 ho hb hg hat; rw [← Ny594.1] at ho; replace HO_7 := zM (Kd.R_over' (zR HO_7.1) (Kd.S_typed (zS HO_8.1)) (by decide) hg); replace HB := zM (below_weaken zB36 HL.1 hb); replace HI0 := zM (IsS90.grown (show IsS90 w0 _ g s0_0 t587 t588 from zB58) hg (IsS90.own_neS HI0.1 HO_8.1 (by decide))); replace HK := zM (KeepBut.trans zB37 (KeepBut.of_grown hg g) (Kd.S_base2 HO_8.1)); have HO596 := zM ho; clear HO_8 HO591; clear ho hb hg hat))
   go_roundg k1
   case measure => have := HK1.1; omega
   case rel => exact ⟨(y594), (wrap64 (x9_1 + 1)), (t587), (t588), zJJ, H', ⟨by have := HK1.1; omega⟩, ⟨by refine zrR ?_; exact Kd.R_mono HO_7.1 (fun _ hk => trivial)⟩, ⟨by refine zrS ?_; exact Kd.S_mono HO596.1 (fun _ hk => hk.1)⟩, ⟨zB58⟩, ⟨zB37⟩, ⟨zB36⟩⟩

/-! ### spec_l19DrawEvent: function 60 -/
def spec_l19DrawEvent.f (s0_0 : List Int) (s0_1 : Int) (s0_2 : Int) : Option (Int × Int × Int × Int × Int × Int × Int) := (spec_l1Below.f s0_0 s0_1 s0_2 3).bind fun bt610 => ((spec_l1Below.f s0_0 bt610.2.1 bt610.2.2 6).bind fun bt613 => ((spec_l1Below.f s0_0 bt613.2.1 bt613.2.2 4).bind fun bt617 => (if bt617.1 = 0 then ((spec_l1Below.f s0_0 bt617.2.1 bt617.2.2 6).bind fun bt620 => ((spec_l1Below.f s0_0 bt620.2.1 bt620.2.2 4).bind fun bt623 => (some (bt610.1, bt613.1, bt620.1, bt623.1, (-1), bt623.2.1, bt623.2.2)))) else (if bt617.1 = 1 then ((spec_l1Below.f s0_0 bt617.2.1 bt617.2.2 6).bind fun bt626 => ((spec_l1Below.f s0_0 bt626.2.1 bt626.2.2 4).bind fun bt629 => (some (bt610.1, bt613.1, bt626.1, (-1), bt629.1, bt629.2.1, bt629.2.2)))) else (if bt617.1 = 2 then ((spec_l1Below.f s0_0 bt617.2.1 bt617.2.2 6).bind fun bt632 => ((spec_l1Below.f s0_0 bt632.2.1 bt632.2.2 4).bind fun bt635 => ((spec_l1Below.f s0_0 bt635.2.1 bt635.2.2 4).bind fun bt638 => (some (bt610.1, bt613.1, bt632.1, bt635.1, bt638.1, bt638.2.1, bt638.2.2))))) else (some (bt610.1, bt613.1, (-1), (-1), (-1), bt617.2.1, bt617.2.2)))))))
theorem spec_l19DrawEvent.calls (g : Nat) (s0_0 : List Int) (s0_1 : Int) (s0_2 : Int) (r1 : Int) (r2 : Int) (r3 : Int) (r4 : Int) (r5 : Int) (r6 : Int) (r7 : Int) (w0 w : World) (hI : IsS90 w0 w g s0_0 s0_1 s0_2) (hB : Below w0.heap.size w0 w) (h : spec_l19DrawEvent.f s0_0 s0_1 s0_2 = some (r1, r2, r3, r4, r5, r6, r7)) :
  Calls Try.prog 60 #[.pointer (some ⟨g, 0, none⟩)] w fun e w' => e = .returned (.agg #[.int .i64 r1, .int .i64 r2, .int .i64 r3, .int .i64 r4, .int .i64 r5]) ∧ IsS90 w0 w' g s0_0 r6 r7 ∧ Below w0.heap.size w0 w' ∧ KeepBut w w' g none := by
 have hu31 := Try.underlying31
 have HI0 := zM hI
 have HK := zM (KeepBut.refl w g none)
 clear hI
 have HW0 := zM hB.size
 have HB := zM hB
 clear hB
 unfold spec_l19DrawEvent.f at h
 have H := h
 clear h
 replace H := zO H
 obtain ⟨⟨t610, t611, t612⟩, A2, H⟩ := H
 try dsimp only at H
 replace H := zO H
 obtain ⟨⟨t613, t614, t615⟩, A3, H⟩ := H
 try dsimp only at H
 replace H := zO H
 obtain ⟨⟨t617, t618, t619⟩, A4, H⟩ := H
 try dsimp only at H
 by_cases c5 : t617 = 0
 ·rw [if_pos c5] at H
  have c5b0 : (t617 == 0) = true := beq_iff_eq.mpr c5
  clear c5
  replace H := zO H
  obtain ⟨⟨t620, t621, t622⟩, A6, H⟩ := H
  try dsimp only at H
  replace H := zO H
  obtain ⟨⟨t623, t624, t625⟩, A7, H⟩ := H
  try dsimp only at H
  simp only [Option.some.injEq, Prod.mk.injEq] at H
  obtain ⟨rfl, rfl, rfl, rfl, rfl, rfl, rfl⟩ := H
  go_enter Try.func60, Try.ntmps60
  go_wp2_with (first | ((with_reducible refine zBx 2 31 #[.int .i64 0, .int .i64 0, .int .i64 0, .int .i64 0, .int .i64 0] ?_); intro gb609 hg w8 hbox hb; replace HB := zM (below_step zB36 hb); have BK609 := zM hbox; have GW609 := zM ((by rw [hg]; exact (keep_size (w := w) (g := g) (row := none) zB37) : w.heap.size ≤ gb609)); have GE609 := zM ((Nat.le_trans HW0.1 (by rw [hg]; exact (keep_size (w := w) (g := g) (row := none) zB37) : w.heap.size ≤ gb609) : w0.heap.size ≤ gb609)); replace HK := zM (KeepBut.trans zB37 (KeepBut.of_below hb g none) (.inl rfl)); have NB0_609 := zM ((by rw [hg]; exact Nat.ne_of_lt (IsS90.lt (show IsS90 w0 _ g s0_0 s0_1 s0_2 from zB35)) : g ≠ gb609)); have NB609_0 := zM ((by rw [hg]; exact Nat.ne_of_gt (IsS90.lt (show IsS90 w0 _ g s0_0 s0_1 s0_2 from zB35)) : gb609 ≠ g)); replace HI0 := zM (IsS90.below zB35 hb); clear hb hbox hg) | ((with_reducible refine zG Try.func42 5 #[.pointer (some ⟨g, 0, none⟩), .int .i64 3] ?_); (with_reducible refine (spec_l1Below.calls g s0_0 s0_1 s0_2 3 t610 t611 t612 w0 _ ?side1 ?side2 A2.1).mono ?_); (case side1 => exact zB61); (case side2 => exact zB36); rintro e w9 ⟨rfl, hi, hb, hk⟩; refine ⟨_, rfl, ?_⟩; replace BK609 := zM (zh hk BK609.1 NB609_0.1); replace HK := zM (KeepBut.trans zB37 hk (.inl rfl)); replace HB := zM hb; replace HI0 := zM hi; clear hb hk hi) | ((with_reducible refine zG Try.func42 7 #[.pointer (some ⟨g, 0, none⟩), .int .i64 6] ?_); (with_reducible refine (spec_l1Below.calls g s0_0 t611 t612 6 t613 t614 t615 w0 _ ?side1 ?side2 A3.1).mono ?_); (case side1 => exact zB61); (case side2 => exact zB36); rintro e w10 ⟨rfl, hi, hb, hk⟩; refine ⟨_, rfl, ?_⟩; replace BK609 := zM (zh hk BK609.1 NB609_0.1); replace HK := zM (KeepBut.trans zB37 hk (.inl rfl)); replace HB := zM hb; replace HI0 := zM hi; clear hb hk hi) | ((with_reducible refine zBx 3 31 #[.int .i64 0, .int .i64 0, .int .i64 0, .int .i64 0, .int .i64 0] ?_); intro gb616 hg w11 hbox hb; replace HB := zM (below_step zB36 hb); have BK616 := zM hbox; have GW616 := zM ((by rw [hg]; exact (keep_size (w := w) (g := g) (row := none) zB37) : w.heap.size ≤ gb616)); have GE616 := zM ((Nat.le_trans HW0.1 (by rw [hg]; exact (keep_size (w := w) (g := g) (row := none) zB37) : w.heap.size ≤ gb616) : w0.heap.size ≤ gb616)); replace HK := zM (KeepBut.trans zB37 (KeepBut.of_below hb g none) (.inl rfl)); have NB609_616 := zM ((zn BK609.1 hg : gb609 ≠ gb616)); replace BK609 := zM (zb BK609.1 hb); have NB0_616 := zM ((by rw [hg]; exact Nat.ne_of_lt (IsS90.lt (show IsS90 w0 _ g s0_0 t614 t615 from zB61)) : g ≠ gb616)); have NB616_0 := zM ((by rw [hg]; exact Nat.ne_of_gt (IsS90.lt (show IsS90 w0 _ g s0_0 t614 t615 from zB61)) : gb616 ≠ g)); replace HI0 := zM (IsS90.below zB61 hb); clear hb hbox hg; have hnc12 := NB609_616.1; have hnb13 := NB616_0.1; have hnc13 := NB0_616.1; have hcz14 := zc_5 (w := w11) BK616.1) | ((with_reducible refine zG Try.func42 10 #[.pointer (some ⟨g, 0, none⟩), .int .i64 4] ?_); (with_reducible refine (spec_l1Below.calls g s0_0 t614 t615 4 t617 t618 t619 w0 _ ?side1 ?side2 A4.1).mono ?_); (case side1 => exact zB64); (case side2 => exact zB36); rintro e w15 ⟨rfl, hi, hb, hk⟩; refine ⟨_, rfl, ?_⟩; replace BK609 := zM (KeepBut.blk hk (g' := gb609) (o := .cells #[.int .i64 0, .int .i64 0, .int .i64 0, .int .i64 0, .int .i64 0] 31 (0, 0)) (by refine zP ?_; refine blk_far ?_ NB609_616.1 _; refine zP ?_; refine blk_far ?_ NB609_616.1 _; refine zP ?_; refine blk_far ?_ NB609_616.1 _; refine zP ?_; refine blk_far ?_ NB609_616.1 _; refine zP ?_; refine blk_far ?_ NB609_616.1 _; refine zP ?_; exact BK609.1) NB609_0.1 (by simp)); replace BK616 := zM (KeepBut.blk hk (g' := gb616) (o := .cells #[.int .i64 t610, .int .i64 t613, .int .i64 (-1), .int .i64 (-1), .int .i64 (-1)] 31 (0, 0)) (by exact zp5 (zK BK616.1)) NB616_0.1 (by simp)); replace HK := zM (KeepBut.trans zB37 hk (.inl rfl)); replace HB := zM hb; replace HI0 := zM hi; clear hb hk hi) | ((with_reducible refine zG Try.func42 14 #[.pointer (some ⟨g, 0, none⟩), .int .i64 6] ?_); (with_reducible refine (spec_l1Below.calls g s0_0 t618 t619 6 t620 t621 t622 w0 _ ?side1 ?side2 A6.1).mono ?_); (case side1 => exact zB64); (case side2 => exact zB36); rintro e w16 ⟨rfl, hi, hb, hk⟩; refine ⟨_, rfl, ?_⟩; replace BK609 := zM (zh hk BK609.1 NB609_0.1); replace BK616 := zM (zh hk BK616.1 NB616_0.1); replace HK := zM (KeepBut.trans zB37 hk (.inl rfl)); replace HB := zM hb; replace HI0 := zM hi; clear hb hk hi; have hcz17 := zc_5 (w := w16) BK616.1) | ((with_reducible refine zG Try.func42 17 #[.pointer (some ⟨g, 0, none⟩), .int .i64 4] ?_); (with_reducible refine (spec_l1Below.calls g s0_0 t621 t622 4 t623 t624 t625 w0 _ ?side1 ?side2 A7.1).mono ?_); (case side1 => exact zB64); (case side2 => exact zB36); rintro e w18 ⟨rfl, hi, hb, hk⟩; refine ⟨_, rfl, ?_⟩; replace BK609 := zM (KeepBut.blk hk (g' := gb609) (o := .cells #[.int .i64 0, .int .i64 0, .int .i64 0, .int .i64 0, .int .i64 0] 31 (0, 0)) (by refine zP ?_; refine blk_far ?_ NB609_616.1 _; refine zP ?_; exact BK609.1) NB609_0.1 (by simp)); replace BK616 := zM (KeepBut.blk hk (g' := gb616) (o := .cells #[.int .i64 t610, .int .i64 t613, .int .i64 t620, .int .i64 (-1), .int .i64 (-1)] 31 (0, 0)) (by refine zP ?_; refine blk_put (cs := #[.int .i64 t610, .int .i64 t613, .int .i64 (-1), .int .i64 (-1), .int .i64 (-1)]) ?_ 2 _ rfl; refine zP ?_; exact BK616.1) NB616_0.1 (by simp)); replace HK := zM (KeepBut.trans zB37 hk (.inl rfl)); replace HB := zM hb; replace HI0 := zM hi; clear hb hk hi; have hcz19 := zc_5 (w := w18) BK616.1; have hnb20 := NB609_0.1; have hnc20 := NB0_609.1; have hcz21 := zc_5 (w := w18) BK609.1))
  refine bodyPost_ret (results_cell_row rfl _ _ gb609 31 #[.int .i64 t610, .int .i64 t613, .int .i64 t620, .int .i64 t623, .int .i64 (-1)] (0, 0) _ rfl (by refine zP ?_; refine blk_put (cs := #[.int .i64 t610, .int .i64 t613, .int .i64 t620, .int .i64 t623, .int .i64 0]) ?_ 4 _ rfl; refine zP ?_; refine blk_put (cs := #[.int .i64 t610, .int .i64 t613, .int .i64 t620, .int .i64 0, .int .i64 0]) ?_ 3 _ rfl; refine zP ?_; refine blk_put (cs := #[.int .i64 t610, .int .i64 t613, .int .i64 0, .int .i64 0, .int .i64 0]) ?_ 2 _ rfl; refine zP ?_; refine blk_put (cs := #[.int .i64 t610, .int .i64 0, .int .i64 0, .int .i64 0, .int .i64 0]) ?_ 1 _ rfl; refine zP ?_; refine blk_put (cs := #[.int .i64 0, .int .i64 0, .int .i64 0, .int .i64 0, .int .i64 0]) ?_ 0 _ rfl; refine zP ?_; refine blk_far ?_ NB609_616.1 _; refine zP ?_; exact BK609.1) Try.underlying31 rfl (by kernel_rfl)) rfl ?_
  exact ⟨zE, zB64, zB36, zB37⟩
 rw [if_neg c5] at H
 have c5b0 : (t617 == 0) = false := beq_eq_false_iff_ne.mpr c5
 by_cases c22 : t617 = 1
 ·rw [if_pos c22] at H
  have c22b0 : (t617 == 1) = true := beq_iff_eq.mpr c22
  clear c22
  replace H := zO H
  obtain ⟨⟨t626, t627, t628⟩, A23, H⟩ := H
  try dsimp only at H
  replace H := zO H
  obtain ⟨⟨t629, t630, t631⟩, A24, H⟩ := H
  try dsimp only at H
  simp only [Option.some.injEq, Prod.mk.injEq] at H
  obtain ⟨rfl, rfl, rfl, rfl, rfl, rfl, rfl⟩ := H
  go_enter Try.func60, Try.ntmps60
  go_wp2_with (first | ((with_reducible refine zBx 2 31 #[.int .i64 0, .int .i64 0, .int .i64 0, .int .i64 0, .int .i64 0] ?_); intro gb609 hg w25 hbox hb; replace HB := zM (below_step zB36 hb); have BK609 := zM hbox; have GW609 := zM ((by rw [hg]; exact (keep_size (w := w) (g := g) (row := none) zB37) : w.heap.size ≤ gb609)); have GE609 := zM ((Nat.le_trans HW0.1 (by rw [hg]; exact (keep_size (w := w) (g := g) (row := none) zB37) : w.heap.size ≤ gb609) : w0.heap.size ≤ gb609)); replace HK := zM (KeepBut.trans zB37 (KeepBut.of_below hb g none) (.inl rfl)); have NB0_609 := zM ((by rw [hg]; exact Nat.ne_of_lt (IsS90.lt (show IsS90 w0 _ g s0_0 s0_1 s0_2 from zB35)) : g ≠ gb609)); have NB609_0 := zM ((by rw [hg]; exact Nat.ne_of_gt (IsS90.lt (show IsS90 w0 _ g s0_0 s0_1 s0_2 from zB35)) : gb609 ≠ g)); replace HI0 := zM (IsS90.below zB35 hb); clear hb hbox hg) | ((with_reducible refine zG Try.func42 5 #[.pointer (some ⟨g, 0, none⟩), .int .i64 3] ?_); (with_reducible refine (spec_l1Below.calls g s0_0 s0_1 s0_2 3 t610 t611 t612 w0 _ ?side1 ?side2 A2.1).mono ?_); (case side1 => exact zB61); (case side2 => exact zB36); rintro e w26 ⟨rfl, hi, hb, hk⟩; refine ⟨_, rfl, ?_⟩; replace BK609 := zM (zh hk BK609.1 NB609_0.1); replace HK := zM (KeepBut.trans zB37 hk (.inl rfl)); replace HB := zM hb; replace HI0 := zM hi; clear hb hk hi) | ((with_reducible refine zG Try.func42 7 #[.pointer (some ⟨g, 0, none⟩), .int .i64 6] ?_); (with_reducible refine (spec_l1Below.calls g s0_0 t611 t612 6 t613 t614 t615 w0 _ ?side1 ?side2 A3.1).mono ?_); (case side1 => exact zB61); (case side2 => exact zB36); rintro e w27 ⟨rfl, hi, hb, hk⟩; refine ⟨_, rfl, ?_⟩; replace BK609 := zM (zh hk BK609.1 NB609_0.1); replace HK := zM (KeepBut.trans zB37 hk (.inl rfl)); replace HB := zM hb; replace HI0 := zM hi; clear hb hk hi) | ((with_reducible refine zBx 3 31 #[.int .i64 0, .int .i64 0, .int .i64 0, .int .i64 0, .int .i64 0] ?_); intro gb616 hg w28 hbox hb; replace HB := zM (below_step zB36 hb); have BK616 := zM hbox; have GW616 := zM ((by rw [hg]; exact (keep_size (w := w) (g := g) (row := none) zB37) : w.heap.size ≤ gb616)); have GE616 := zM ((Nat.le_trans HW0.1 (by rw [hg]; exact (keep_size (w := w) (g := g) (row := none) zB37) : w.heap.size ≤ gb616) : w0.heap.size ≤ gb616)); replace HK := zM (KeepBut.trans zB37 (KeepBut.of_below hb g none) (.inl rfl)); have NB609_616 := zM ((zn BK609.1 hg : gb609 ≠ gb616)); replace BK609 := zM (zb BK609.1 hb); have NB0_616 := zM ((by rw [hg]; exact Nat.ne_of_lt (IsS90.lt (show IsS90 w0 _ g s0_0 t614 t615 from zB61)) : g ≠ gb616)); have NB616_0 := zM ((by rw [hg]; exact Nat.ne_of_gt (IsS90.lt (show IsS90 w0 _ g s0_0 t614 t615 from zB61)) : gb616 ≠ g)); replace HI0 := zM (IsS90.below zB61 hb); clear hb hbox hg; have hnc29 := NB609_616.1; have hnb30 := NB616_0.1; have hnc30 := NB0_616.1; have hcz31 := zc_5 (w := w28) BK616.1) | ((with_reducible refine zG Try.func42 10 #[.pointer (some ⟨g, 0, none⟩), .int .i64 4] ?_); (with_reducible refine (spec_l1Below.calls g s0_0 t614 t615 4 t617 t618 t619 w0 _ ?side1 ?side2 A4.1).mono ?_); (case side1 => exact zB64); (case side2 => exact zB36); rintro e w32 ⟨rfl, hi, hb, hk⟩; refine ⟨_, rfl, ?_⟩; replace BK609 := zM (KeepBut.blk hk (g' := gb609) (o := .cells #[.int .i64 0, .int .i64 0, .int .i64 0, .int .i64 0, .int .i64 0] 31 (0, 0)) (by refine zP ?_; refine blk_far ?_ NB609_616.1 _; refine zP ?_; refine blk_far ?_ NB609_616.1 _; refine zP ?_; refine blk_far ?_ NB609_616.1 _; refine zP ?_; refine blk_far ?_ NB609_616.1 _; refine zP ?_; refine blk_far ?_ NB609_616.1 _; refine zP ?_; exact BK609.1) NB609_0.1 (by simp)); replace BK616 := zM (KeepBut.blk hk (g' := gb616) (o := .cells #[.int .i64 t610, .int .i64 t613, .int .i64 (-1), .int .i64 (-1), .int .i64 (-1)] 31 (0, 0)) (by exact zp5 (zK BK616.1)) NB616_0.1 (by simp)); replace HK := zM (KeepBut.trans zB37 hk (.inl rfl)); replace HB := zM hb; replace HI0 := zM hi; clear hb hk hi) | ((with_reducible refine zG Try.func42 22 #[.pointer (some ⟨g, 0, none⟩), .int .i64 6] ?_); (with_reducible refine (spec_l1Below.calls g s0_0 t618 t619 6 t626 t627 t628 w0 _ ?side1 ?side2 A23.1).mono ?_); (case side1 => exact zB64); (case side2 => exact zB36); rintro e w33 ⟨rfl, hi, hb, hk⟩; refine ⟨_, rfl, ?_⟩; replace BK609 := zM (zh hk BK609.1 NB609_0.1); replace BK616 := zM (zh hk BK616.1 NB616_0.1); replace HK := zM (KeepBut.trans zB37 hk (.inl rfl)); replace HB := zM hb; replace HI0 := zM hi; clear hb hk hi; have hcz34 := zc_5 (w := w33) BK616.1) | ((with_reducible refine zG Try.func42 25 #[.pointer (some ⟨g, 0, none⟩), .int .i64 4] ?_); (with_reducible refine (spec_l1Below.calls g s0_0 t627 t628 4 t629 t630 t631 w0 _ ?side1 ?side2 A24.1).mono ?_); (case side1 => exact zB64); (case side2 => exact zB36); rintro e w35 ⟨rfl, hi, hb, hk⟩; refine ⟨_, rfl, ?_⟩; replace BK609 := zM (KeepBut.blk hk (g' := gb609) (o := .cells #[.int .i64 0, .int .i64 0, .int .i64 0, .int .i64 0, .int .i64 0] 31 (0, 0)) (by refine zP ?_; refine blk_far ?_ NB609_616.1 _; refine zP ?_; exact BK609.1) NB609_0.1 (by simp)); replace BK616 := zM (KeepBut.blk hk (g' := gb616) (o := .cells #[.int .i64 t610, .int .i64 t613, .int .i64 t626, .int .i64 (-1), .int .i64 (-1)] 31 (0, 0)) (by refine zP ?_; refine blk_put (cs := #[.int .i64 t610, .int .i64 t613, .int .i64 (-1), .int .i64 (-1), .int .i64 (-1)]) ?_ 2 _ rfl; refine zP ?_; exact BK616.1) NB616_0.1 (by simp)); replace HK := zM (KeepBut.trans zB37 hk (.inl rfl)); replace HB := zM hb; replace HI0 := zM hi; clear hb hk hi; have hcz36 := zc_5 (w := w35) BK616.1; have hnb37 := NB609_0.1; have hnc37 := NB0_609.1; have hcz38 := zc_5 (w := w35) BK609.1))
  refine bodyPost_ret (results_cell_row rfl _ _ gb609 31 #[.int .i64 t610, .int .i64 t613, .int .i64 t626, .int .i64 (-1), .int .i64 t629] (0, 0) _ rfl (by refine zP ?_; refine blk_put (cs := #[.int .i64 t610, .int .i64 t613, .int .i64 t626, .int .i64 (-1), .int .i64 0]) ?_ 4 _ rfl; refine zP ?_; refine blk_put (cs := #[.int .i64 t610, .int .i64 t613, .int .i64 t626, .int .i64 0, .int .i64 0]) ?_ 3 _ rfl; refine zP ?_; refine blk_put (cs := #[.int .i64 t610, .int .i64 t613, .int .i64 0, .int .i64 0, .int .i64 0]) ?_ 2 _ rfl; refine zP ?_; refine blk_put (cs := #[.int .i64 t610, .int .i64 0, .int .i64 0, .int .i64 0, .int .i64 0]) ?_ 1 _ rfl; refine zP ?_; refine blk_put (cs := #[.int .i64 0, .int .i64 0, .int .i64 0, .int .i64 0, .int .i64 0]) ?_ 0 _ rfl; refine zP ?_; refine blk_far ?_ NB609_616.1 _; refine zP ?_; exact BK609.1) Try.underlying31 rfl (by kernel_rfl)) rfl ?_
  exact ⟨zE, zB64, zB36, zB37⟩
 rw [if_neg c22] at H
 have c22b0 : (t617 == 1) = false := beq_eq_false_iff_ne.mpr c22
 by_cases c39 : t617 = 2
 rotate_left
 ·rw [if_neg c39] at H
  have c39b0 : (t617 == 2) = false := beq_eq_false_iff_ne.mpr c39
  simp only [Option.some.injEq, Prod.mk.injEq] at H
  obtain ⟨rfl, rfl, rfl, rfl, rfl, rfl, rfl⟩ := H
  go_enter Try.func60, Try.ntmps60
  go_wp2_with (first | ((with_reducible refine zBx 2 31 #[.int .i64 0, .int .i64 0, .int .i64 0, .int .i64 0, .int .i64 0] ?_); intro gb609 hg w59 hbox hb; replace HB := zM (below_step zB36 hb); have BK609 := zM hbox; have GW609 := zM ((by rw [hg]; exact (keep_size (w := w) (g := g) (row := none) zB37) : w.heap.size ≤ gb609)); have GE609 := zM ((Nat.le_trans HW0.1 (by rw [hg]; exact (keep_size (w := w) (g := g) (row := none) zB37) : w.heap.size ≤ gb609) : w0.heap.size ≤ gb609)); replace HK := zM (KeepBut.trans zB37 (KeepBut.of_below hb g none) (.inl rfl)); have NB0_609 := zM ((by rw [hg]; exact Nat.ne_of_lt (IsS90.lt (show IsS90 w0 _ g s0_0 s0_1 s0_2 from zB35)) : g ≠ gb609)); have NB609_0 := zM ((by rw [hg]; exact Nat.ne_of_gt (IsS90.lt (show IsS90 w0 _ g s0_0 s0_1 s0_2 from zB35)) : gb609 ≠ g)); replace HI0 := zM (IsS90.below zB35 hb); clear hb hbox hg) | ((with_reducible refine zG Try.func42 5 #[.pointer (some ⟨g, 0, none⟩), .int .i64 3] ?_); (with_reducible refine (spec_l1Below.calls g s0_0 s0_1 s0_2 3 t610 t611 t612 w0 _ ?side1 ?side2 A2.1).mono ?_); (case side1 => exact zB61); (case side2 => exact zB36); rintro e w60 ⟨rfl, hi, hb, hk⟩; refine ⟨_, rfl, ?_⟩; replace BK609 := zM (zh hk BK609.1 NB609_0.1); replace HK := zM (KeepBut.trans zB37 hk (.inl rfl)); replace HB := zM hb; replace HI0 := zM hi; clear hb hk hi) | ((with_reducible refine zG Try.func42 7 #[.pointer (some ⟨g, 0, none⟩), .int .i64 6] ?_); (with_reducible refine (spec_l1Below.calls g s0_0 t611 t612 6 t613 t614 t615 w0 _ ?side1 ?side2 A3.1).mono ?_); (case side1 => exact zB61); (case side2 => exact zB36); rintro e w61 ⟨rfl, hi, hb, hk⟩; refine ⟨_, rfl, ?_⟩; replace BK609 := zM (zh hk BK609.1 NB609_0.1); replace HK := zM (KeepBut.trans zB37 hk (.inl rfl)); replace HB := zM hb; replace HI0 := zM hi; clear hb hk hi) | ((with_reducible refine zBx 3 31 #[.int .i64 0, .int .i64 0, .int .i64 0, .int .i64 0, .int .i64 0] ?_); intro gb616 hg w62 hbox hb; replace HB := zM (below_step zB36 hb); have BK616 := zM hbox; have GW616 := zM ((by rw [hg]; exact (keep_size (w := w) (g := g) (row := none) zB37) : w.heap.size ≤ gb616)); have GE616 := zM ((Nat.le_trans HW0.1 (by rw [hg]; exact (keep_size (w := w) (g := g) (row := none) zB37) : w.heap.size ≤ gb616) : w0.heap.size ≤ gb616)); replace HK := zM (KeepBut.trans zB37 (KeepBut.of_below hb g none) (.inl rfl)); have NB609_616 := zM ((zn BK609.1 hg : gb609 ≠ gb616)); replace BK609 := zM (zb BK609.1 hb); have NB0_616 := zM ((by rw [hg]; exact Nat.ne_of_lt (IsS90.lt (show IsS90 w0 _ g s0_0 t614 t615 from zB61)) : g ≠ gb616)); have NB616_0 := zM ((by rw [hg]; exact Nat.ne_of_gt (IsS90.lt (show IsS90 w0 _ g s0_0 t614 t615 from zB61)) : gb616 ≠ g)); replace HI0 := zM (IsS90.below zB61 hb); clear hb hbox hg; have hcz65 := zc_5 (w := w62) BK616.1) | ((with_reducible refine zG Try.func42 10 #[.pointer (some ⟨g, 0, none⟩), .int .i64 4] ?_); (with_reducible refine (spec_l1Below.calls g s0_0 t614 t615 4 t617 t618 t619 w0 _ ?side1 ?side2 A4.1).mono ?_); (case side1 => exact zB64); (case side2 => exact zB36); rintro e w66 ⟨rfl, hi, hb, hk⟩; refine ⟨_, rfl, ?_⟩; replace BK609 := zM (KeepBut.blk hk (g' := gb609) (o := .cells #[.int .i64 0, .int .i64 0, .int .i64 0, .int .i64 0, .int .i64 0] 31 (0, 0)) (by refine zP ?_; refine blk_far ?_ NB609_616.1 _; refine zP ?_; refine blk_far ?_ NB609_616.1 _; refine zP ?_; refine blk_far ?_ NB609_616.1 _; refine zP ?_; refine blk_far ?_ NB609_616.1 _; refine zP ?_; refine blk_far ?_ NB609_616.1 _; refine zP ?_; exact BK609.1) NB609_0.1 (by simp)); replace BK616 := zM (KeepBut.blk hk (g' := gb616) (o := .cells #[.int .i64 t610, .int .i64 t613, .int .i64 (-1), .int .i64 (-1), .int .i64 (-1)] 31 (0, 0)) (by exact zp5 (zK BK616.1)) NB616_0.1 (by simp)); replace HK := zM (KeepBut.trans zB37 hk (.inl rfl)); replace HB := zM hb; replace HI0 := zM hi; clear hb hk hi; have hcz67 := zc_5 (w := w66) BK616.1; have hcz69 := zc_5 (w := w66) BK609.1))
  refine bodyPost_ret (results_cell_row rfl _ _ gb609 31 #[.int .i64 t610, .int .i64 t613, .int .i64 (-1), .int .i64 (-1), .int .i64 (-1)] (0, 0) _ rfl (by exact zp5 (zK BK609.1)) Try.underlying31 rfl (by kernel_rfl)) rfl ?_
  exact ⟨zE, zB64, zB36, zB37⟩
 rw [if_pos c39] at H
 have c39b0 : (t617 == 2) = true := beq_iff_eq.mpr c39
 clear c39
 replace H := zO H
 obtain ⟨⟨t632, t633, t634⟩, A40, H⟩ := H
 try dsimp only at H
 replace H := zO H
 obtain ⟨⟨t635, t636, t637⟩, A41, H⟩ := H
 try dsimp only at H
 replace H := zO H
 obtain ⟨⟨t638, t639, t640⟩, A42, H⟩ := H
 try dsimp only at H
 simp only [Option.some.injEq, Prod.mk.injEq] at H
 obtain ⟨rfl, rfl, rfl, rfl, rfl, rfl, rfl⟩ := H
 go_enter Try.func60, Try.ntmps60
 go_wp2_with (first | ((with_reducible refine zBx 2 31 #[.int .i64 0, .int .i64 0, .int .i64 0, .int .i64 0, .int .i64 0] ?_); intro gb609 hg w43 hbox hb; replace HB := zM (below_step zB36 hb); have BK609 := zM hbox; have GW609 := zM ((by rw [hg]; exact (keep_size (w := w) (g := g) (row := none) zB37) : w.heap.size ≤ gb609)); have GE609 := zM ((Nat.le_trans HW0.1 (by rw [hg]; exact (keep_size (w := w) (g := g) (row := none) zB37) : w.heap.size ≤ gb609) : w0.heap.size ≤ gb609)); replace HK := zM (KeepBut.trans zB37 (KeepBut.of_below hb g none) (.inl rfl)); have NB0_609 := zM ((by rw [hg]; exact Nat.ne_of_lt (IsS90.lt (show IsS90 w0 _ g s0_0 s0_1 s0_2 from zB35)) : g ≠ gb609)); have NB609_0 := zM ((by rw [hg]; exact Nat.ne_of_gt (IsS90.lt (show IsS90 w0 _ g s0_0 s0_1 s0_2 from zB35)) : gb609 ≠ g)); replace HI0 := zM (IsS90.below zB35 hb); clear hb hbox hg) | ((with_reducible refine zG Try.func42 5 #[.pointer (some ⟨g, 0, none⟩), .int .i64 3] ?_); (with_reducible refine (spec_l1Below.calls g s0_0 s0_1 s0_2 3 t610 t611 t612 w0 _ ?side1 ?side2 A2.1).mono ?_); (case side1 => exact zB61); (case side2 => exact zB36); rintro e w44 ⟨rfl, hi, hb, hk⟩; refine ⟨_, rfl, ?_⟩; replace BK609 := zM (zh hk BK609.1 NB609_0.1); replace HK := zM (KeepBut.trans zB37 hk (.inl rfl)); replace HB := zM hb; replace HI0 := zM hi; clear hb hk hi) | ((with_reducible refine zG Try.func42 7 #[.pointer (some ⟨g, 0, none⟩), .int .i64 6] ?_); (with_reducible refine (spec_l1Below.calls g s0_0 t611 t612 6 t613 t614 t615 w0 _ ?side1 ?side2 A3.1).mono ?_); (case side1 => exact zB61); (case side2 => exact zB36); rintro e w45 ⟨rfl, hi, hb, hk⟩; refine ⟨_, rfl, ?_⟩; replace BK609 := zM (zh hk BK609.1 NB609_0.1); replace HK := zM (KeepBut.trans zB37 hk (.inl rfl)); replace HB := zM hb; replace HI0 := zM hi; clear hb hk hi) | ((with_reducible refine zBx 3 31 #[.int .i64 0, .int .i64 0, .int .i64 0, .int .i64 0, .int .i64 0] ?_); intro gb616 hg w46 hbox hb; replace HB := zM (below_step zB36 hb); have BK616 := zM hbox; have GW616 := zM ((by rw [hg]; exact (keep_size (w := w) (g := g) (row := none) zB37) : w.heap.size ≤ gb616)); have GE616 := zM ((Nat.le_trans HW0.1 (by rw [hg]; exact (keep_size (w := w) (g := g) (row := none) zB37) : w.heap.size ≤ gb616) : w0.heap.size ≤ gb616)); replace HK := zM (KeepBut.trans zB37 (KeepBut.of_below hb g none) (.inl rfl)); have NB609_616 := zM ((zn BK609.1 hg : gb609 ≠ gb616)); replace BK609 := zM (zb BK609.1 hb); have NB0_616 := zM ((by rw [hg]; exact Nat.ne_of_lt (IsS90.lt (show IsS90 w0 _ g s0_0 t614 t615 from zB61)) : g ≠ gb616)); have NB616_0 := zM ((by rw [hg]; exact Nat.ne_of_gt (IsS90.lt (show IsS90 w0 _ g s0_0 t614 t615 from zB61)) : gb616 ≠ g)); replace HI0 := zM (IsS90.below zB61 hb); clear hb hbox hg; have hnc47 := NB609_616.1; have hnb48 := NB616_0.1; have hnc48 := NB0_616.1; have hcz49 := zc_5 (w := w46) BK616.1) | ((with_reducible refine zG Try.func42 10 #[.pointer (some ⟨g, 0, none⟩), .int .i64 4] ?_); (with_reducible refine (spec_l1Below.calls g s0_0 t614 t615 4 t617 t618 t619 w0 _ ?side1 ?side2 A4.1).mono ?_); (case side1 => exact zB64); (case side2 => exact zB36); rintro e w50 ⟨rfl, hi, hb, hk⟩; refine ⟨_, rfl, ?_⟩; replace BK609 := zM (KeepBut.blk hk (g' := gb609) (o := .cells #[.int .i64 0, .int .i64 0, .int .i64 0, .int .i64 0, .int .i64 0] 31 (0, 0)) (by refine zP ?_; refine blk_far ?_ NB609_616.1 _; refine zP ?_; refine blk_far ?_ NB609_616.1 _; refine zP ?_; refine blk_far ?_ NB609_616.1 _; refine zP ?_; refine blk_far ?_ NB609_616.1 _; refine zP ?_; refine blk_far ?_ NB609_616.1 _; refine zP ?_; exact BK609.1) NB609_0.1 (by simp)); replace BK616 := zM (KeepBut.blk hk (g' := gb616) (o := .cells #[.int .i64 t610, .int .i64 t613, .int .i64 (-1), .int .i64 (-1), .int .i64 (-1)] 31 (0, 0)) (by exact zp5 (zK BK616.1)) NB616_0.1 (by simp)); replace HK := zM (KeepBut.trans zB37 hk (.inl rfl)); replace HB := zM hb; replace HI0 := zM hi; clear hb hk hi) | ((with_reducible refine zG Try.func42 30 #[.pointer (some ⟨g, 0, none⟩), .int .i64 6] ?_); (with_reducible refine (spec_l1Below.calls g s0_0 t618 t619 6 t632 t633 t634 w0 _ ?side1 ?side2 A40.1).mono ?_); (case side1 => exact zB64); (case side2 => exact zB36); rintro e w51 ⟨rfl, hi, hb, hk⟩; refine ⟨_, rfl, ?_⟩; replace BK609 := zM (zh hk BK609.1 NB609_0.1); replace BK616 := zM (zh hk BK616.1 NB616_0.1); replace HK := zM (KeepBut.trans zB37 hk (.inl rfl)); replace HB := zM hb; replace HI0 := zM hi; clear hb hk hi; have hcz52 := zc_5 (w := w51) BK616.1) | ((with_reducible refine zG Try.func42 33 #[.pointer (some ⟨g, 0, none⟩), .int .i64 4] ?_); (with_reducible refine (spec_l1Below.calls g s0_0 t633 t634 4 t635 t636 t637 w0 _ ?side1 ?side2 A41.1).mono ?_); (case side1 => exact zB64); (case side2 => exact zB36); rintro e w53 ⟨rfl, hi, hb, hk⟩; refine ⟨_, rfl, ?_⟩; replace BK609 := zM (KeepBut.blk hk (g' := gb609) (o := .cells #[.int .i64 0, .int .i64 0, .int .i64 0, .int .i64 0, .int .i64 0] 31 (0, 0)) (by refine zP ?_; refine blk_far ?_ NB609_616.1 _; refine zP ?_; exact BK609.1) NB609_0.1 (by simp)); replace BK616 := zM (KeepBut.blk hk (g' := gb616) (o := .cells #[.int .i64 t610, .int .i64 t613, .int .i64 t632, .int .i64 (-1), .int .i64 (-1)] 31 (0, 0)) (by refine zP ?_; refine blk_put (cs := #[.int .i64 t610, .int .i64 t613, .int .i64 (-1), .int .i64 (-1), .int .i64 (-1)]) ?_ 2 _ rfl; refine zP ?_; exact BK616.1) NB616_0.1 (by simp)); replace HK := zM (KeepBut.trans zB37 hk (.inl rfl)); replace HB := zM hb; replace HI0 := zM hi; clear hb hk hi; have hcz54 := zc_5 (w := w53) BK616.1) | ((with_reducible refine zG Try.func42 36 #[.pointer (some ⟨g, 0, none⟩), .int .i64 4] ?_); (with_reducible refine (spec_l1Below.calls g s0_0 t636 t637 4 t638 t639 t640 w0 _ ?side1 ?side2 A42.1).mono ?_); (case side1 => exact zB64); (case side2 => exact zB36); rintro e w55 ⟨rfl, hi, hb, hk⟩; refine ⟨_, rfl, ?_⟩; replace BK609 := zM (KeepBut.blk hk (g' := gb609) (o := .cells #[.int .i64 0, .int .i64 0, .int .i64 0, .int .i64 0, .int .i64 0] 31 (0, 0)) (by refine zP ?_; refine blk_far ?_ NB609_616.1 _; refine zP ?_; exact BK609.1) NB609_0.1 (by simp)); replace BK616 := zM (KeepBut.blk hk (g' := gb616) (o := .cells #[.int .i64 t610, .int .i64 t613, .int .i64 t632, .int .i64 t635, .int .i64 (-1)] 31 (0, 0)) (by refine zP ?_; refine blk_put (cs := #[.int .i64 t610, .int .i64 t613, .int .i64 t632, .int .i64 (-1), .int .i64 (-1)]) ?_ 3 _ rfl; refine zP ?_; exact BK616.1) NB616_0.1 (by simp)); replace HK := zM (KeepBut.trans zB37 hk (.inl rfl)); replace HB := zM hb; replace HI0 := zM hi; clear hb hk hi; have hcz56 := zc_5 (w := w55) BK616.1; have hnb57 := NB609_0.1; have hnc57 := NB0_609.1; have hcz58 := zc_5 (w := w55) BK609.1))
 refine bodyPost_ret (results_cell_row rfl _ _ gb609 31 #[.int .i64 t610, .int .i64 t613, .int .i64 t632, .int .i64 t635, .int .i64 t638] (0, 0) _ rfl (by refine zP ?_; refine blk_put (cs := #[.int .i64 t610, .int .i64 t613, .int .i64 t632, .int .i64 t635, .int .i64 0]) ?_ 4 _ rfl; refine zP ?_; refine blk_put (cs := #[.int .i64 t610, .int .i64 t613, .int .i64 t632, .int .i64 0, .int .i64 0]) ?_ 3 _ rfl; refine zP ?_; refine blk_put (cs := #[.int .i64 t610, .int .i64 t613, .int .i64 0, .int .i64 0, .int .i64 0]) ?_ 2 _ rfl; refine zP ?_; refine blk_put (cs := #[.int .i64 t610, .int .i64 0, .int .i64 0, .int .i64 0, .int .i64 0]) ?_ 1 _ rfl; refine zP ?_; refine blk_put (cs := #[.int .i64 0, .int .i64 0, .int .i64 0, .int .i64 0, .int .i64 0]) ?_ 0 _ rfl; refine zP ?_; refine blk_far ?_ NB609_616.1 _; refine zP ?_; exact BK609.1) Try.underlying31 rfl (by kernel_rfl)) rfl ?_
 exact ⟨zE, zB64, zB36, zB37⟩

/-! ### spec_l20Draw: function 29 -/
def spec_l20Draw.l0 : Nat → List (S31) → Int → List Int → Int → Int → Option (Int × (List (S31)) × Int × Int)
 | 0, _, _, _, _, _ => none
 | k + 1, x7, x8, x1000, x1001, x1002 => (spec_l1Below.f x1000 x1001 x1002 9).bind fun bt661 => (if x8 < bt661.1 then ((spec_l19DrawEvent.f x1000 bt661.2.1 bt661.2.2).bind fun bt664 => (if x7.length < 3518437208883 then (spec_l20Draw.l0 k (x7 ++ [(⟨bt664.1, bt664.2.1, bt664.2.2.1, bt664.2.2.2.1, bt664.2.2.2.2.1⟩ : S31)]) (wrap64 (x8 + 1)) x1000 bt664.2.2.2.2.2.1 bt664.2.2.2.2.2.2) else (none))) else ((spec_l1PickInt.f x1000 bt661.2.1 bt661.2.2 (([3, 3, 3, 2, 8, 9, 0, (-1)] : List Int))).bind fun bt677 => (some (bt677.1, x7, bt677.2.1, bt677.2.2))))
def spec_l20Draw.f (k : Nat) (s0_0 : List Int) (s0_1 : Int) (s0_2 : Int) : Option (Int × (List (S31)) × Int × Int) := (spec_l1Once.f s0_0 s0_1 s0_2 2).bind fun bt641 => (if bt641.1 = true then ((spec_l18DrawRun.f k s0_0 bt641.2.1 bt641.2.2 20).bind fun bt644 => ((spec_Trace.f k bt644.1 bt644.2.1 bt644.2.2.1).bind fun t655 => (some ((bt644.2.1.length : Int), t655, bt644.2.2.2.1, bt644.2.2.2.2)))) else (spec_l20Draw.l0 k (([] : List (S31))) 0 s0_0 bt641.2.1 bt641.2.2))
theorem spec_l20Draw.mono_l : ∀ k, (∀ y0 y1 y2 y3 y4, LeO (spec_l20Draw.l0 k y0 y1 y2 y3 y4) (spec_l20Draw.l0 (k + 1) y0 y1 y2 y3 y4))
 | 0 => fun _ _ _ _ _ r h => by simp [spec_l20Draw.l0] at h
 | k + 1 => by
  have ih0 := spec_l20Draw.mono_l k
  ·intros
   unfold spec_l20Draw.l0
   have mo0 := @spec_Trace.mono
   have mo1 := @spec_l18DrawRun.mono
   exact zL
theorem spec_l20Draw.mono : ∀ a0 a1 a2 k, LeO (spec_l20Draw.f k a0 a1 a2) (spec_l20Draw.f (k + 1) a0 a1 a2) := by
 intro a0 a1 a2 k
 have ih0 := spec_l20Draw.mono_l k
 unfold spec_l20Draw.f
 have mo0 := @spec_Trace.mono
 have mo1 := @spec_l18DrawRun.mono
 exact zL
theorem spec_l20Draw.calls (k : Nat) (g : Nat) (s0_0 : List Int) (s0_1 : Int) (s0_2 : Int) (r1 : Int) (r2 : List (S31)) (r3 : Int) (r4 : Int) (w0 w : World) (hI : IsS90 w0 w g s0_0 s0_1 s0_2) (hB : Below w0.heap.size w0 w) (h : spec_l20Draw.f k s0_0 s0_1 s0_2 = some (r1, r2, r3, r4)) :
  Calls Try.prog 29 #[.pointer (some ⟨g, 0, none⟩)] w fun e w' => ∃ v1_ : Value, e = .returned (.tuple #[.int .i64 r1, v1_]) ∧ Kd.R k31 31 w' w.heap.size (fun _ => True) v1_ r2 ∧ IsS90 w0 w' g s0_0 r3 r4 ∧ Below w0.heap.size w0 w' ∧ KeepBut w w' g none := by
 have HI0 := zM hI
 have HK := zM (KeepBut.refl w g none)
 have HL := zM hB.size
 clear hI
 have HB := zM hB
 clear hB
 unfold spec_l20Draw.f at h
 have H := h
 clear h
 replace H := zO H
 obtain ⟨⟨t641, t642, t643⟩, A2, H⟩ := H
 try dsimp only at H
 by_cases c3 : t641 = true
 ·subst c3
  rw [if_pos rfl] at H
  replace H := zO H
  obtain ⟨⟨t644, t647, t650, t653, t654⟩, A4, H⟩ := H
  try dsimp only at H
  replace H := zO H
  obtain ⟨t655, A5, H⟩ := H
  simp only [Option.some.injEq, Prod.mk.injEq] at H
  obtain ⟨rfl, rfl, rfl, rfl⟩ := H
  go_enter Try.func29, Try.ntmps29
  go_wp2_with (first | ((with_reducible refine zG Try.func58 10 #[.pointer (some ⟨g, 0, none⟩), .int .i64 2] ?_); (with_reducible refine (spec_l1Once.calls g s0_0 s0_1 s0_2 2 true t642 t643 w0 _ ?side1 ?side2 A2.1).mono ?_); (case side1 => exact zB35); (case side2 => exact zB36); rintro e w6 ⟨rfl, hi, hb, hk⟩; refine ⟨_, rfl, ?_⟩; replace HK := zM (KeepBut.trans zB37 hk (.inl rfl)); replace HB := zM hb; replace HI0 := zM hi; clear hb hk hi) | ((with_reducible refine zG Try.func59 13 #[.pointer (some ⟨g, 0, none⟩), .int .i64 20] ?_); (with_reducible refine (spec_l18DrawRun.calls k g s0_0 t642 t643 20 t644 t647 t650 t653 t654 w0 _ ?side1 ?side2 A4.1).mono ?_); (case side1 => exact zB35); (case side2 => exact zB36); rintro e w7 ⟨v645, v648, v651, rfl, ho0, ho1, ho2, hi, hb, hk⟩; refine ⟨_, rfl, ?_⟩; have HO646 := zM (Kd.R_lower ho0 (keep_size (w := w) (g := g) (row := none) zB37)); have HO649 := zM (Kd.S_lower ho1 (keep_size (w := w) (g := g) (row := none) zB37)); have HO652 := zM (Kd.R_lower ho2 (keep_size (w := w) (g := g) (row := none) zB37)); replace HK := zM (KeepBut.trans zB37 hk (.inl rfl)); replace HB := zM hb; replace HI0 := zM hi; clear hb hk hi ho0 ho1 ho2; obtain ⟨Ao8, co8, eo8⟩ := Kd.S_slice HO649.1; subst eo8; obtain ⟨Ao9, co9, eo9⟩ := Kd.R_slice HO646.1; subst eo9; obtain ⟨Ao10, co10, eo10⟩ := Kd.R_slice HO652.1; subst eo10) | ((with_reducible refine zG Try.func28 22 #[.slice Ao9 t644.length co9, .slice Ao8 t647.length co8, .slice Ao10 t650.length co10] ?_); (with_reducible refine (spec_Trace.calls k _ _ t644 (fun k_ => ((some k_ ≠ (.slice Ao9 t644.length co9 : Value).ownBlock ∧ some k_ ≠ (.slice Ao10 t650.length co10 : Value).ownBlock) ∧ k_ ≠ g)) _ _ t647 _ _ t650 t655 _ ?side1 ?side2 ?side3 ?side4 ?side5 A5.1).mono ?_); (case side1 => exact zC (Kd.R_reads' HO646.1).2.2); (case side2 => exact (Kd.R_reads' HO646.1).2.1); (case side3 => exact Kd.S_V (IsS90.apartS HI0.1 (HO649.1) (by decide))); (case side4 => exact zC (Kd.R_reads' HO652.1).2.2); (case side5 => exact (Kd.R_reads' HO652.1).2.1); rintro e w11 ⟨v656, rfl, ho0, hb⟩; refine ⟨_, rfl, ?_⟩; have HO657 := zM (Kd.R_lower (Kd.R_mono (ok' := fun k_ => True) ho0 (fun _ hk_ => trivial)) (keep_size (w := w) (g := g) (row := none) zB37)); replace HK := zM (KeepBut.trans zB37 (KeepBut.of_below hb g none) (.inl rfl)); replace HB := zM (below_step zB36 hb); replace HI0 := zM (IsS90.below zB35 hb); clear hb ho0))
  go_ret2
  exact ⟨_, zE, zR HO657.1, zB35, zB36, zB37⟩
 replace c3 := Bool.eq_false_iff.mpr c3
 subst c3
 rw [if_neg zF] at H
 obtain ⟨y658, hy658⟩ : ∃ y_ : List (S31), y_ = (([] : List (S31))) := ⟨_, rfl⟩
 replace H : (spec_l20Draw.l0 k y658 0 s0_0 t642 t643) = some (r1, r2, r3, r4) := by first | (rw [hy658]; with_reducible exact H) | (have H2_ := (Option.bind_some _ _).symm.trans H; rw [hy658]; with_reducible exact H2_) | (have H2_ := (Option.bind_some _ _).symm.trans H; with_reducible exact H2_) | with_reducible exact H | (rw [hy658]; exact H) | exact H
 have Ny658 := zM hy658
 clear hy658
 have H' := zM H
 clear H
 go_enter Try.func29, Try.ntmps29
 go_wp2_with (first | ((with_reducible refine zG Try.func58 10 #[.pointer (some ⟨g, 0, none⟩), .int .i64 2] ?_); (with_reducible refine (spec_l1Once.calls g s0_0 s0_1 s0_2 2 false t642 t643 w0 _ ?side1 ?side2 A2.1).mono ?_); (case side1 => exact zB35); (case side2 => exact zB36); rintro e w12 ⟨rfl, hi, hb, hk⟩; refine ⟨_, rfl, ?_⟩; replace HK := zM (KeepBut.trans zB37 hk (.inl rfl)); replace HB := zM hb; replace HI0 := zM hi; clear hb hk hi) | ((with_reducible refine gate_dst (N := 23) rfl ?_); refine Kd.R_lit k31 _ 31 ?hg (N := 23) ?hd (xs := ([] : List (S31))) (inner := []) (ok := fun _ => True) (okp := fun _ => True) ?hr ?hp (fun _ hk => hk) trivial (Below.refl _ _) (Nat.le_refl _) (by simp) ?_; (case hd => rfl); (case hg => rfl); (case hr => exact zHH); (case hp => exact (Reps.none _ _)); intro v659 w13 ho14 hb hg_ hnew_; clear hg_ hnew_; (first | rw [← Ny658.1] at ho14 | (simp only [Int.reduceToNat] at ho14; rw [← Ny658.1] at ho14)); have HO660 := zM (Kd.R_lower ho14 (keep_size (w := w) (g := g) (row := none) zB37)); replace HK := zM (KeepBut.trans zB37 (KeepBut.of_below hb g none) (.inl rfl)); replace HB := zM (below_step zB36 hb); replace HI0 := zM (IsS90.below zB35 hb); clear hb ho14))
 go_loopg [7, 8] k (fun kq v7 v8 w' => ∃ (x7_1 : List (S31)) (x8_1 : Int) (x1001_1 : Int) (x1002_1 : Int), v8 = .int .i64 x8_1 ∧ Aside0 (spec_l20Draw.l0 kq x7_1 x8_1 s0_0 x1001_1 x1002_1 = some (r1, r2, r3, r4)) ∧ Aside0 (kq ≤ k) ∧ Aside0 (Kd.R k31 31 w' w.heap.size (fun _ => True) v7 x7_1) ∧ Aside0 (IsS90 w0 w' g s0_0 x1001_1 x1002_1) ∧ Aside0 (KeepBut w w' g none) ∧ Aside0 (Below w0.heap.size w0 w'))
 case atStart => exact ⟨(y658), (0), (t642), (t643), zJJ, H', ⟨Nat.le_refl _⟩, ⟨zR HO660.1⟩, ⟨zB35⟩, ⟨zB37⟩, ⟨zB36⟩⟩
 case round =>
  clear H'
  try clear c2
  try clear p2
  try clear c3
  try clear c5
  obtain ⟨x7_1, x8_1, x1001_1, x1002_1, rfl, HA, HK1, HO_7, HI0, HK, HB⟩ := hrel
  cases gk with
  | zero => exact absurd HA.1 (by simp [spec_l20Draw.l0])
  | succ k1 =>
   have H := HA.1
   clear HA
   simp only [spec_l20Draw.l0] at H
   replace H := zO H
   obtain ⟨⟨t661, t662, t663⟩, A15, H⟩ := H
   try dsimp only at H
   by_cases c16 : x8_1 < t661
   ·rw [if_pos c16] at H
    have c16b0 := decide_eq_true c16
    clear c16
    replace H := zO H
    obtain ⟨⟨t664, t665, t666, t667, t668, t669, t670⟩, A17, H⟩ := H
    try dsimp only at H
    replace H := zIn H
    obtain ⟨LMc18, H⟩ := H
    obtain ⟨y671, hy671⟩ : ∃ y_ : List (S31), y_ = (x7_1 ++ [(⟨t664, t665, t666, t667, t668⟩ : S31)]) := ⟨_, rfl⟩
    replace H : (spec_l20Draw.l0 k1 y671 (wrap64 (x8_1 + 1)) s0_0 t669 t670) = some (r1, r2, r3, r4) := by first | (rw [hy671]; with_reducible exact H) | (have H2_ := (Option.bind_some _ _).symm.trans H; rw [hy671]; with_reducible exact H2_) | (have H2_ := (Option.bind_some _ _).symm.trans H; with_reducible exact H2_) | with_reducible exact H | (rw [hy671]; exact H) | exact H
    have Ny671 := zM hy671
    clear hy671
    have H' := zM H
    clear H
    go_wp2_with (first | ((with_reducible refine zG Try.func42 26 #[.pointer (some ⟨g, 0, none⟩), .int .i64 9] ?_); (with_reducible refine (spec_l1Below.calls g s0_0 x1001_1 x1002_1 9 t661 t662 t663 w0 _ ?side1 ?side2 A15.1).mono ?_); (case side1 => exact zB35); (case side2 => exact zB36); rintro e w19 ⟨rfl, hi, hb, hk⟩; refine ⟨_, rfl, ?_⟩; replace HO_7 := zM (Kd.R_mono (Kd.R_keep (IsS90.apart (show IsS90 w0 _ g s0_0 x1001_1 x1002_1 from zB35) (zR HO_7.1) (by decide)) hk (fun _ h => h.2)) (fun _ h => h.1)); replace HK := zM (KeepBut.trans zB37 hk (.inl rfl)); replace HB := zM hb; replace HI0 := zM hi; clear hb hk hi) | ((with_reducible refine zG Try.func60 32 #[.pointer (some ⟨g, 0, none⟩)] ?_); (with_reducible refine (spec_l19DrawEvent.calls g s0_0 t662 t663 t664 t665 t666 t667 t668 t669 t670 w0 _ ?side1 ?side2 A17.1).mono ?_); (case side1 => exact zB35); (case side2 => exact zB36); rintro e w20 ⟨rfl, hi, hb, hk⟩; refine ⟨_, rfl, ?_⟩; replace HO_7 := zM (Kd.R_mono (Kd.R_keep (IsS90.apart (show IsS90 w0 _ g s0_0 t662 t663 from zB35) (zR HO_7.1) (by decide)) hk (fun _ h => h.2)) (fun _ h => h.1)); replace HK := zM (KeepBut.trans zB37 hk (.inl rfl)); replace HB := zM hb; replace HI0 := zM hi; clear hb hk hi) | ((with_reducible refine gate_builtin (b := .append) (xs := #[.tmp 30, .tmp 33]) rfl ?_); at_builtin; refine Kd.R_append k31 w.heap.size rfl (.tmp 30) (.tmp 33) 24 31 (.agg #[(.int .i64 0), (.int .i64 0), (.int .i64 0), (.int .i64 0), (.int .i64 0)]) 40 rfl Try.underlying24 info31 rfl (by decide) (by omega) u7 x7_1 (⟨t664, t665, t666, t667, t668⟩ : S31) [.int .i64 t664, .int .i64 t665, .int .i64 t666, .int .i64 t667, .int .i64 t668] (fun _ => True) (fun _ => False) rfl rfl ?aP (fun _ hk => hk.elim) ?aF ?aO (Below.refl _ _) ?aS ?aL ?_; (case aP => exact k31_mkM _ _ _ (⟨t664, t665, t666, t667, t668⟩ : S31)); (case aF => exact (fun _ _ => trivial)); (case aO => exact (zR HO_7.1)); (case aS => exact (keep_size (w := w) (g := g) (row := none) zB37)); (case aL => have := LMc18.out; omega); intro v672 w21 ho hb hg hat; rw [← Ny671.1] at ho; replace HB := zM (below_weaken zB36 HL.1 hb); replace HI0 := zM (IsS90.grown (show IsS90 w0 _ g s0_0 t669 t670 from zB35) hg (IsS90.own_ne HI0.1 HO_7.1 (by decide))); replace HK := zM (KeepBut.trans zB37 (KeepBut.of_grown hg g) (Kd.R_base2 HO_7.1)); have HO673 := zM ho; clear HO_7; clear ho hb hg hat))
    go_roundg k1
    case measure => have := HK1.1; omega
    case rel => exact ⟨(y671), (wrap64 (x8_1 + 1)), (t669), (t670), zJJ, H', ⟨by have := HK1.1; omega⟩, ⟨zR HO673.1⟩, ⟨zB35⟩, ⟨zB37⟩, ⟨zB36⟩⟩
   rw [if_neg c16] at H
   have c16b0 := decide_eq_false c16
   clear c16
   obtain ⟨y674, hy674⟩ : ∃ y_ : List Int, y_ = (([3, 3, 3, 2, 8, 9, 0, (-1)] : List Int)) := ⟨_, rfl⟩
   replace H : ((spec_l1PickInt.f s0_0 t662 t663 y674).bind fun bt677 => (some (bt677.1, x7_1, bt677.2.1, bt677.2.2))) = some (r1, r2, r3, r4) := by first | (rw [hy674]; with_reducible exact H) | (have H2_ := (Option.bind_some _ _).symm.trans H; rw [hy674]; with_reducible exact H2_) | (have H2_ := (Option.bind_some _ _).symm.trans H; with_reducible exact H2_) | with_reducible exact H | (rw [hy674]; exact H) | exact H
   have Ny674 := zM hy674
   clear hy674
   replace H := zO H
   obtain ⟨⟨t677, t678, t679⟩, A22, H⟩ := H
   try dsimp only at H
   simp only [Option.some.injEq, Prod.mk.injEq] at H
   obtain ⟨rfl, rfl, rfl, rfl⟩ := H
   go_wp2_with (first | ((with_reducible refine zG Try.func42 26 #[.pointer (some ⟨g, 0, none⟩), .int .i64 9] ?_); (with_reducible refine (spec_l1Below.calls g s0_0 x1001_1 x1002_1 9 t661 t662 t663 w0 _ ?side1 ?side2 A15.1).mono ?_); (case side1 => exact zB35); (case side2 => exact zB36); rintro e w23 ⟨rfl, hi, hb, hk⟩; refine ⟨_, rfl, ?_⟩; replace HO_7 := zM (Kd.R_mono (Kd.R_keep (IsS90.apart (show IsS90 w0 _ g s0_0 x1001_1 x1002_1 from zB35) (zR HO_7.1) (by decide)) hk (fun _ h => h.2)) (fun _ h => h.1)); replace HK := zM (KeepBut.trans zB37 hk (.inl rfl)); replace HB := zM hb; replace HI0 := zM hi; clear hb hk hi) | ((with_reducible refine gate_dst (N := 36) rfl ?_); refine Kd.R_lit (Kd.int .i64) _ 3 ?hg (N := 36) ?hd (xs := ([3, 3, 3, 2, 8, 9, 0, (-1)] : List Int)) (inner := [.int .i64 3, .int .i64 3, .int .i64 3, .int .i64 2, .int .i64 8, .int .i64 9, .int .i64 0, .int .i64 (-1)]) (ok := fun _ => True) (okp := fun _ => True) ?hr ?hp (fun _ hk => hk) trivial (Below.refl _ _) (Nat.le_refl _) (by simp) ?_; (case hd => rfl); (case hg => rfl); (case hr => exact zHH); (case hp => exact (Reps.one (show Kd.M (Kd.int .i64) _ _ _ 3 [.int .i64 3] from rfl) (Reps.one (show Kd.M (Kd.int .i64) _ _ _ 3 [.int .i64 3] from rfl) (Reps.one (show Kd.M (Kd.int .i64) _ _ _ 3 [.int .i64 3] from rfl) (Reps.one (show Kd.M (Kd.int .i64) _ _ _ 2 [.int .i64 2] from rfl) (Reps.one (show Kd.M (Kd.int .i64) _ _ _ 8 [.int .i64 8] from rfl) (Reps.one (show Kd.M (Kd.int .i64) _ _ _ 9 [.int .i64 9] from rfl) (Reps.one (show Kd.M (Kd.int .i64) _ _ _ 0 [.int .i64 0] from rfl) (Reps.one (show Kd.M (Kd.int .i64) _ _ _ (-1) [.int .i64 (-1)] from rfl) (Reps.none _ _)))))))))); intro v675 w24 ho25 hb hg_ hnew_; clear hg_ hnew_; (first | rw [← Ny674.1] at ho25 | (simp only [Int.reduceToNat] at ho25; rw [← Ny674.1] at ho25)); replace HO_7 := zM (Kd.R_below (zR HO_7.1) hb); have HO676 := zM (Kd.R_lower ho25 (keep_size (w := w) (g := g) (row := none) zB37)); replace HK := zM (KeepBut.trans zB37 (KeepBut.of_below hb g none) (.inl rfl)); replace HB := zM (below_step zB36 hb); replace HI0 := zM (IsS90.below zB35 hb); clear hb ho25; obtain ⟨Ao26, co26, eo26⟩ := Kd.R_slice HO676.1; subst eo26) | ((with_reducible refine zG Try.func61 37 #[.pointer (some ⟨g, 0, none⟩), .slice Ao26 y674.length co26] ?_); (with_reducible refine (spec_l1PickInt.calls g s0_0 t662 t663 _ _ y674 t677 t678 t679 w0 _ ?side1 ?side2 ?side3 ?side4 ?side5 A22.1).mono ?_); (case side1 => exact zB35); (case side2 => exact zB36); (case side3 => exact zC (Kd.R_reads' HO676.1).2.2); (case side4 => exact (Kd.R_reads' HO676.1).2.1); (case side5 => exact far_slice (IsS90.own_ne HI0.1 HO676.1 (by decide))); rintro e w27 ⟨rfl, hi, hb, hk⟩; refine ⟨_, rfl, ?_⟩; replace HO_7 := zM (Kd.R_mono (Kd.R_keep (IsS90.apart (show IsS90 w0 _ g s0_0 t662 t663 from zB35) (zR HO_7.1) (by decide)) hk (fun _ h => h.2)) (fun _ h => h.1)); replace HK := zM (KeepBut.trans zB37 hk (.inl rfl)); replace HB := zM hb; replace HI0 := zM hi; clear hb hk hi))
   go_ret2
   exact ⟨_, zE, zR HO_7.1, zB35, zB36, zB37⟩

/-! ### spec_l1New: function 30 -/
def spec_l1New.l0 : Nat → List Int → Int → Int → Option (List Int × Int × Int)
 | 0, _, _, _ => none
 | k + 1, x0, x3, x4 => if x4 < (x0.length : Int) then (if x4 < 4000 then (if 0 ≤ x4 then (spec_l1New.l0 k x0 (Go.bits .and .i64 (wrap64 ((wrap64 ((wrap64 (x3 * 131)) + (wrap64 (rd x0 x4)))) + 7)) 1073741823) (wrap64 (x4 + 1))) else (none)) else (some (x0, 0, x3))) else (some (x0, 0, x3))
def spec_l1New.f (k : Nat) (l0 : List Int) : Option (List Int × Int × Int) := spec_l1New.l0 k l0 (wrap64 (20404 + (l0.length : Int))) 0
theorem spec_l1New.mono_l : ∀ k, (∀ y0 y1 y2, LeO (spec_l1New.l0 k y0 y1 y2) (spec_l1New.l0 (k + 1) y0 y1 y2))
 | 0 => fun _ _ _ r h => by simp [spec_l1New.l0] at h
 | k + 1 => by
  have ih0 := spec_l1New.mono_l k
  ·intros
   unfold spec_l1New.l0
   exact zL
theorem spec_l1New.mono : ∀ a0 k, LeO (spec_l1New.f k a0) (spec_l1New.f (k + 1) a0) := by
 intro a0 k
 have ih0 := spec_l1New.mono_l k
 unfold spec_l1New.f
 exact zL
theorem spec_l1New.calls (k : Nat) (A0 : Option Addr) (c0 : Nat) (l0 : List Int) (r1 : List Int) (r2 : Int) (r3 : Int) (w0 w : World) (hB : Below w0.heap.size w0 w) (hr0 : Kd.C (Kd.int .u8) w0 A0 l0.length l0) (hc0 : l0.length ≤ c0) (h : spec_l1New.f k l0 = some (r1, r2, r3)) :
  Calls Try.prog 30 #[.slice A0 l0.length c0] w fun e w' => ∃ g_ : Nat, e = .returned (.pointer (some ⟨g_, 0, none⟩)) ∧ IsS90 w0 w' g_ r1 r2 r3 ∧ Below w0.heap.size w0 w' ∧ Below w.heap.size w w' := by
 have hu90 := Try.underlying90
 have HR0 := zM hr0
 clear hr0 hc0
 have HBW := zM (Below.refl w.heap.size w)
 have HW0 := zM hB.size
 have HB := zM hB
 clear hB
 unfold spec_l1New.f at h
 have H := h
 clear h
 have H' := zM H
 clear H
 go_enter Try.func30, Try.ntmps30
 go_wp2
 go_loopg [3, 4] k (fun kq v3 v4 w' => ∃ (x3_1 : Int) (x4_1 : Int), v3 = .int .i64 x3_1 ∧ v4 = .int .i64 x4_1 ∧ Aside0 (spec_l1New.l0 kq l0 x3_1 x4_1 = some (r1, r2, r3)) ∧ Aside0 (kq ≤ k) ∧ Aside0 (Below w0.heap.size w0 w') ∧ Aside0 (Below w.heap.size w w'))
 case atStart => exact ⟨(wrap64 (20404 + (l0.length : Int))), (0), zJJ, zJJ, H', ⟨Nat.le_refl _⟩, ⟨zB1⟩, ⟨zB67⟩⟩
 case round =>
  clear H'
  obtain ⟨x3_1, x4_1, rfl, rfl, HA, HK1, HB, HBW⟩ := hrel
  cases gk with
  | zero => exact absurd HA.1 (by simp [spec_l1New.l0])
  | succ k1 =>
   have H := HA.1
   clear HA
   simp only [spec_l1New.l0] at H
   by_cases c2 : x4_1 < (l0.length : Int)
   rotate_left
   ·rw [if_neg c2] at H
    have c2b0 := decide_eq_false c2
    clear c2
    simp only [Option.some.injEq, Prod.mk.injEq] at H
    obtain ⟨rfl, rfl, rfl⟩ := H
    go_wp2_with (first | ((with_reducible refine zBx 31 90 #[.slice A0 l0.length c0, .int .i64 0, .int .i64 x3_1] ?_); intro gb682 hg w6 hbox hb; replace HB := zM (below_step zB1 hb); have BK682 := zM hbox; have GE682 := zM ((Nat.le_trans HW0.1 (zW hg (below_size zB67)) : w0.heap.size ≤ gb682)); replace HBW := zM (below_step HBW.out hb); clear hb hbox hg))
    go_ret
    exact ⟨_, rfl, (show IsS90 w0 _ gb682 l0 0 x3_1 from ⟨_, _, zK BK682.1, GE682.1, HR0.1⟩), zB1, zB67⟩
   rw [if_pos c2] at H
   have c2b0 := decide_eq_true c2
   clear c2
   by_cases c3 : x4_1 < 4000
   ·rw [if_pos c3] at H
    have c3b0 := decide_eq_true c3
    clear c3
    replace H := zIt H
    obtain ⟨c4b0, H⟩ := H
    have H' := zM H
    clear H
    have p680 : 0 ≤ (x4_1 : Int) := zA
    have q680 : x4_1 < (l0.length : Int) := zA
    obtain ⟨ad680, e680, hx680_0⟩ := Kd.at_int HR0.1 x4_1 p680 q680
    cases e680
    replace hx680_0 := pw_cell_below HB.1 hx680_0
    replace p680 := eq_true p680
    replace q680 := eq_true q680
    go_wp2
    go_roundg k1
    case measure => have := HK1.1; omega
    case rel => exact ⟨(Go.bits .and .i64 (wrap64 ((wrap64 ((wrap64 (x3_1 * 131)) + (wrap64 (rd l0 x4_1)))) + 7)) 1073741823), (wrap64 (x4_1 + 1)), zJJ, zJJ, H', ⟨by have := HK1.1; omega⟩, ⟨zB1⟩, ⟨zB67⟩⟩
   rw [if_neg c3] at H
   have c3b0 := decide_eq_false c3
   clear c3
   simp only [Option.some.injEq, Prod.mk.injEq] at H
   obtain ⟨rfl, rfl, rfl⟩ := H
   go_wp2_with (first | ((with_reducible refine zBx 31 90 #[.slice A0 l0.length c0, .int .i64 0, .int .i64 x3_1] ?_); intro gb681 hg w5 hbox hb; replace HB := zM (below_step zB1 hb); have BK681 := zM hbox; have GE681 := zM ((Nat.le_trans HW0.1 (zW hg (below_size zB67)) : w0.heap.size ≤ gb681)); replace HBW := zM (below_step HBW.out hb); clear hb hbox hg))
   go_ret
   exact ⟨_, rfl, (show IsS90 w0 _ gb681 l0 0 x3_1 from ⟨_, _, zK BK681.1, GE681.1, HR0.1⟩), zB1, zB67⟩

/-! ### spec_DrawKnows: function 15 -/
def spec_DrawKnows.f (k : Nat) (l0 : List Int) : Option (Int × (List (S31)) × Int × Int) := (spec_l1New.f k l0).bind fun bt683 => ((spec_l20Draw.f k bt683.1 bt683.2.1 bt683.2.2).bind fun bt687 => ((spec_l1Below.f bt683.1 bt687.2.2.1 bt687.2.2.2 (wrap64 ((bt687.2.1.length : Int) + 2))).bind fun bt693 => ((spec_l1Below.f bt683.1 bt693.2.1 bt693.2.2 (wrap64 ((bt687.2.1.length : Int) + 2))).bind fun bt696 => (some (bt687.1, bt687.2.1, wrap64 (bt693.1 - 1), wrap64 (bt696.1 - 1))))))
theorem spec_DrawKnows.mono : ∀ a0 k, LeO (spec_DrawKnows.f k a0) (spec_DrawKnows.f (k + 1) a0) := by
 intro a0 k
 unfold spec_DrawKnows.f
 have mo0 := @spec_l1New.mono
 have mo1 := @spec_l20Draw.mono
 exact zL
theorem spec_DrawKnows.calls (k : Nat) (A0 : Option Addr) (c0 : Nat) (l0 : List Int) (r1 : Int) (r2 : List (S31)) (r3 : Int) (r4 : Int) (w : World) (hr0 : Kd.C (Kd.int .u8) w A0 l0.length l0) (hc0 : l0.length ≤ c0) (h : spec_DrawKnows.f k l0 = some (r1, r2, r3, r4)) :
  Calls Try.prog 15 #[.slice A0 l0.length c0] w fun e w' => ∃ v1_ : Value, e = .returned (.tuple #[.int .i64 r1, v1_, .int .i64 r3, .int .i64 r4]) ∧ Kd.R k31 31 w' w.heap.size (fun _ => True) v1_ r2 ∧ Below w.heap.size w w' := by
 have HR0 := zM hr0
 have HC0 := zM hc0
 clear hr0 hc0
 have HB := zM (Below.refl w.heap.size w)
 unfold spec_DrawKnows.f at h
 have H := h
 clear h
 replace H := zO H
 obtain ⟨⟨t683, t684, t685⟩, A2, H⟩ := H
 try dsimp only at H
 replace H := zO H
 obtain ⟨⟨t687, t688, t691, t692⟩, A3, H⟩ := H
 try dsimp only at H
 replace H := zO H
 obtain ⟨⟨t693, t694, t695⟩, A4, H⟩ := H
 try dsimp only at H
 replace H := zO H
 obtain ⟨⟨t696, t697, t698⟩, A5, H⟩ := H
 try dsimp only at H
 simp only [Option.some.injEq, Prod.mk.injEq] at H
 obtain ⟨rfl, rfl, rfl, rfl⟩ := H
 go_enter Try.func15, Try.ntmps15
 go_wp2_with (first | ((with_reducible refine zG Try.func30 11 #[.slice A0 l0.length c0] ?_); (with_reducible refine (spec_l1New.calls k _ _ l0 t683 t684 t685 w _ ?side1 ?side2 ?side3 A2.1).mono ?_); (case side1 => exact zB1); (case side2 => exact HR0.1); (case side3 => exact HC0.1); rintro e w6 ⟨g686, rfl, hi, hb, hb2⟩; refine ⟨_, rfl, ?_⟩; replace HB := zM hb; have HI686 := zM hi; clear hb hb2 hi) | ((with_reducible refine zG Try.func29 14 #[.pointer (some ⟨g686, 0, none⟩)] ?_); (with_reducible refine (spec_l20Draw.calls k g686 t683 t684 t685 t687 t688 t691 t692 w _ ?side1 ?side2 A3.1).mono ?_); (case side1 => exact zB72); (case side2 => exact zB73); rintro e w7 ⟨v689, rfl, ho0, hi, hb, hk⟩; refine ⟨_, rfl, ?_⟩; have HO690 := zM (Kd.R_lower ho0 (below_size zB73)); replace HB := zM hb; replace HI686 := zM hi; clear hb hk hi ho0; obtain ⟨Ao8, co8, eo8⟩ := Kd.R_slice HO690.1; subst eo8) | ((with_reducible refine zG Try.func42 21 #[.pointer (some ⟨g686, 0, none⟩), .int .i64 (wrap64 ((t688.length : Int) + 2))] ?_); (with_reducible refine (spec_l1Below.calls g686 t683 t691 t692 (wrap64 ((t688.length : Int) + 2)) t693 t694 t695 w _ ?side1 ?side2 A4.1).mono ?_); (case side1 => exact zB72); (case side2 => exact zB73); rintro e w9 ⟨rfl, hi, hb, hk⟩; refine ⟨_, rfl, ?_⟩; replace HO690 := zM (Kd.R_mono (Kd.R_keep (IsS90.apart (show IsS90 w _ g686 t683 t691 t692 from zB72) (zR HO690.1) (by decide)) hk (fun _ h => h.2)) (fun _ h => h.1)); replace HB := zM hb; replace HI686 := zM hi; clear hb hk hi) | ((with_reducible refine zG Try.func42 30 #[.pointer (some ⟨g686, 0, none⟩), .int .i64 (wrap64 ((t688.length : Int) + 2))] ?_); (with_reducible refine (spec_l1Below.calls g686 t683 t694 t695 (wrap64 ((t688.length : Int) + 2)) t696 t697 t698 w _ ?side1 ?side2 A5.1).mono ?_); (case side1 => exact zB72); (case side2 => exact zB73); rintro e w10 ⟨rfl, hi, hb, hk⟩; refine ⟨_, rfl, ?_⟩; replace HO690 := zM (Kd.R_mono (Kd.R_keep (IsS90.apart (show IsS90 w _ g686 t683 t694 t695 from zB72) (zR HO690.1) (by decide)) hk (fun _ h => h.2)) (fun _ h => h.1)); replace HB := zM hb; clear hb hk hi))
 refine bodyPost_ret (results_list (rs := [.tmp 2, .tmp 3, .tmp 4, .tmp 5]) rfl (by simp) (.tmp (.tmp (.tmp (.tmp .nil))))) rfl ?_
 exact ⟨_, zE, zR HO690.1, zB73⟩

/-! ### impl_ClockWithin: function 65 -/
def impl_ClockWithin.l0 : Nat → List Int → List Int → Int → Int → Option (Bool)
 | 0, _, _, _, _ => none
 | k + 1, x0, x1, x12, x13 => if x13 < x12 then (if 0 ≤ x13 then (if x13 < (x0.length : Int) then (if x13 < (x1.length : Int) then (if (rd x0 x13) > (rd x1 x13) then (some false) else (impl_ClockWithin.l0 k x0 x1 x12 (wrap64 (x13 + 1)))) else (none)) else (none)) else (none)) else (some true)
def impl_ClockWithin.f (k : Nat) (l0 : List Int) (l1 : List Int) : Option (Bool) := if (l0.length : Int) = (l1.length : Int) then (impl_ClockWithin.l0 k l0 l1 (l0.length : Int) 0) else (some false)
theorem impl_ClockWithin.mono_l : ∀ k, (∀ y0 y1 y2 y3, LeO (impl_ClockWithin.l0 k y0 y1 y2 y3) (impl_ClockWithin.l0 (k + 1) y0 y1 y2 y3))
 | 0 => fun _ _ _ _ r h => by simp [impl_ClockWithin.l0] at h
 | k + 1 => by
  have ih0 := impl_ClockWithin.mono_l k
  ·intros
   unfold impl_ClockWithin.l0
   exact zL
theorem impl_ClockWithin.mono : ∀ a0 a1 k, LeO (impl_ClockWithin.f k a0 a1) (impl_ClockWithin.f (k + 1) a0 a1) := by
 intro a0 a1 k
 have ih0 := impl_ClockWithin.mono_l k
 unfold impl_ClockWithin.f
 exact zL
theorem impl_ClockWithin.calls (k : Nat) (A0 : Option Addr) (c0 : Nat) (l0 : List Int) (A1 : Option Addr) (c1 : Nat) (l1 : List Int) (r : Bool) (w : World) (hr0 : Kd.C (Kd.int .i64) w A0 l0.length l0) (hc0 : l0.length ≤ c0) (hr1 : Kd.C (Kd.int .i64) w A1 l1.length l1) (hc1 : l1.length ≤ c1) (h : impl_ClockWithin.f k l0 l1 = some r) :
  Calls Try.prog 65 #[.slice A0 l0.length c0, .slice A1 l1.length c1] w fun e w' => e = .returned (.bool r) ∧ Drawn0 w w' := by
 have HR0 := zM hr0
 clear hr0 hc0
 have HR1 := zM hr1
 clear hr1 hc1
 unfold impl_ClockWithin.f at h
 have H := h
 clear h
 by_cases c3 : (l0.length : Int) = (l1.length : Int)
 rotate_left
 ·rw [if_neg c3] at H
  have c3b1 : ((l0.length : Int) != (l1.length : Int)) = true := bne_iff_ne.mpr c3
  have c3b2 : (l0.length == l1.length) = false := by first | simpa using c3 | (simp at c3 ⊢; omega)
  obtain rfl := Option.some.inj H
  go_enter Try.func65, Try.ntmps65
  go_wp2
  repeat (go_quiet (fail); try go_wp2)
  go_ret
  exact ⟨zJJ, zDD⟩
 rw [if_pos c3] at H
 have c3b1 : ((l0.length : Int) != (l1.length : Int)) = false := bne_eq_false_iff_eq.mpr c3
 have c3b2 : (l0.length == l1.length) = true := by first | simpa using c3 | (simp at c3 ⊢; omega)
 clear c3
 have H' := zM H
 clear H
 go_enter Try.func65, Try.ntmps65
 go_wp2
 repeat (go_quiet (fail); try go_wp2)
 go_loopg [13] k (fun kq v13 w' => ∃ (x13_1 : Int), v13 = .int .i64 x13_1 ∧ Aside0 (impl_ClockWithin.l0 kq l0 l1 (l0.length : Int) x13_1 = some r) ∧ Aside0 (kq ≤ k) ∧ Drawn0 w w')
 case atStart => exact ⟨(0), zJJ, H', ⟨Nat.le_refl _⟩, zDD⟩
 case round =>
  clear H'
  try clear c1
  try clear p2
  try clear c3
  try clear c3b0
  try clear c3b1
  try clear c3b2
  obtain ⟨x13_1, rfl, HA, HK1, ⟨m1, rfl⟩⟩ := hrel
  cases gk with
  | zero => exact absurd HA.1 (by simp [impl_ClockWithin.l0])
  | succ k1 =>
   have H := HA.1
   clear HA
   simp only [impl_ClockWithin.l0] at H
   by_cases c4 : x13_1 < (l0.length : Int)
   rotate_left
   ·rw [if_neg c4] at H
    have c4b0 := decide_eq_false c4
    clear c4
    obtain rfl := Option.some.inj H
    go_wp2
    repeat (go_quiet (fail); try go_wp2)
    go_ret
    exact ⟨zJJ, zDD⟩
   rw [if_pos c4] at H
   clear c4
   replace H := zIt H
   obtain ⟨c5b0, H⟩ := H
   replace H := zIt H
   obtain ⟨c6b0, H⟩ := H
   replace H := zIt H
   obtain ⟨c7b0, H⟩ := H
   by_cases c8 : (rd l0 x13_1) > (rd l1 x13_1)
   ·rw [if_pos c8] at H
    have c8b0 := decide_eq_true c8
    clear c8
    obtain rfl := Option.some.inj H
    have p699 : 0 ≤ (x13_1 : Int) := zA
    have q699 : x13_1 < (l0.length : Int) := zA
    obtain ⟨ad699, e699, hx699_0⟩ := Kd.at_int HR0.1 x13_1 p699 q699
    cases e699
    replace p699 := eq_true p699
    replace q699 := eq_true q699
    have p700 : 0 ≤ (x13_1 : Int) := zA
    have q700 : x13_1 < (l1.length : Int) := zA
    obtain ⟨ad700, e700, hx700_0⟩ := Kd.at_int HR1.1 x13_1 p700 q700
    cases e700
    replace p700 := eq_true p700
    replace q700 := eq_true q700
    go_wp2
    repeat (go_quiet (fail); try go_wp2)
    go_ret
    exact ⟨zJJ, zDD⟩
   rw [if_neg c8] at H
   have c8b0 := decide_eq_false c8
   clear c8
   have H' := zM H
   clear H
   have p699 : 0 ≤ (x13_1 : Int) := zA
   have q699 : x13_1 < (l0.length : Int) := zA
   obtain ⟨ad699, e699, hx699_0⟩ := Kd.at_int HR0.1 x13_1 p699 q699
   cases e699
   replace p699 := eq_true p699
   replace q699 := eq_true q699
   have p700 : 0 ≤ (x13_1 : Int) := zA
   have q700 : x13_1 < (l1.length : Int) := zA
   obtain ⟨ad700, e700, hx700_0⟩ := Kd.at_int HR1.1 x13_1 p700 q700
   cases e700
   replace p700 := eq_true p700
   replace q700 := eq_true q700
   go_wp2
   repeat (go_quiet (fail); try go_wp2)
   go_roundg k1
   case measure => have := HK1.1; omega
   case rel => exact ⟨(wrap64 (x13_1 + 1)), zJJ, H', ⟨by have := HK1.1; omega⟩, zDD⟩

end Go.Proofs.Ytgbjengnkbomoaa.PFnKnows
