-- made by wip/tools/myprint.py out of the seat's translation
import Derived.Test.YtnjdepmlpdjghaaPFnAllEndsx0
import Derived.Test.YtnjdepmlpdjghaaPFnAllEndsx2
import Derived.Test.YtnjdepmlpdjghaaPFnAllEndsx7
import Derived.Test.YtnjdepmlpdjghaaPFnAllEndsx8
import Derived.Test.YtnjdepmlpdjghaaPFnAllEndsx12
import Derived.Test.YtnjdepmlpdjghaaPFnAllEndsx13
import Derived.Test.YtnjdepmlpdjghaaPFnAllEndsx14
import Derived.Test.YtnjdepmlpdjghaaPFnAllEndsx15
namespace Go.Proofs.Ytnjdepmlpdjghaa.PFnAllEnds
open Go.RowKit Go.Proofs.YtnjdepmlpdjghaaW.PrintWords Go.Proofs.YtnjdepmlpdjghaaW.PrintLast Go.Proofs.YtnjdepmlpdjghaaW.PrintMore
attribute [local go_sem] max2_int min2_int max_two min_two max_three min_three max_four min_four   -- for this text's walks alone
set_option linter.unusedVariables false
set_option linter.unusedSimpArgs false
set_option maxHeartbeats 8000000
set_option maxRecDepth 100000

/-! ### spec_l18DrawRun: function 84 -/
mutual
def spec_l18DrawRun.l0 : Nat → Int → List Int → List (S29) → Int → List Int → Int → Int → Option (List Int × (List (S29)) × List Int × Int × Int)
 | 0, _, _, _, _, _, _, _ => none
 | k + 1, x1, x7, x8, x9, x1000, x1001, x1002 => (spec_l1Below.f x1000 x1001 x1002 3).bind fun bt532 => (if x9 < (wrap64 (1 + bt532.1)) then ((spec_l9DrawHart.f k x1000 bt532.2.1 bt532.2.2).bind fun bt535 => ((spec_HartOk.f k bt535.1 bt535.2.1 bt535.2.2.1).bind fun t543 => (if t543 = true then (if x8.length < 3518437208883 then (spec_l18DrawRun.l0 k x1 x7 (x8 ++ [(⟨bt535.1, bt535.2.1, bt535.2.2.1⟩ : S29)]) (wrap64 (x9 + 1)) x1000 bt535.2.2.2.1 bt535.2.2.2.2) else (none)) else ((spec_l1Below.f x1000 bt535.2.2.2.1 bt535.2.2.2.2 20).bind fun bt547 => ((spec_HartNew.f bt547.1).bind fun bt550 => (if x8.length < 3518437208883 then (spec_l18DrawRun.l0 k x1 x7 (x8 ++ [(⟨bt550.1, bt550.2.1, bt550.2.2⟩ : S29)]) (wrap64 (x9 + 1)) x1000 bt547.2.1 bt547.2.2) else (none))))))) else (spec_l18DrawRun.l1 k x1 x7 x8 (([] : List Int)) 0 x1000 bt532.2.1 bt532.2.2))
def spec_l18DrawRun.l1 : Nat → Int → List Int → List (S29) → List Int → Int → List Int → Int → Int → Option (List Int × (List (S29)) × List Int × Int × Int)
 | 0, _, _, _, _, _, _, _, _ => none
 | k + 1, x1, x7, x8, x11, x12, x1000, x1001, x1002 => (spec_l1Below.f x1000 x1001 x1002 x1).bind fun bt561 => (if x12 < bt561.1 then ((spec_l1Below.f x1000 bt561.2.1 bt561.2.2 (x8.length : Int)).bind fun bt564 => (if x11.length < 17592186044416 then (spec_l18DrawRun.l1 k x1 x7 x8 (x11 ++ [bt564.1]) (wrap64 (x12 + 1)) x1000 bt564.2.1 bt564.2.2) else (none))) else (some (x7, x8, x11, bt561.2.1, bt561.2.2)))
end
def spec_l18DrawRun.f (k : Nat) (s0_0 : List Int) (s0_1 : Int) (s0_2 : Int) (a1 : Int) : Option (List Int × (List (S29)) × List Int × Int × Int) := (spec_l9DrawMem.f k s0_0 s0_1 s0_2).bind fun bt524 => (spec_l18DrawRun.l0 k a1 bt524.1 (([] : List (S29))) 0 s0_0 bt524.2.1 bt524.2.2)
theorem spec_l18DrawRun.mono_l : ∀ k, (∀ y0 y1 y2 y3 y4 y5 y6, LeO (spec_l18DrawRun.l0 k y0 y1 y2 y3 y4 y5 y6) (spec_l18DrawRun.l0 (k + 1) y0 y1 y2 y3 y4 y5 y6)) ∧ (∀ y0 y1 y2 y3 y4 y5 y6 y7, LeO (spec_l18DrawRun.l1 k y0 y1 y2 y3 y4 y5 y6 y7) (spec_l18DrawRun.l1 (k + 1) y0 y1 y2 y3 y4 y5 y6 y7))
 | 0 => ⟨fun _ _ _ _ _ _ _ r h => by simp [spec_l18DrawRun.l0] at h, fun _ _ _ _ _ _ _ _ r h => by simp [spec_l18DrawRun.l1] at h⟩
 | k + 1 => by
  obtain ⟨ih0, ih1⟩ := spec_l18DrawRun.mono_l k
  refine ⟨?_, ?_⟩
  ·intros
   unfold spec_l18DrawRun.l0
   have mo0 := @spec_HartOk.mono
   have mo1 := @spec_l9DrawHart.mono
   have mo2 := @spec_l9DrawMem.mono
   exact zL
  ·intros
   unfold spec_l18DrawRun.l1
   have mo0 := @spec_HartOk.mono
   have mo1 := @spec_l9DrawHart.mono
   have mo2 := @spec_l9DrawMem.mono
   exact zL
theorem spec_l18DrawRun.mono : ∀ a0 a1 a2 a3 k, LeO (spec_l18DrawRun.f k a0 a1 a2 a3) (spec_l18DrawRun.f (k + 1) a0 a1 a2 a3) := by
 intro a0 a1 a2 a3 k
 obtain ⟨ih0, ih1⟩ := spec_l18DrawRun.mono_l k
 unfold spec_l18DrawRun.f
 have mo0 := @spec_HartOk.mono
 have mo1 := @spec_l9DrawHart.mono
 have mo2 := @spec_l9DrawMem.mono
 exact zL
theorem spec_l18DrawRun.calls (k : Nat) (g : Nat) (s0_0 : List Int) (s0_1 : Int) (s0_2 : Int) (a1 : Int) (r1 : List Int) (r2 : List (S29)) (r3 : List Int) (r4 : Int) (r5 : Int) (w0 w : World) (hI : IsS102 w0 w g s0_0 s0_1 s0_2) (hB : Below w0.heap.size w0 w) (h : spec_l18DrawRun.f k s0_0 s0_1 s0_2 a1 = some (r1, r2, r3, r4, r5)) :
  Calls Try.prog 84 #[.pointer (some ⟨g, 0, none⟩), .int .i64 a1] w fun e w' => ∃ v0_ v1_ v2_ : Value, e = .returned (.tuple #[v0_, v1_, v2_]) ∧ Kd.R (Kd.int .i64) 3 w' w.heap.size (fun k_ => (w.heap.size ≤ k_) ∧ some k_ ≠ (v2_ : Value).ownBlock) v0_ r1 ∧ Kd.N k29 29 w' w.heap.size (fun k_ => (w.heap.size ≤ k_) ∧ some k_ ≠ (v0_ : Value).ownBlock ∧ some k_ ≠ (v2_ : Value).ownBlock) v1_ r2 ∧ Kd.R (Kd.int .i64) 3 w' w.heap.size (fun k_ => (w.heap.size ≤ k_) ∧ some k_ ≠ (v0_ : Value).ownBlock) v2_ r3 ∧ IsS102 w0 w' g s0_0 r4 r5 ∧ Below w0.heap.size w0 w' ∧ KeepBut w w' g none := by
 have hu29 := Try.underlying29
 have HI0 := zM hI
 have HK := zM (KeepBut.refl w g none)
 have HL := zM hB.size
 clear hI
 have HW0 := zM hB.size
 have HB := zM hB
 clear hB
 unfold spec_l18DrawRun.f at h
 have H := h
 clear h
 replace H := zO H
 obtain ⟨⟨t524, t527, t528⟩, A3, H⟩ := H
 try dsimp only at H
 generalize hy529 : ((([] : List (S29))) : List (S29)) = y529 at H
 have Ny529 := zM hy529.symm
 clear hy529
 have H' := zM H
 clear H
 go_enter Try.func84, Try.ntmps84
 go_wp2_with (first | ((with_reducible refine zG Try.func111 14 #[.pointer (some ⟨g, 0, none⟩)] ?_); (with_reducible refine (spec_l9DrawMem.calls k g s0_0 s0_1 s0_2 t524 t527 t528 w0 _ ?side1 ?side2 A3.1).mono ?_); (case side1 => exact zB44); (case side2 => exact zB45); rintro e w4 ⟨v525, rfl, ho0, hi, hb, hk⟩; refine ⟨_, rfl, ?_⟩; have HO526 := zM (Kd.R_lower (Kd.R_newM (M := fun k_ => (w.heap.size ≤ k_)) ho0 (keep_size (w := w) (g := g) (row := none) zB46) (fun k_ h_ => h_)) (keep_size (w := w) (g := g) (row := none) zB46)); replace HK := zM (KeepBut.trans zB46 hk (.inl rfl)); replace HB := zM hb; replace HI0 := zM hi; clear hb hk hi ho0) | ((with_reducible refine gate_dst (N := 15) rfl ?_); refine Kd.N_lit k29 _ 29 ?hg (N' := 15) ?hd (xs := ([] : List (S29))) (inner := []) (ok := (fun k_ => (w.heap.size ≤ k_) ∧ some k_ ≠ (v525 : Value).ownBlock ∧ k_ ≠ g)) (okp := (fun k_ => (w.heap.size ≤ k_) ∧ some k_ ≠ (v525 : Value).ownBlock ∧ k_ ≠ g)) ?hr ?hp (fun _ hk => hk) ((show ∀ k_, w4.heap.size ≤ k_ → (fun k_ => (w.heap.size ≤ k_) ∧ some k_ ≠ (v525 : Value).ownBlock ∧ k_ ≠ g) k_ from fun k_ hk => ⟨(Nat.le_trans (keep_size (w := w) (g := g) (row := none) zB46) hk), Kd.fresh' (Kd.R_lt (zR HO526.1)) k_ hk, IsS102.fresh zB44 k_ hk⟩) _ (Nat.le_refl _)) (Below.refl _ _) (Nat.le_refl _) (by simp) ?_; (case hd => rfl); (case hg => rfl); (case hr => exact zHH); (case hp => exact (Reps.none _ _)); intro v530 w5 ho6 hb hg_ hnew_; clear hg_ hnew_; (first | rw [← Ny529.1] at ho6 | (simp only [Int.reduceToNat] at ho6; rw [← Ny529.1] at ho6)); replace HO526 := zM (Kd.R_below (zR HO526.1) hb); have HO531 := zM (Kd.N_lower ho6 (keep_size (w := w) (g := g) (row := none) zB46)); replace HK := zM (KeepBut.trans zB46 (KeepBut.of_below hb g none) (.inl rfl)); replace HB := zM (below_step zB45 hb); replace HI0 := zM (IsS102.below zB44 hb); clear hb ho6))
 go_loopg [8, 9] k (fun kq v8 v9 w' => ∃ (x8_1 : List (S29)) (x9_1 : Int) (x1001_1 : Int) (x1002_1 : Int), v9 = .int .i64 x9_1 ∧ Aside0 (spec_l18DrawRun.l0 kq a1 t524 x8_1 x9_1 s0_0 x1001_1 x1002_1 = some (r1, r2, r3, r4, r5)) ∧ Aside0 (kq ≤ k) ∧ Aside0 (Kd.R (Kd.int .i64) 3 w' w.heap.size (fun k_ => (w.heap.size ≤ k_)) v525 t524) ∧ Aside0 (Kd.N k29 29 w' w.heap.size (fun k_ => (w.heap.size ≤ k_) ∧ some k_ ≠ (v525 : Value).ownBlock ∧ k_ ≠ g) v8 x8_1) ∧ Aside0 (IsS102 w0 w' g s0_0 x1001_1 x1002_1) ∧ Aside0 (KeepBut w w' g none) ∧ Aside0 (Below w0.heap.size w0 w'))
 case atStart => exact ⟨(y529), (0), (t527), (t528), zJJ, H', ⟨Nat.le_refl _⟩, ⟨by refine zrR ?_; exact Kd.R_mono HO526.1 (fun _ hk => hk.1)⟩, ⟨by refine zrN ?_; exact HO531.1⟩, ⟨zB44⟩, ⟨zB46⟩, ⟨zB45⟩⟩
 case round =>
  clear H'
  obtain ⟨x8_1, x9_1, x1001_1, x1002_1, rfl, HA, HK1, HO_7, HO_8, HI0, HK, HB⟩ := hrel
  cases gk with
  | zero => exact absurd HA.1 (by simp [spec_l18DrawRun.l0])
  | succ k1 =>
   have H := HA.1
   clear HA
   simp only [spec_l18DrawRun.l0] at H
   replace H := zO H
   obtain ⟨⟨t532, t533, t534⟩, A7, H⟩ := H
   try dsimp only at H
   by_cases c8 : x9_1 < (wrap64 (1 + t532))
   rotate_left
   ·rw [if_neg c8] at H
    have c8b0 := decide_eq_false c8
    clear c8
    generalize hy558 : ((([] : List Int)) : List Int) = y558 at H
    have Ny558 := zM hy558.symm
    clear hy558
    have H' := zM H
    clear H
    go_wp2_with (first | ((with_reducible refine zG Try.func67 18 #[.pointer (some ⟨g, 0, none⟩), .int .i64 3] ?_); (with_reducible refine (spec_l1Below.calls g s0_0 x1001_1 x1002_1 3 t532 t533 t534 w0 _ ?side1 ?side2 A7.1).mono ?_); (case side1 => exact zB44); (case side2 => exact zB45); rintro e w39 ⟨rfl, hi, hb, hk⟩; refine ⟨_, rfl, ?_⟩; replace HO_7 := zM (Kd.R_mono (Kd.R_keep (IsS102.apart (show IsS102 w0 _ g s0_0 x1001_1 x1002_1 from zB44) (zR HO_7.1) (by decide)) hk (fun _ h => h.2)) (fun _ h => h.1)); replace HO_8 := zM (Kd.N_mono (Kd.N_keep (Kd.N_mono (ok := fun k_ => (((w.heap.size ≤ k_)) ∧ (some k_ ≠ (v525 : Value).ownBlock ∧ k_ ≠ g))) (by refine zrN ?_; exact HO_8.1) (fun k_ hk_ => (⟨hk_, hk_.2.2⟩ : _ ∧ k_ ≠ g))) hk (fun _ h => h.2)) (fun _ h => h.1)); replace HK := zM (KeepBut.trans zB46 hk (.inl rfl)); replace HB := zM hb; replace HI0 := zM hi; clear hb hk hi) | ((with_reducible refine gate_dst (N := 35) rfl ?_); refine Kd.R_lit (Kd.int .i64) _ 3 ?hg (N := 35) ?hd (xs := ([] : List Int)) (inner := []) (ok := fun _ => True) (okp := fun _ => True) ?hr ?hp (fun _ hk => hk) trivial (Below.refl _ _) (Nat.le_refl _) (by simp) ?_; (case hd => rfl); (case hg => rfl); (case hr => exact zHH); (case hp => exact (Reps.none _ _)); intro v559 w40 ho41 hb hg_ hnew_; clear hg_ hnew_; (first | rw [← Ny558.1] at ho41 | (simp only [Int.reduceToNat] at ho41; rw [← Ny558.1] at ho41)); replace HO_8 := zM (Kd.N_elder' (by refine zrN ?_; exact HO_8.1) (Kd.R_base ho41) hb); have HO560 := zM (Kd.R_lower (Kd.R_new' (Kd.R_newM (M := fun k_ => (w.heap.size ≤ k_)) ho41 (keep_size (w := w) (g := g) (row := none) zB46) (fun k_ h_ => h_)) (Kd.R_lt (zR HO_7.1))) (keep_size (w := w) (g := g) (row := none) zB46)); replace HO_7 := zM (Kd.R_elder' (zR HO_7.1) (Kd.R_base ho41) hb); replace HK := zM (KeepBut.trans zB46 (KeepBut.of_below hb g none) (.inl rfl)); replace HB := zM (below_step zB45 hb); replace HI0 := zM (IsS102.below zB44 hb); clear hb ho41))
    go_loopg [11, 12] k1 (fun kq v11 v12 w' => ∃ (x11_2 : List Int) (x12_2 : Int) (x1001_2 : Int) (x1002_2 : Int), v12 = .int .i64 x12_2 ∧ Aside0 (spec_l18DrawRun.l1 kq a1 t524 x8_1 x11_2 x12_2 s0_0 x1001_2 x1002_2 = some (r1, r2, r3, r4, r5)) ∧ Aside0 (kq ≤ k1) ∧ Aside0 (Kd.R (Kd.int .i64) 3 w' w.heap.size (fun k_ => (w.heap.size ≤ k_) ∧ some k_ ≠ (v11 : Value).ownBlock) v525 t524) ∧ Aside0 (Kd.N k29 29 w' w.heap.size (fun k_ => (w.heap.size ≤ k_) ∧ some k_ ≠ (v525 : Value).ownBlock ∧ some k_ ≠ (v11 : Value).ownBlock ∧ k_ ≠ g) u8 x8_1) ∧ Aside0 (Kd.R (Kd.int .i64) 3 w' w.heap.size (fun k_ => (w.heap.size ≤ k_) ∧ some k_ ≠ (v525 : Value).ownBlock) v11 x11_2) ∧ Aside0 (IsS102 w0 w' g s0_0 x1001_2 x1002_2) ∧ Aside0 (KeepBut w w' g none) ∧ Aside0 (Below w0.heap.size w0 w'))
    case atStart => exact ⟨(y558), (0), (t533), (t534), zJJ, H', ⟨Nat.le_refl _⟩, ⟨zR HO_7.1⟩, ⟨by refine zrN ?_; exact Kd.N_mono HO_8.1 (fun _ hk => ⟨hk.1.1, ⟨hk.1.2.1, ⟨hk.2, hk.1.2.2⟩⟩⟩)⟩, ⟨by refine zrR ?_; exact Kd.R_mono HO560.1 (fun _ hk => ⟨hk.1.1, hk.2⟩)⟩, ⟨zB44⟩, ⟨zB46⟩, ⟨zB45⟩⟩
    case round =>
     clear H'
     obtain ⟨x11_2, x12_2, x1001_2, x1002_2, rfl, HA, HK2, HO_7, HO_8, HO_11, HI0, HK, HB⟩ := hrel
     cases gk with
     | zero => exact absurd HA.1 (by simp [spec_l18DrawRun.l1])
     | succ k2 =>
      have H := HA.1
      clear HA
      simp only [spec_l18DrawRun.l1] at H
      replace H := zO H
      obtain ⟨⟨t561, t562, t563⟩, A42, H⟩ := H
      try dsimp only at H
      by_cases c43 : x12_2 < t561
      rotate_left
      ·rw [if_neg c43] at H
       have c43b0 := decide_eq_false c43
       clear c43
       simp only [Option.some.injEq, Prod.mk.injEq] at H
       obtain ⟨rfl, rfl, rfl, rfl, rfl⟩ := H
       go_wp2_with (first | ((with_reducible refine zG Try.func67 39 #[.pointer (some ⟨g, 0, none⟩), .int .i64 a1] ?_); (with_reducible refine (spec_l1Below.calls g s0_0 x1001_2 x1002_2 a1 t561 t562 t563 w0 _ ?side1 ?side2 A42.1).mono ?_); (case side1 => exact zB44); (case side2 => exact zB45); rintro e w50 ⟨rfl, hi, hb, hk⟩; refine ⟨_, rfl, ?_⟩; replace HO_7 := zM (Kd.R_mono (Kd.R_keep (IsS102.apart (show IsS102 w0 _ g s0_0 x1001_2 x1002_2 from zB44) (zR HO_7.1) (by decide)) hk (fun _ h => h.2)) (fun _ h => h.1)); replace HO_8 := zM (Kd.N_mono (Kd.N_keep (Kd.N_mono (ok := fun k_ => (((w.heap.size ≤ k_)) ∧ (some k_ ≠ (v525 : Value).ownBlock ∧ (some k_ ≠ (u11 : Value).ownBlock ∧ k_ ≠ g)))) (by refine zrN ?_; exact HO_8.1) (fun k_ hk_ => (⟨hk_, hk_.2.2.2⟩ : _ ∧ k_ ≠ g))) hk (fun _ h => h.2)) (fun _ h => h.1)); replace HO_11 := zM (Kd.R_mono (Kd.R_keep (IsS102.apart (show IsS102 w0 _ g s0_0 x1001_2 x1002_2 from zB44) (zR HO_11.1) (by decide)) hk (fun _ h => h.2)) (fun _ h => h.1)); replace HK := zM (KeepBut.trans zB46 hk (.inl rfl)); replace HB := zM hb; replace HI0 := zM hi; clear hb hk hi))
       go_ret3
       exact ⟨_, _, _, zE, zR HO_7.1, by refine zrN ?_; exact Kd.N_mono HO_8.1 (fun _ hk => ⟨hk.1, ⟨hk.2.1, hk.2.2.1⟩⟩), zR HO_11.1, zB44, zB45, zB46⟩
      rw [if_pos c43] at H
      have c43b0 := decide_eq_true c43
      clear c43
      replace H := zO H
      obtain ⟨⟨t564, t565, t566⟩, A44, H⟩ := H
      try dsimp only at H
      replace H := zIn H
      obtain ⟨LMc45, H⟩ := H
      generalize hy567 : ((x11_2 ++ [t564]) : List Int) = y567 at H
      have Ny567 := zM hy567.symm
      clear hy567
      have H' := zM H
      clear H
      go_wp2_with (first | ((with_reducible refine zG Try.func67 39 #[.pointer (some ⟨g, 0, none⟩), .int .i64 a1] ?_); (with_reducible refine (spec_l1Below.calls g s0_0 x1001_2 x1002_2 a1 t561 t562 t563 w0 _ ?side1 ?side2 A42.1).mono ?_); (case side1 => exact zB44); (case side2 => exact zB45); rintro e w46 ⟨rfl, hi, hb, hk⟩; refine ⟨_, rfl, ?_⟩; replace HO_7 := zM (Kd.R_mono (Kd.R_keep (IsS102.apart (show IsS102 w0 _ g s0_0 x1001_2 x1002_2 from zB44) (zR HO_7.1) (by decide)) hk (fun _ h => h.2)) (fun _ h => h.1)); replace HO_8 := zM (Kd.N_mono (Kd.N_keep (Kd.N_mono (ok := fun k_ => (((w.heap.size ≤ k_)) ∧ (some k_ ≠ (v525 : Value).ownBlock ∧ (some k_ ≠ (u11 : Value).ownBlock ∧ k_ ≠ g)))) (by refine zrN ?_; exact HO_8.1) (fun k_ hk_ => (⟨hk_, hk_.2.2.2⟩ : _ ∧ k_ ≠ g))) hk (fun _ h => h.2)) (fun _ h => h.1)); replace HO_11 := zM (Kd.R_mono (Kd.R_keep (IsS102.apart (show IsS102 w0 _ g s0_0 x1001_2 x1002_2 from zB44) (zR HO_11.1) (by decide)) hk (fun _ h => h.2)) (fun _ h => h.1)); replace HK := zM (KeepBut.trans zB46 hk (.inl rfl)); replace HB := zM hb; replace HI0 := zM hi; clear hb hk hi; obtain ⟨Ao47, co47, eo47⟩ := Kd.N_slice HO_8.1; subst eo47) | ((with_reducible refine zG Try.func67 47 #[.pointer (some ⟨g, 0, none⟩), .int .i64 (x8_1.length : Int)] ?_); (with_reducible refine (spec_l1Below.calls g s0_0 t562 t563 (x8_1.length : Int) t564 t565 t566 w0 _ ?side1 ?side2 A44.1).mono ?_); (case side1 => exact zB44); (case side2 => exact zB45); rintro e w48 ⟨rfl, hi, hb, hk⟩; refine ⟨_, rfl, ?_⟩; replace HO_7 := zM (Kd.R_mono (Kd.R_keep (IsS102.apart (show IsS102 w0 _ g s0_0 t562 t563 from zB44) (zR HO_7.1) (by decide)) hk (fun _ h => h.2)) (fun _ h => h.1)); replace HO_8 := zM (Kd.N_mono (Kd.N_keep (Kd.N_mono (ok := fun k_ => (((w.heap.size ≤ k_)) ∧ (some k_ ≠ (v525 : Value).ownBlock ∧ (some k_ ≠ (u11 : Value).ownBlock ∧ k_ ≠ g)))) (by refine zrN ?_; exact HO_8.1) (fun k_ hk_ => (⟨hk_, hk_.2.2.2⟩ : _ ∧ k_ ≠ g))) hk (fun _ h => h.2)) (fun _ h => h.1)); replace HO_11 := zM (Kd.R_mono (Kd.R_keep (IsS102.apart (show IsS102 w0 _ g s0_0 t562 t563 from zB44) (zR HO_11.1) (by decide)) hk (fun _ h => h.2)) (fun _ h => h.1)); replace HK := zM (KeepBut.trans zB46 hk (.inl rfl)); replace HB := zM hb; replace HI0 := zM hi; clear hb hk hi) | ((with_reducible refine gate_builtin (b := .append) (xs := #[.tmp 43, .tmp 48]) rfl ?_); at_builtin; refine Kd.R_append (Kd.int .i64) w.heap.size rfl (.tmp 43) (.tmp 48) 24 3 (.int .i64 0) 8 rfl Try.underlying24 info3 rfl (by decide) (by omega) u11 x11_2 t564 [.int .i64 t564] (fun k_ => (w.heap.size ≤ k_) ∧ some k_ ≠ (v525 : Value).ownBlock) (fun _ => False) rfl rfl ?aP (fun _ hk => hk.elim) ?aF ?aO (Below.refl _ _) ?aS ?aL ?_; (case aP => exact rfl); (case aF => exact (fun k_ hk => ⟨(Nat.le_trans (keep_size (w := w) (g := g) (row := none) zB46) hk), Kd.fresh' (Kd.R_lt (zR HO_7.1)) k_ hk⟩)); (case aO => exact (zR HO_11.1)); (case aS => exact (keep_size (w := w) (g := g) (row := none) zB46)); (case aL => have := LMc45.out; omega); intro v568 w49 ho hb hg hat; rw [← Ny567.1] at ho; replace HO_7 := zM (Kd.R_after (ok := (fun k_ => (w.heap.size ≤ k_))) (zR HO_7.1) hg hat); replace HO_8 := zM (Kd.N_afterv (ok := (fun k_ => (w.heap.size ≤ k_) ∧ some k_ ≠ (v525 : Value).ownBlock ∧ k_ ≠ g)) (by refine zrN ?_; exact Kd.N_mono HO_8.1 (fun _ hk => ⟨⟨hk.1, ⟨hk.2.1, hk.2.2.2⟩⟩, hk.2.2.1⟩)) hg hat); replace HB := zM (below_weaken zB45 HL.1 hb); replace HI0 := zM (IsS102.grown (show IsS102 w0 _ g s0_0 t565 t566 from zB44) hg (IsS102.own_ne HI0.1 HO_11.1 (by decide))); replace HK := zM (KeepBut.trans zB46 (KeepBut.of_grown hg g) (Kd.R_base2 HO_11.1)); have HO569 := zM ho; clear HO_11; clear ho hb hg hat))
      go_roundg k2
      case measure => have := HK1.1; have := HK2.1; omega
      case rel => exact ⟨(y567), (wrap64 (x12_2 + 1)), (t565), (t566), zJJ, H', ⟨by have := HK1.1; have := HK2.1; omega⟩, ⟨zR HO_7.1⟩, ⟨by refine zrN ?_; exact Kd.N_mono HO_8.1 (fun _ hk => ⟨hk.1.1, ⟨hk.1.2.1, ⟨hk.2, hk.1.2.2⟩⟩⟩)⟩, ⟨zR HO569.1⟩, ⟨zB44⟩, ⟨zB46⟩, ⟨zB45⟩⟩
   rw [if_pos c8] at H
   have c8b0 := decide_eq_true c8
   clear c8
   replace H := zO H
   obtain ⟨⟨t535, t538, t539, t540, t541⟩, A9, H⟩ := H
   try dsimp only at H
   replace H := zO H
   obtain ⟨t543, A10, H⟩ := H
   by_cases c11 : t543 = true
   ·subst c11
    rw [if_pos rfl] at H
    replace H := zIn H
    obtain ⟨LMc12, H⟩ := H
    generalize hy544 : ((x8_1 ++ [(⟨t535, t538, t539⟩ : S29)]) : List (S29)) = y544 at H
    have Ny544 := zM hy544.symm
    clear hy544
    have H' := zM H
    clear H
    go_wp2_with (first | ((with_reducible refine zG Try.func67 18 #[.pointer (some ⟨g, 0, none⟩), .int .i64 3] ?_); (with_reducible refine (spec_l1Below.calls g s0_0 x1001_1 x1002_1 3 t532 t533 t534 w0 _ ?side1 ?side2 A7.1).mono ?_); (case side1 => exact zB44); (case side2 => exact zB45); rintro e w13 ⟨rfl, hi, hb, hk⟩; refine ⟨_, rfl, ?_⟩; replace HO_7 := zM (Kd.R_mono (Kd.R_keep (IsS102.apart (show IsS102 w0 _ g s0_0 x1001_1 x1002_1 from zB44) (zR HO_7.1) (by decide)) hk (fun _ h => h.2)) (fun _ h => h.1)); replace HO_8 := zM (Kd.N_mono (Kd.N_keep (Kd.N_mono (ok := fun k_ => (((w.heap.size ≤ k_)) ∧ (some k_ ≠ (v525 : Value).ownBlock ∧ k_ ≠ g))) (by refine zrN ?_; exact HO_8.1) (fun k_ hk_ => (⟨hk_, hk_.2.2⟩ : _ ∧ k_ ≠ g))) hk (fun _ h => h.2)) (fun _ h => h.1)); replace HK := zM (KeepBut.trans zB46 hk (.inl rfl)); replace HB := zM hb; replace HI0 := zM hi; clear hb hk hi) | ((with_reducible refine zG Try.func85 24 #[.pointer (some ⟨g, 0, none⟩)] ?_); (with_reducible refine (spec_l9DrawHart.calls k1 g s0_0 t533 t534 t535 t538 t539 t540 t541 w0 _ ?side1 ?side2 A9.1).mono ?_); (case side1 => exact zB44); (case side2 => exact zB45); rintro e w14 ⟨v536, rfl, ho0, hi, hb, hk⟩; refine ⟨_, rfl, ?_⟩; replace HO_8 := zM (Kd.N_mono (Kd.N_told (Kd.N_oldK (Kd.N_mono (ok := fun k_ => (((w.heap.size ≤ k_)) ∧ (some k_ ≠ (v525 : Value).ownBlock ∧ k_ ≠ g))) (by refine zrN ?_; exact HO_8.1) (fun k_ hk_ => (⟨hk_, hk_.2.2⟩ : _ ∧ k_ ≠ g))) hk) (Kd.Q_base ho0)) (fun _ h_ => h_.1)); have HO537 := zM (Kd.Q_lower (Kd.Q_new' (Kd.Q_newM (M := fun k_ => (w.heap.size ≤ k_)) ho0 (keep_size (w := w) (g := g) (row := none) zB46) (fun k_ h_ => h_)) (Kd.R_lt (zR HO_7.1))) (keep_size (w := w) (g := g) (row := none) zB46)); replace HO_7 := zM (Kd.R_mono (Kd.R_told (Kd.R_oldK (IsS102.apart (show IsS102 w0 _ g s0_0 t533 t534 from zB44) (zR HO_7.1) (by decide)) hk) (Kd.Q_base ho0)) (fun _ h_ => h_.1)); replace HK := zM (KeepBut.trans zB46 hk (.inl rfl)); replace HB := zM hb; replace HI0 := zM hi; clear hb hk hi ho0) | ((with_reducible refine zBx 10 29 #[.slice none 0 0, .int .i64 0, .int .i64 0] ?_); intro gb542 hg w15 hbox hb; replace HO_7 := zM (Kd.R_below (zR HO_7.1) hb); replace HO_8 := zM (Kd.N_below (Kd.N_elderB (by refine zrN ?_; exact HO_8.1) gb542 (Nat.le_of_eq hg.symm)) hb); replace HO537 := zM (Kd.Q_below (zQ HO537.1) hb); replace HB := zM (below_step zB45 hb); have BK542 := zM hbox; have GW542 := zM ((by rw [hg]; exact (keep_size (w := w) (g := g) (row := none) zB46) : w.heap.size ≤ gb542)); have GE542 := zM ((Nat.le_trans HW0.1 (by rw [hg]; exact (keep_size (w := w) (g := g) (row := none) zB46) : w.heap.size ≤ gb542) : w0.heap.size ≤ gb542)); replace HK := zM (KeepBut.trans zB46 (KeepBut.of_below hb g none) (.inl rfl)); have NB0_542 := zM ((by rw [hg]; exact Nat.ne_of_lt (IsS102.lt (show IsS102 w0 _ g s0_0 t540 t541 from zB44)) : g ≠ gb542)); have NB542_0 := zM ((by rw [hg]; exact Nat.ne_of_gt (IsS102.lt (show IsS102 w0 _ g s0_0 t540 t541 from zB44)) : gb542 ≠ g)); replace HI0 := zM (IsS102.below zB44 hb); clear hb hbox hg; obtain ⟨Ao16, co16, eo16, _⟩ := Kd.Q_slice HO537.1; subst eo16; have hnb17 := NB542_0.1; have hnc17 := NB0_542.1; have hcz18 := zc_3 (w := w15) BK542.1) | ((with_reducible refine zG Try.func52 26 #[.agg #[.slice Ao16 t535.length co16, .int .i64 t538, .int .i64 t539]] ?_); (with_reducible refine (spec_HartOk.calls k1 _ _ t535 t538 t539 true _ ?side1 ?side2 A10.1).mono ?_); (case side1 => refine (Kd.Q_reads' (e := 3) (base := w.heap.size) (ok := fun k_ => (((w.heap.size ≤ k_) ∧ True) ∧ some k_ ≠ (v525 : Value).ownBlock)) (n := t535.length) (c := co16) ?_).2.2; exact (by refine zrQ ?_; exact (Kd.Q_mono (zfQ (zfQ (zfQ (Kd.Q_types HO537.1 BK542.1 (by decide))))) (fun _ h_ => h_.1)))); (case side2 => exact (Kd.Q_reads' HO537.1).2.1); rintro e w19 ⟨rfl, hb⟩; refine ⟨_, rfl, ?_⟩; replace HO_7 := zM (Kd.R_below (by refine zrR ?_; exact (Kd.R_mono (zfR (zfR (zfR (Kd.R_types HO_7.1 BK542.1 (by decide))))) (fun _ h_ => h_.1))) hb); replace HO_8 := zM (Kd.N_below (by refine zrN ?_; exact (Kd.N_mono (zfN (zfN (zfN (Kd.N_mono HO_8.1 (fun k_ hk => (⟨hk, hk.2⟩ : _ ∧ k_ ≠ gb542)))))) (fun _ h_ => h_.1))) hb); replace HO537 := zM (Kd.Q_below (by refine zrQ ?_; exact (Kd.Q_mono (zfQ (zfQ (zfQ (Kd.Q_types HO537.1 BK542.1 (by decide))))) (fun _ h_ => h_.1))) hb); replace BK542 := zM (blk_below (g := gb542) (o := .cells #[.slice Ao16 t535.length co16, .int .i64 t538, .int .i64 t539] 29 (0, 0)) (by exact zp3 (zK BK542.1)) hb); replace HK := zM (KeepBut.trans zB46 (KeepBut.of_below hb g none) (.inl rfl)); replace HB := zM (below_step zB45 hb); replace HI0 := zM (IsS102.below (show IsS102 w0 (((w15.setCell ⟨gb542, 0, none⟩ (.slice Ao16 t535.length co16)).setCell ⟨gb542, 1, none⟩ (.int .i64 t538)).setCell ⟨gb542, 2, none⟩ (.int .i64 t539)) g s0_0 t540 t541 from zB67) hb); clear hb; have hcz20 := zc_3 (w := w19) BK542.1) | ((with_reducible refine gate_builtin (b := .append) (xs := #[.tmp 31, .tmp 33]) rfl ?_); at_builtin; refine Kd.N_append k29 w.heap.size rfl (.tmp 31) (.tmp 33) 30 29 (.agg #[(.slice none 0 0), (.int .i64 0), (.int .i64 0)]) 40 rfl Try.underlying30 info29 rfl (by decide) (by omega) u8 x8_1 (⟨t535, t538, t539⟩ : S29) [.slice Ao16 t535.length co16, .int .i64 t538, .int .i64 t539] (fun k_ => (w.heap.size ≤ k_) ∧ some k_ ≠ (v525 : Value).ownBlock ∧ k_ ≠ gb542 ∧ k_ ≠ g) (fun k_ => ((fun k_ => (w.heap.size ≤ k_) ∧ some k_ ≠ (v525 : Value).ownBlock ∧ k_ ≠ gb542 ∧ k_ ≠ g)) k_ ∧ some k_ ≠ (u8 : Value).ownBlock) rfl rfl ?aP (fun _ hk => hk) ?aF ?aO (Below.refl _ _) ?aS ?aL ?_; (case aP => exact (k29_mkF _ _ (⟨t535, t538, t539⟩ : S29) (Kd.Q_reads' (Kd.Q_mono (ok' := (fun k_ => ((fun k_ => (w.heap.size ≤ k_) ∧ some k_ ≠ (v525 : Value).ownBlock ∧ k_ ≠ gb542 ∧ k_ ≠ g)) k_ ∧ some k_ ≠ (u8 : Value).ownBlock)) (IsS102.apartQ HI0.1 (Kd.Q_types (Kd.Q_apart' (HO537.1) (Kd.N_typed HO_8.1) (by decide)) BK542.1 (by decide)) (by decide)) (fun k_ hk => ⟨⟨hk.1.1.1.1.1, ⟨hk.1.1.1.2, ⟨hk.1.2, hk.2⟩⟩⟩, hk.1.1.2⟩))).2.1 (Kd.Q_F (Kd.Q_mono (ok' := (fun k_ => ((fun k_ => (w.heap.size ≤ k_) ∧ some k_ ≠ (v525 : Value).ownBlock ∧ k_ ≠ gb542 ∧ k_ ≠ g)) k_ ∧ some k_ ≠ (u8 : Value).ownBlock)) (IsS102.apartQ HI0.1 (Kd.Q_types (Kd.Q_apart' (HO537.1) (Kd.N_typed HO_8.1) (by decide)) BK542.1 (by decide)) (by decide)) (fun k_ hk => ⟨⟨hk.1.1.1.1.1, ⟨hk.1.1.1.2, ⟨hk.1.2, hk.2⟩⟩⟩, hk.1.1.2⟩))))); (case aF => exact (fun k_ hk => ⟨(Nat.le_trans (keep_size (w := w) (g := g) (row := none) zB46) hk), Kd.fresh' (Kd.R_lt (zR HO_7.1)) k_ hk, Kd.freshB (g := gb542) (o := .cells #[.slice Ao16 t535.length co16, .int .i64 t538, .int .i64 t539] 29 (0, 0)) (zK BK542.1) k_ hk, IsS102.fresh zB67 k_ hk⟩)); (case aO => exact (by refine zrN ?_; exact Kd.N_mono HO_8.1 (fun _ hk => ⟨hk.1.1.1, ⟨hk.1.1.2.1, ⟨hk.2, hk.1.1.2.2⟩⟩⟩))); (case aS => exact (keep_size (w := w) (g := g) (row := none) zB46)); (case aL => have := LMc12.out; omega); intro v545 w21 ho hb hg hat; rw [← Ny544.1] at ho; replace HO_7 := zM (Kd.R_over' (zR HO_7.1) (Kd.N_typed (by refine zrN ?_; exact HO_8.1)) (by decide) hg); replace BK542 := zM (zg BK542.1 hg (Kd.N_away HO_8.1 (fun _ hk => hk.2))); replace HB := zM (below_weaken zB45 HL.1 hb); replace HI0 := zM (IsS102.grown (show IsS102 w0 _ g s0_0 t540 t541 from zB67) hg (IsS102.own_neN HI0.1 HO_8.1 (by decide))); replace HK := zM (KeepBut.trans zB46 (KeepBut.of_grown hg g) (Kd.N_base2 HO_8.1)); have HO546 := zM ho; clear HO_8 HO537; clear ho hb hg hat))
    go_roundg k1
    case measure => have := HK1.1; omega
    case rel => exact ⟨(y544), (wrap64 (x9_1 + 1)), (t540), (t541), zJJ, H', ⟨by have := HK1.1; omega⟩, ⟨by refine zrR ?_; exact Kd.R_mono HO_7.1 (fun _ hk => hk.1)⟩, ⟨by refine zrN ?_; exact Kd.N_mono HO546.1 (fun _ hk => ⟨hk.1, ⟨hk.2.1, hk.2.2.2⟩⟩)⟩, ⟨zB67⟩, ⟨zB46⟩, ⟨zB45⟩⟩
   replace c11 := Bool.eq_false_iff.mpr c11
   subst c11
   rw [if_neg zF] at H
   replace H := zO H
   obtain ⟨⟨t547, t548, t549⟩, A22, H⟩ := H
   try dsimp only at H
   replace H := zO H
   obtain ⟨⟨t550, t553, t554⟩, A23, H⟩ := H
   try dsimp only at H
   replace H := zIn H
   obtain ⟨LMc24, H⟩ := H
   generalize hy555 : ((x8_1 ++ [(⟨t550, t553, t554⟩ : S29)]) : List (S29)) = y555 at H
   have Ny555 := zM hy555.symm
   clear hy555
   have H' := zM H
   clear H
   go_wp2_with (first | ((with_reducible refine zG Try.func67 18 #[.pointer (some ⟨g, 0, none⟩), .int .i64 3] ?_); (with_reducible refine (spec_l1Below.calls g s0_0 x1001_1 x1002_1 3 t532 t533 t534 w0 _ ?side1 ?side2 A7.1).mono ?_); (case side1 => exact zB44); (case side2 => exact zB45); rintro e w25 ⟨rfl, hi, hb, hk⟩; refine ⟨_, rfl, ?_⟩; replace HO_7 := zM (Kd.R_mono (Kd.R_keep (IsS102.apart (show IsS102 w0 _ g s0_0 x1001_1 x1002_1 from zB44) (zR HO_7.1) (by decide)) hk (fun _ h => h.2)) (fun _ h => h.1)); replace HO_8 := zM (Kd.N_mono (Kd.N_keep (Kd.N_mono (ok := fun k_ => (((w.heap.size ≤ k_)) ∧ (some k_ ≠ (v525 : Value).ownBlock ∧ k_ ≠ g))) (by refine zrN ?_; exact HO_8.1) (fun k_ hk_ => (⟨hk_, hk_.2.2⟩ : _ ∧ k_ ≠ g))) hk (fun _ h => h.2)) (fun _ h => h.1)); replace HK := zM (KeepBut.trans zB46 hk (.inl rfl)); replace HB := zM hb; replace HI0 := zM hi; clear hb hk hi) | ((with_reducible refine zG Try.func85 24 #[.pointer (some ⟨g, 0, none⟩)] ?_); (with_reducible refine (spec_l9DrawHart.calls k1 g s0_0 t533 t534 t535 t538 t539 t540 t541 w0 _ ?side1 ?side2 A9.1).mono ?_); (case side1 => exact zB44); (case side2 => exact zB45); rintro e w26 ⟨v536, rfl, ho0, hi, hb, hk⟩; refine ⟨_, rfl, ?_⟩; replace HO_8 := zM (Kd.N_mono (Kd.N_told (Kd.N_oldK (Kd.N_mono (ok := fun k_ => (((w.heap.size ≤ k_)) ∧ (some k_ ≠ (v525 : Value).ownBlock ∧ k_ ≠ g))) (by refine zrN ?_; exact HO_8.1) (fun k_ hk_ => (⟨hk_, hk_.2.2⟩ : _ ∧ k_ ≠ g))) hk) (Kd.Q_base ho0)) (fun _ h_ => h_.1)); have HO537 := zM (Kd.Q_lower (Kd.Q_new' (Kd.Q_newM (M := fun k_ => (w.heap.size ≤ k_)) ho0 (keep_size (w := w) (g := g) (row := none) zB46) (fun k_ h_ => h_)) (Kd.R_lt (zR HO_7.1))) (keep_size (w := w) (g := g) (row := none) zB46)); replace HO_7 := zM (Kd.R_mono (Kd.R_told (Kd.R_oldK (IsS102.apart (show IsS102 w0 _ g s0_0 t533 t534 from zB44) (zR HO_7.1) (by decide)) hk) (Kd.Q_base ho0)) (fun _ h_ => h_.1)); replace HK := zM (KeepBut.trans zB46 hk (.inl rfl)); replace HB := zM hb; replace HI0 := zM hi; clear hb hk hi ho0) | ((with_reducible refine zBx 10 29 #[.slice none 0 0, .int .i64 0, .int .i64 0] ?_); intro gb542 hg w27 hbox hb; replace HO_7 := zM (Kd.R_below (zR HO_7.1) hb); replace HO_8 := zM (Kd.N_below (Kd.N_elderB (by refine zrN ?_; exact HO_8.1) gb542 (Nat.le_of_eq hg.symm)) hb); replace HO537 := zM (Kd.Q_below (zQ HO537.1) hb); replace HB := zM (below_step zB45 hb); have BK542 := zM hbox; have GW542 := zM ((by rw [hg]; exact (keep_size (w := w) (g := g) (row := none) zB46) : w.heap.size ≤ gb542)); have GE542 := zM ((Nat.le_trans HW0.1 (by rw [hg]; exact (keep_size (w := w) (g := g) (row := none) zB46) : w.heap.size ≤ gb542) : w0.heap.size ≤ gb542)); replace HK := zM (KeepBut.trans zB46 (KeepBut.of_below hb g none) (.inl rfl)); have NB0_542 := zM ((by rw [hg]; exact Nat.ne_of_lt (IsS102.lt (show IsS102 w0 _ g s0_0 t540 t541 from zB44)) : g ≠ gb542)); have NB542_0 := zM ((by rw [hg]; exact Nat.ne_of_gt (IsS102.lt (show IsS102 w0 _ g s0_0 t540 t541 from zB44)) : gb542 ≠ g)); replace HI0 := zM (IsS102.below zB44 hb); clear hb hbox hg; obtain ⟨Ao28, co28, eo28, _⟩ := Kd.Q_slice HO537.1; subst eo28; have hnb29 := NB542_0.1; have hnc29 := NB0_542.1; have hcz30 := zc_3 (w := w27) BK542.1) | ((with_reducible refine zG Try.func52 26 #[.agg #[.slice Ao28 t535.length co28, .int .i64 t538, .int .i64 t539]] ?_); (with_reducible refine (spec_HartOk.calls k1 _ _ t535 t538 t539 false _ ?side1 ?side2 A10.1).mono ?_); (case side1 => refine (Kd.Q_reads' (e := 3) (base := w.heap.size) (ok := fun k_ => (((w.heap.size ≤ k_) ∧ True) ∧ some k_ ≠ (v525 : Value).ownBlock)) (n := t535.length) (c := co28) ?_).2.2; exact (by refine zrQ ?_; exact (Kd.Q_mono (zfQ (zfQ (zfQ (Kd.Q_types HO537.1 BK542.1 (by decide))))) (fun _ h_ => h_.1)))); (case side2 => exact (Kd.Q_reads' HO537.1).2.1); rintro e w31 ⟨rfl, hb⟩; refine ⟨_, rfl, ?_⟩; replace HO_7 := zM (Kd.R_below (by refine zrR ?_; exact (Kd.R_mono (zfR (zfR (zfR (Kd.R_types HO_7.1 BK542.1 (by decide))))) (fun _ h_ => h_.1))) hb); replace HO_8 := zM (Kd.N_below (by refine zrN ?_; exact (Kd.N_mono (zfN (zfN (zfN (Kd.N_mono HO_8.1 (fun k_ hk => (⟨hk, hk.2⟩ : _ ∧ k_ ≠ gb542)))))) (fun _ h_ => h_.1))) hb); replace HO537 := zM (Kd.Q_below (by refine zrQ ?_; exact (Kd.Q_mono (zfQ (zfQ (zfQ (Kd.Q_types HO537.1 BK542.1 (by decide))))) (fun _ h_ => h_.1))) hb); replace BK542 := zM (blk_below (g := gb542) (o := .cells #[.slice Ao28 t535.length co28, .int .i64 t538, .int .i64 t539] 29 (0, 0)) (by exact zp3 (zK BK542.1)) hb); replace HK := zM (KeepBut.trans zB46 (KeepBut.of_below hb g none) (.inl rfl)); replace HB := zM (below_step zB45 hb); replace HI0 := zM (IsS102.below (show IsS102 w0 (((w27.setCell ⟨gb542, 0, none⟩ (.slice Ao28 t535.length co28)).setCell ⟨gb542, 1, none⟩ (.int .i64 t538)).setCell ⟨gb542, 2, none⟩ (.int .i64 t539)) g s0_0 t540 t541 from zB67) hb); clear hb) | ((with_reducible refine zG Try.func67 29 #[.pointer (some ⟨g, 0, none⟩), .int .i64 20] ?_); (with_reducible refine (spec_l1Below.calls g s0_0 t540 t541 20 t547 t548 t549 w0 _ ?side1 ?side2 A22.1).mono ?_); (case side1 => exact zB67); (case side2 => exact zB45); rintro e w32 ⟨rfl, hi, hb, hk⟩; refine ⟨_, rfl, ?_⟩; replace HO_7 := zM (Kd.R_mono (Kd.R_keep (IsS102.apart (show IsS102 w0 _ g s0_0 t540 t541 from zB67) (zR HO_7.1) (by decide)) hk (fun _ h => h.2)) (fun _ h => h.1)); replace HO_8 := zM (Kd.N_mono (Kd.N_keep (Kd.N_mono (ok := fun k_ => (((((w.heap.size ≤ k_)) ∧ (some k_ ≠ (v525 : Value).ownBlock ∧ k_ ≠ g)) ∧ some k_ ≠ (.slice Ao28 t535.length co28 : Value).ownBlock) ∧ k_ ≠ gb542)) (by refine zrN ?_; exact HO_8.1) (fun k_ hk_ => (⟨hk_, hk_.1.1.2.2⟩ : _ ∧ k_ ≠ g))) hk (fun _ h => h.2)) (fun _ h => h.1)); replace HO537 := zM (Kd.Q_mono (Kd.Q_keep (IsS102.apartQ (show IsS102 w0 _ g s0_0 t540 t541 from zB67) (zQ HO537.1) (by decide)) hk (fun _ h => h.2)) (fun _ h => h.1)); replace BK542 := zM (zh hk BK542.1 NB542_0.1); replace HK := zM (KeepBut.trans zB46 hk (.inl rfl)); replace HB := zM hb; replace HI0 := zM hi; clear hb hk hi) | ((with_reducible refine zG Try.func112 30 #[.int .i64 t547] ?_); (with_reducible refine (spec_HartNew.calls t547 t550 t553 t554 _ A23.1).mono ?_); rintro e w33 ⟨v551, rfl, ho0, hb⟩; refine ⟨_, rfl, ?_⟩; replace HO_8 := zM (Kd.N_elder' (by refine zrN ?_; exact HO_8.1) (Kd.R_base ho0) hb); have HO552 := zM (Kd.R_lower (Kd.R_new' (Kd.R_new' (Kd.R_newM (M := fun k_ => (w.heap.size ≤ k_)) ho0 (keep_size (w := w) (g := g) (row := none) zB46) (fun k_ h_ => h_)) (Kd.R_lt (zR HO_7.1))) (Kd.Q_lt (zQ HO537.1))) (keep_size (w := w) (g := g) (row := none) zB46)); replace HO_7 := zM (Kd.R_elder' (zR HO_7.1) (Kd.R_base ho0) hb); replace HO537 := zM (Kd.Q_elder' (zQ HO537.1) (Kd.R_base ho0) hb); replace BK542 := zM (zb BK542.1 hb); replace HK := zM (KeepBut.trans zB46 (KeepBut.of_below hb g none) (.inl rfl)); replace HB := zM (below_step zB45 hb); replace HI0 := zM (IsS102.below zB67 hb); clear hb ho0; obtain ⟨Ao34, co34, eo34⟩ := Kd.R_slice HO552.1; subst eo34; have hcz35 := zc_3 (w := w33) BK542.1) | ((with_reducible refine gate_store (t := 29) (p := 10) rfl ?_); refine store_event (t := 29) (p := 10) (v := ?vo_w36) (w1 := (((w33.setCell ⟨gb542, 0, none⟩ (.slice Ao34 t550.length co34)).setCell ⟨gb542, 1, none⟩ (.int .i64 t553)).setCell ⟨gb542, 2, none⟩ (.int .i64 t554))) ?hg ?ho ?hn ?hr ?_; (case ho => rfl); (case hg => rfl); (case hn => rfl); (case hr => exact zHH); intro w36 hw; have n0_ : Aside0 (Kd.R (Kd.int .i64) 3 w36 w.heap.size (fun k_ => (w.heap.size ≤ k_) ∧ some k_ ≠ (.slice Ao28 t535.length co28 : Value).ownBlock ∧ some k_ ≠ (.slice Ao34 t550.length co34 : Value).ownBlock) v525 t524) := ⟨(by rw [hw]; exact (by refine zrR ?_; exact Kd.R_mono (zfR (zfR (zfR (Kd.R_types HO_7.1 BK542.1 (by decide))))) (fun _ hk => ⟨hk.1.1.1, ⟨hk.1.1.2, hk.1.2⟩⟩)))⟩; have n1_ : Aside0 (Kd.N k29 29 w36 w.heap.size (fun k_ => (w.heap.size ≤ k_) ∧ some k_ ≠ (v525 : Value).ownBlock ∧ some k_ ≠ (.slice Ao28 t535.length co28 : Value).ownBlock ∧ some k_ ≠ (.slice Ao34 t550.length co34 : Value).ownBlock ∧ k_ ≠ g ∧ k_ ≠ gb542) u8 x8_1) := ⟨(by rw [hw]; exact (by refine zrN ?_; exact Kd.N_mono (zfN (zfN (zfN (Kd.N_mono HO_8.1 (fun k_ hk => (⟨hk, hk.1.2⟩ : _ ∧ k_ ≠ gb542)))))) (fun _ hk => ⟨hk.1.1.1.1.1, ⟨hk.1.1.1.1.2.1, ⟨hk.1.1.1.2, ⟨hk.1.2, ⟨hk.1.1.1.1.2.2, hk.1.1.2⟩⟩⟩⟩⟩)))⟩; have n2_ : Aside0 (Kd.Q (Kd.int .i64) 3 w36 w.heap.size (fun k_ => (w.heap.size ≤ k_) ∧ some k_ ≠ (v525 : Value).ownBlock ∧ some k_ ≠ (.slice Ao34 t550.length co34 : Value).ownBlock) (.slice Ao28 t535.length co28) t535) := ⟨(by rw [hw]; exact (by refine zrQ ?_; exact Kd.Q_mono (zfQ (zfQ (zfQ (Kd.Q_types HO537.1 BK542.1 (by decide))))) (fun _ hk => ⟨hk.1.1.1.1, ⟨hk.1.1.2, hk.1.2⟩⟩)))⟩; have n3_ : Aside0 (Kd.R (Kd.int .i64) 3 w36 w.heap.size (fun k_ => (w.heap.size ≤ k_) ∧ some k_ ≠ (v525 : Value).ownBlock ∧ some k_ ≠ (.slice Ao28 t535.length co28 : Value).ownBlock) (.slice Ao34 t550.length co34) t550) := ⟨(by rw [hw]; exact (by refine zrR ?_; exact Kd.R_mono (zfR (zfR (zfR (Kd.R_types HO552.1 BK542.1 (by decide))))) (fun _ hk => ⟨hk.1.1.1.1, ⟨hk.1.1.2, hk.1.2⟩⟩)))⟩; have n4_ : Aside0 (w36.heap[gb542]? = some (.cells #[.slice Ao34 t550.length co34, .int .i64 t553, .int .i64 t554] 29 (0, 0))) := ⟨(by rw [hw]; exact (by exact zp3 (zK BK542.1)))⟩; have n5_ : Aside0 (IsS102 w0 w36 g s0_0 t548 t549) := ⟨(by rw [hw]; exact zB67)⟩; have n6_ : Aside0 (KeepBut w w36 g none) := ⟨(by rw [hw]; exact zB46)⟩; have n7_ : Aside0 (Below w0.heap.size w0 w36) := ⟨(by rw [hw]; exact zB45)⟩; clear hw; clear HO_7; clear HO_8; clear HO537; clear HO552; clear BK542; clear HI0; clear HK; clear HB; have HO_7 := n0_; have HO_8 := n1_; have HO537 := n2_; have HO552 := n3_; have BK542 := n4_; have HI0 := n5_; have HK := n6_; have HB := n7_; clear n0_ n1_ n2_ n3_ n4_ n5_ n6_ n7_; have hcz37 := zc_3 (w := w36) BK542.1) | ((with_reducible refine gate_builtin (b := .append) (xs := #[.tmp 31, .tmp 33]) rfl ?_); at_builtin; refine Kd.N_append k29 w.heap.size rfl (.tmp 31) (.tmp 33) 30 29 (.agg #[(.slice none 0 0), (.int .i64 0), (.int .i64 0)]) 40 rfl Try.underlying30 info29 rfl (by decide) (by omega) u8 x8_1 (⟨t550, t553, t554⟩ : S29) [.slice Ao34 t550.length co34, .int .i64 t553, .int .i64 t554] (fun k_ => (w.heap.size ≤ k_) ∧ some k_ ≠ (v525 : Value).ownBlock ∧ some k_ ≠ (.slice Ao28 t535.length co28 : Value).ownBlock ∧ k_ ≠ gb542 ∧ k_ ≠ g) (fun k_ => ((fun k_ => (w.heap.size ≤ k_) ∧ some k_ ≠ (v525 : Value).ownBlock ∧ some k_ ≠ (.slice Ao28 t535.length co28 : Value).ownBlock ∧ k_ ≠ gb542 ∧ k_ ≠ g)) k_ ∧ some k_ ≠ (u8 : Value).ownBlock) rfl rfl ?aP (fun _ hk => hk) ?aF ?aO (Below.refl _ _) ?aS ?aL ?_; (case aP => exact (k29_mkF _ _ (⟨t550, t553, t554⟩ : S29) (Kd.R_reads' (Kd.R_mono (ok' := (fun k_ => ((fun k_ => (w.heap.size ≤ k_) ∧ some k_ ≠ (v525 : Value).ownBlock ∧ some k_ ≠ (.slice Ao28 t535.length co28 : Value).ownBlock ∧ k_ ≠ gb542 ∧ k_ ≠ g)) k_ ∧ some k_ ≠ (u8 : Value).ownBlock)) (IsS102.apart HI0.1 (Kd.R_types (Kd.R_apart' (HO552.1) (Kd.N_typed HO_8.1) (by decide)) BK542.1 (by decide)) (by decide)) (fun k_ hk => ⟨⟨hk.1.1.1.1, ⟨hk.1.1.1.2.1, ⟨hk.1.1.1.2.2, ⟨hk.1.2, hk.2⟩⟩⟩⟩, hk.1.1.2⟩))).2.1 (Kd.R_F (Kd.R_mono (ok' := (fun k_ => ((fun k_ => (w.heap.size ≤ k_) ∧ some k_ ≠ (v525 : Value).ownBlock ∧ some k_ ≠ (.slice Ao28 t535.length co28 : Value).ownBlock ∧ k_ ≠ gb542 ∧ k_ ≠ g)) k_ ∧ some k_ ≠ (u8 : Value).ownBlock)) (IsS102.apart HI0.1 (Kd.R_types (Kd.R_apart' (HO552.1) (Kd.N_typed HO_8.1) (by decide)) BK542.1 (by decide)) (by decide)) (fun k_ hk => ⟨⟨hk.1.1.1.1, ⟨hk.1.1.1.2.1, ⟨hk.1.1.1.2.2, ⟨hk.1.2, hk.2⟩⟩⟩⟩, hk.1.1.2⟩))))); (case aF => exact (fun k_ hk => ⟨(Nat.le_trans (keep_size (w := w) (g := g) (row := none) zB46) hk), Kd.fresh' (Kd.R_lt (zR HO_7.1)) k_ hk, Kd.fresh' (Kd.Q_lt (zQ HO537.1)) k_ hk, Kd.freshB (g := gb542) (o := .cells #[.slice Ao34 t550.length co34, .int .i64 t553, .int .i64 t554] 29 (0, 0)) (zK BK542.1) k_ hk, IsS102.fresh zB67 k_ hk⟩)); (case aO => exact (by refine zrN ?_; exact Kd.N_mono HO_8.1 (fun _ hk => ⟨hk.1, ⟨hk.2.1, ⟨hk.2.2.1, ⟨hk.2.2.2.2.2, hk.2.2.2.2.1⟩⟩⟩⟩))); (case aS => exact (keep_size (w := w) (g := g) (row := none) zB46)); (case aL => have := LMc24.out; omega); intro v556 w38 ho hb hg hat; rw [← Ny555.1] at ho; replace HO_7 := zM (Kd.R_over' (zR HO_7.1) (Kd.N_typed (by refine zrN ?_; exact HO_8.1)) (by decide) hg); replace HO537 := zM (Kd.Q_over' (zQ HO537.1) (Kd.N_typed (by refine zrN ?_; exact HO_8.1)) (by decide) hg); replace BK542 := zM (zg BK542.1 hg (Kd.N_away HO_8.1 (fun _ hk => hk.2.2.2.2.2))); replace HB := zM (below_weaken zB45 HL.1 hb); replace HI0 := zM (IsS102.grown (show IsS102 w0 _ g s0_0 t548 t549 from zB67) hg (IsS102.own_neN HI0.1 HO_8.1 (by decide))); replace HK := zM (KeepBut.trans zB46 (KeepBut.of_grown hg g) (Kd.N_base2 HO_8.1)); have HO557 := zM ho; clear HO_8 HO552; clear ho hb hg hat))
   go_roundg k1
   case measure => have := HK1.1; omega
   case rel => exact ⟨(y555), (wrap64 (x9_1 + 1)), (t548), (t549), zJJ, H', ⟨by have := HK1.1; omega⟩, ⟨by refine zrR ?_; exact Kd.R_mono HO_7.1 (fun _ hk => hk.1)⟩, ⟨by refine zrN ?_; exact Kd.N_mono HO557.1 (fun _ hk => ⟨hk.1, ⟨hk.2.1, hk.2.2.2.2⟩⟩)⟩, ⟨zB67⟩, ⟨zB46⟩, ⟨zB45⟩⟩

/-! ### spec_l29Draw: function 61 -/
def spec_l29Draw.f (k : Nat) (s0_0 : List Int) (s0_1 : Int) (s0_2 : Int) : Option (List Int × (List (S29)) × Int × Int × Int) := (spec_l18DrawRun.f k s0_0 s0_1 s0_2 2).bind fun bt570 => ((spec_l1Once.f s0_0 bt570.2.2.2.1 bt570.2.2.2.2 8).bind fun bt581 => (if bt581.1 = true then ((spec_l9DrawHart.f k s0_0 bt581.2.1 bt581.2.2).bind fun bt584 => (if bt570.2.1.length < 3518437208883 then ((spec_l1PickInt.f s0_0 bt584.2.2.2.1 bt584.2.2.2.2 (([0, 1, 2, 3, 4, 5, 13, (-1)] : List Int))).bind fun bt597 => (some (bt570.1, (bt570.2.1 ++ [(⟨bt584.1, bt584.2.1, bt584.2.2.1⟩ : S29)]), bt597.1, bt597.2.1, bt597.2.2))) else (none))) else ((spec_l1PickInt.f s0_0 bt581.2.1 bt581.2.2 (([0, 1, 2, 3, 4, 5, 13, (-1)] : List Int))).bind fun bt603 => (some (bt570.1, bt570.2.1, bt603.1, bt603.2.1, bt603.2.2)))))
theorem spec_l29Draw.mono : ∀ a0 a1 a2 k, LeO (spec_l29Draw.f k a0 a1 a2) (spec_l29Draw.f (k + 1) a0 a1 a2) := by
 intro a0 a1 a2 k
 unfold spec_l29Draw.f
 have mo0 := @spec_l18DrawRun.mono
 have mo1 := @spec_l9DrawHart.mono
 exact zL
theorem spec_l29Draw.calls (k : Nat) (g : Nat) (s0_0 : List Int) (s0_1 : Int) (s0_2 : Int) (r1 : List Int) (r2 : List (S29)) (r3 : Int) (r4 : Int) (r5 : Int) (w0 w : World) (hI : IsS102 w0 w g s0_0 s0_1 s0_2) (hB : Below w0.heap.size w0 w) (h : spec_l29Draw.f k s0_0 s0_1 s0_2 = some (r1, r2, r3, r4, r5)) :
  Calls Try.prog 61 #[.pointer (some ⟨g, 0, none⟩)] w fun e w' => ∃ v0_ v1_ : Value, e = .returned (.tuple #[v0_, v1_, .int .i64 r3]) ∧ Kd.R (Kd.int .i64) 3 w' w.heap.size (fun k_ => (w.heap.size ≤ k_)) v0_ r1 ∧ Kd.N k29 29 w' w.heap.size (fun k_ => (w.heap.size ≤ k_) ∧ some k_ ≠ (v0_ : Value).ownBlock) v1_ r2 ∧ IsS102 w0 w' g s0_0 r4 r5 ∧ Below w0.heap.size w0 w' ∧ KeepBut w w' g none := by
 have HI0 := zM hI
 have HK := zM (KeepBut.refl w g none)
 have HL := zM hB.size
 clear hI
 have HW0 := zM hB.size
 have HB := zM hB
 clear hB
 unfold spec_l29Draw.f at h
 have H := h
 clear h
 replace H := zO H
 obtain ⟨⟨t570, t573, t576, t579, t580⟩, A2, H⟩ := H
 try dsimp only at H
 replace H := zO H
 obtain ⟨⟨t581, t582, t583⟩, A3, H⟩ := H
 try dsimp only at H
 by_cases c4 : t581 = true
 rotate_left
 ·replace c4 := Bool.eq_false_iff.mpr c4
  subst c4
  rw [if_neg zF] at H
  generalize hy600 : ((([0, 1, 2, 3, 4, 5, 13, (-1)] : List Int)) : List Int) = y600 at H
  have Ny600 := zM hy600.symm
  clear hy600
  replace H := zO H
  obtain ⟨⟨t603, t604, t605⟩, A17, H⟩ := H
  try dsimp only at H
  simp only [Option.some.injEq, Prod.mk.injEq] at H
  obtain ⟨rfl, rfl, rfl, rfl, rfl⟩ := H
  go_enter Try.func61, Try.ntmps61
  go_wp2_with (first | ((with_reducible refine zG Try.func84 10 #[.pointer (some ⟨g, 0, none⟩), .int .i64 2] ?_); (with_reducible refine (spec_l18DrawRun.calls k g s0_0 s0_1 s0_2 2 t570 t573 t576 t579 t580 w0 _ ?side1 ?side2 A2.1).mono ?_); (case side1 => exact zB44); (case side2 => exact zB45); rintro e w18 ⟨v571, v574, v577, rfl, ho0, ho1, ho2, hi, hb, hk⟩; refine ⟨_, rfl, ?_⟩; have HO572 := zM (Kd.R_lower (Kd.R_newM (M := fun k_ => (w.heap.size ≤ k_)) (Kd.R_mono (ok' := fun k_ => some k_ ≠ (v577 : Value).ownBlock) ho0 (fun _ hk_ => hk_.2)) (keep_size (w := w) (g := g) (row := none) zB46) (fun k_ h_ => h_)) (keep_size (w := w) (g := g) (row := none) zB46)); have HO575 := zM (Kd.N_lower (Kd.N_mono (ok' := fun k_ => (w.heap.size ≤ k_) ∧ some k_ ≠ (v571 : Value).ownBlock ∧ some k_ ≠ (v577 : Value).ownBlock ∧ k_ ≠ g) ho1 (fun k_ hk_ => ⟨(Nat.le_trans (keep_size (w := w) (g := g) (row := none) zB46) hk_.1), hk_.2.1, hk_.2.2, (IsS102.fresh zB44 k_ hk_.1)⟩)) (keep_size (w := w) (g := g) (row := none) zB46)); have HO578 := zM (Kd.R_lower (Kd.R_newM (M := fun k_ => (w.heap.size ≤ k_)) (Kd.R_mono (ok' := fun k_ => some k_ ≠ (v571 : Value).ownBlock) ho2 (fun _ hk_ => hk_.2)) (keep_size (w := w) (g := g) (row := none) zB46) (fun k_ h_ => h_)) (keep_size (w := w) (g := g) (row := none) zB46)); replace HK := zM (KeepBut.trans zB46 hk (.inl rfl)); replace HB := zM hb; replace HI0 := zM hi; clear hb hk hi ho0 ho1 ho2) | ((with_reducible refine zG Try.func68 15 #[.pointer (some ⟨g, 0, none⟩), .int .i64 8] ?_); (with_reducible refine (spec_l1Once.calls g s0_0 t579 t580 8 false t582 t583 w0 _ ?side1 ?side2 A3.1).mono ?_); (case side1 => exact zB44); (case side2 => exact zB45); rintro e w19 ⟨rfl, hi, hb, hk⟩; refine ⟨_, rfl, ?_⟩; replace HO572 := zM (Kd.R_mono (Kd.R_keep (IsS102.apart (show IsS102 w0 _ g s0_0 t579 t580 from zB44) (zR HO572.1) (by decide)) hk (fun _ h => h.2)) (fun _ h => h.1)); replace HO575 := zM (Kd.N_mono (Kd.N_keep (Kd.N_mono (ok := fun k_ => (((w.heap.size ≤ k_)) ∧ (some k_ ≠ (v571 : Value).ownBlock ∧ (some k_ ≠ (v577 : Value).ownBlock ∧ k_ ≠ g)))) (by refine zrN ?_; exact HO575.1) (fun k_ hk_ => (⟨hk_, hk_.2.2.2⟩ : _ ∧ k_ ≠ g))) hk (fun _ h => h.2)) (fun _ h => h.1)); replace HO578 := zM (Kd.R_mono (Kd.R_keep (IsS102.apart (show IsS102 w0 _ g s0_0 t579 t580 from zB44) (zR HO578.1) (by decide)) hk (fun _ h => h.2)) (fun _ h => h.1)); replace HK := zM (KeepBut.trans zB46 hk (.inl rfl)); replace HB := zM hb; replace HI0 := zM hi; clear hb hk hi) | ((with_reducible refine gate_dst (N := 24) rfl ?_); refine Kd.R_lit (Kd.int .i64) _ 3 ?hg (N := 24) ?hd (xs := ([0, 1, 2, 3, 4, 5, 13, (-1)] : List Int)) (inner := [.int .i64 0, .int .i64 1, .int .i64 2, .int .i64 3, .int .i64 4, .int .i64 5, .int .i64 13, .int .i64 (-1)]) (ok := fun _ => True) (okp := fun _ => True) ?hr ?hp (fun _ hk => hk) trivial (Below.refl _ _) (Nat.le_refl _) (by simp) ?_; (case hd => rfl); (case hg => rfl); (case hr => exact zHH); (case hp => exact (Reps.one (show Kd.M (Kd.int .i64) _ _ _ 0 [.int .i64 0] from rfl) (Reps.one (show Kd.M (Kd.int .i64) _ _ _ 1 [.int .i64 1] from rfl) (Reps.one (show Kd.M (Kd.int .i64) _ _ _ 2 [.int .i64 2] from rfl) (Reps.one (show Kd.M (Kd.int .i64) _ _ _ 3 [.int .i64 3] from rfl) (Reps.one (show Kd.M (Kd.int .i64) _ _ _ 4 [.int .i64 4] from rfl) (Reps.one (show Kd.M (Kd.int .i64) _ _ _ 5 [.int .i64 5] from rfl) (Reps.one (show Kd.M (Kd.int .i64) _ _ _ 13 [.int .i64 13] from rfl) (Reps.one (show Kd.M (Kd.int .i64) _ _ _ (-1) [.int .i64 (-1)] from rfl) (Reps.none _ _)))))))))); intro v601 w20 ho21 hb hg_ hnew_; clear hg_ hnew_; (first | rw [← Ny600.1] at ho21 | (simp only [Int.reduceToNat] at ho21; rw [← Ny600.1] at ho21)); replace HO575 := zM (Kd.N_elder' (by refine zrN ?_; exact HO575.1) (Kd.R_base ho21) hb); have HO602 := zM (Kd.R_lower (Kd.R_new' (Kd.R_new' (Kd.R_newM (M := fun k_ => (w.heap.size ≤ k_)) ho21 (keep_size (w := w) (g := g) (row := none) zB46) (fun k_ h_ => h_)) (Kd.R_lt (zR HO572.1))) (Kd.R_lt (zR HO578.1))) (keep_size (w := w) (g := g) (row := none) zB46)); replace HO572 := zM (Kd.R_elder' (zR HO572.1) (Kd.R_base ho21) hb); replace HO578 := zM (Kd.R_elder' (zR HO578.1) (Kd.R_base ho21) hb); replace HK := zM (KeepBut.trans zB46 (KeepBut.of_below hb g none) (.inl rfl)); replace HB := zM (below_step zB45 hb); replace HI0 := zM (IsS102.below zB44 hb); clear hb ho21; obtain ⟨Ao22, co22, eo22⟩ := Kd.R_slice HO602.1; subst eo22) | ((with_reducible refine zG Try.func66 25 #[.pointer (some ⟨g, 0, none⟩), .slice Ao22 y600.length co22] ?_); (with_reducible refine (spec_l1PickInt.calls g s0_0 t582 t583 _ _ y600 t603 t604 t605 w0 _ ?side1 ?side2 ?side3 ?side4 ?side5 A17.1).mono ?_); (case side1 => exact zB44); (case side2 => exact zB45); (case side3 => exact zC (Kd.R_reads' HO602.1).2.2); (case side4 => exact (Kd.R_reads' HO602.1).2.1); (case side5 => exact far_slice (IsS102.own_ne HI0.1 HO602.1 (by decide))); rintro e w23 ⟨rfl, hi, hb, hk⟩; refine ⟨_, rfl, ?_⟩; replace HO572 := zM (Kd.R_mono (Kd.R_keep (IsS102.apart (show IsS102 w0 _ g s0_0 t582 t583 from zB44) (zR HO572.1) (by decide)) hk (fun _ h => h.2)) (fun _ h => h.1)); replace HO575 := zM (Kd.N_mono (Kd.N_keep (Kd.N_mono (ok := fun k_ => ((((w.heap.size ≤ k_)) ∧ (some k_ ≠ (v571 : Value).ownBlock ∧ (some k_ ≠ (v577 : Value).ownBlock ∧ k_ ≠ g))) ∧ some k_ ≠ (.slice Ao22 y600.length co22 : Value).ownBlock)) (by refine zrN ?_; exact HO575.1) (fun k_ hk_ => (⟨hk_, hk_.1.2.2.2⟩ : _ ∧ k_ ≠ g))) hk (fun _ h => h.2)) (fun _ h => h.1)); replace HO578 := zM (Kd.R_mono (Kd.R_keep (IsS102.apart (show IsS102 w0 _ g s0_0 t582 t583 from zB44) (zR HO578.1) (by decide)) hk (fun _ h => h.2)) (fun _ h => h.1)); replace HO602 := zM (Kd.R_mono (Kd.R_keep (IsS102.apart (show IsS102 w0 _ g s0_0 t582 t583 from zB44) (zR HO602.1) (by decide)) hk (fun _ h => h.2)) (fun _ h => h.1)); replace HK := zM (KeepBut.trans zB46 hk (.inl rfl)); replace HB := zM hb; replace HI0 := zM hi; clear hb hk hi))
  go_ret3
  exact ⟨_, _, zE, by refine zrR ?_; exact Kd.R_mono HO572.1 (fun _ hk => hk.1.1), by refine zrN ?_; exact Kd.N_mono HO575.1 (fun _ hk => ⟨hk.1.1, hk.1.2.1⟩), zB44, zB45, zB46⟩
 subst c4
 rw [if_pos rfl] at H
 replace H := zO H
 obtain ⟨⟨t584, t587, t588, t589, t590⟩, A5, H⟩ := H
 try dsimp only at H
 replace H := zIn H
 obtain ⟨LMc6, H⟩ := H
 generalize hy591 : ((t573 ++ [(⟨t584, t587, t588⟩ : S29)]) : List (S29)) = y591 at H
 have Ny591 := zM hy591.symm
 clear hy591
 generalize hy594 : ((([0, 1, 2, 3, 4, 5, 13, (-1)] : List Int)) : List Int) = y594 at H
 have Ny594 := zM hy594.symm
 clear hy594
 replace H := zO H
 obtain ⟨⟨t597, t598, t599⟩, A7, H⟩ := H
 try dsimp only at H
 simp only [Option.some.injEq, Prod.mk.injEq] at H
 obtain ⟨rfl, rfl, rfl, rfl, rfl⟩ := H
 go_enter Try.func61, Try.ntmps61
 go_wp2_with (first | ((with_reducible refine zG Try.func84 10 #[.pointer (some ⟨g, 0, none⟩), .int .i64 2] ?_); (with_reducible refine (spec_l18DrawRun.calls k g s0_0 s0_1 s0_2 2 t570 t573 t576 t579 t580 w0 _ ?side1 ?side2 A2.1).mono ?_); (case side1 => exact zB44); (case side2 => exact zB45); rintro e w8 ⟨v571, v574, v577, rfl, ho0, ho1, ho2, hi, hb, hk⟩; refine ⟨_, rfl, ?_⟩; have HO572 := zM (Kd.R_lower (Kd.R_newM (M := fun k_ => (w.heap.size ≤ k_)) (Kd.R_mono (ok' := fun k_ => some k_ ≠ (v577 : Value).ownBlock) ho0 (fun _ hk_ => hk_.2)) (keep_size (w := w) (g := g) (row := none) zB46) (fun k_ h_ => h_)) (keep_size (w := w) (g := g) (row := none) zB46)); have HO575 := zM (Kd.N_lower (Kd.N_mono (ok' := fun k_ => (w.heap.size ≤ k_) ∧ some k_ ≠ (v571 : Value).ownBlock ∧ some k_ ≠ (v577 : Value).ownBlock ∧ k_ ≠ g) ho1 (fun k_ hk_ => ⟨(Nat.le_trans (keep_size (w := w) (g := g) (row := none) zB46) hk_.1), hk_.2.1, hk_.2.2, (IsS102.fresh zB44 k_ hk_.1)⟩)) (keep_size (w := w) (g := g) (row := none) zB46)); have HO578 := zM (Kd.R_lower (Kd.R_newM (M := fun k_ => (w.heap.size ≤ k_)) (Kd.R_mono (ok' := fun k_ => some k_ ≠ (v571 : Value).ownBlock) ho2 (fun _ hk_ => hk_.2)) (keep_size (w := w) (g := g) (row := none) zB46) (fun k_ h_ => h_)) (keep_size (w := w) (g := g) (row := none) zB46)); replace HK := zM (KeepBut.trans zB46 hk (.inl rfl)); replace HB := zM hb; replace HI0 := zM hi; clear hb hk hi ho0 ho1 ho2) | ((with_reducible refine zG Try.func68 15 #[.pointer (some ⟨g, 0, none⟩), .int .i64 8] ?_); (with_reducible refine (spec_l1Once.calls g s0_0 t579 t580 8 true t582 t583 w0 _ ?side1 ?side2 A3.1).mono ?_); (case side1 => exact zB44); (case side2 => exact zB45); rintro e w9 ⟨rfl, hi, hb, hk⟩; refine ⟨_, rfl, ?_⟩; replace HO572 := zM (Kd.R_mono (Kd.R_keep (IsS102.apart (show IsS102 w0 _ g s0_0 t579 t580 from zB44) (zR HO572.1) (by decide)) hk (fun _ h => h.2)) (fun _ h => h.1)); replace HO575 := zM (Kd.N_mono (Kd.N_keep (Kd.N_mono (ok := fun k_ => (((w.heap.size ≤ k_)) ∧ (some k_ ≠ (v571 : Value).ownBlock ∧ (some k_ ≠ (v577 : Value).ownBlock ∧ k_ ≠ g)))) (by refine zrN ?_; exact HO575.1) (fun k_ hk_ => (⟨hk_, hk_.2.2.2⟩ : _ ∧ k_ ≠ g))) hk (fun _ h => h.2)) (fun _ h => h.1)); replace HO578 := zM (Kd.R_mono (Kd.R_keep (IsS102.apart (show IsS102 w0 _ g s0_0 t579 t580 from zB44) (zR HO578.1) (by decide)) hk (fun _ h => h.2)) (fun _ h => h.1)); replace HK := zM (KeepBut.trans zB46 hk (.inl rfl)); replace HB := zM hb; replace HI0 := zM hi; clear hb hk hi) | ((with_reducible refine zG Try.func85 18 #[.pointer (some ⟨g, 0, none⟩)] ?_); (with_reducible refine (spec_l9DrawHart.calls k g s0_0 t582 t583 t584 t587 t588 t589 t590 w0 _ ?side1 ?side2 A5.1).mono ?_); (case side1 => exact zB44); (case side2 => exact zB45); rintro e w10 ⟨v585, rfl, ho0, hi, hb, hk⟩; refine ⟨_, rfl, ?_⟩; replace HO575 := zM (Kd.N_mono (Kd.N_told (Kd.N_oldK (Kd.N_mono (ok := fun k_ => (((w.heap.size ≤ k_)) ∧ (some k_ ≠ (v571 : Value).ownBlock ∧ (some k_ ≠ (v577 : Value).ownBlock ∧ k_ ≠ g)))) (by refine zrN ?_; exact HO575.1) (fun k_ hk_ => (⟨hk_, hk_.2.2.2⟩ : _ ∧ k_ ≠ g))) hk) (Kd.Q_base ho0)) (fun _ h_ => h_.1)); have HO586 := zM (Kd.Q_lower (Kd.Q_new' (Kd.Q_new' (Kd.Q_newM (M := fun k_ => (w.heap.size ≤ k_)) ho0 (keep_size (w := w) (g := g) (row := none) zB46) (fun k_ h_ => h_)) (Kd.R_lt (zR HO572.1))) (Kd.R_lt (zR HO578.1))) (keep_size (w := w) (g := g) (row := none) zB46)); replace HO572 := zM (Kd.R_mono (Kd.R_told (Kd.R_oldK (IsS102.apart (show IsS102 w0 _ g s0_0 t582 t583 from zB44) (zR HO572.1) (by decide)) hk) (Kd.Q_base ho0)) (fun _ h_ => h_.1)); replace HO578 := zM (Kd.R_mono (Kd.R_told (Kd.R_oldK (IsS102.apart (show IsS102 w0 _ g s0_0 t582 t583 from zB44) (zR HO578.1) (by decide)) hk) (Kd.Q_base ho0)) (fun _ h_ => h_.1)); replace HK := zM (KeepBut.trans zB46 hk (.inl rfl)); replace HB := zM hb; replace HI0 := zM hi; clear hb hk hi ho0; obtain ⟨Ao12, co12, eo12, _⟩ := Kd.Q_slice HO586.1; subst eo12) | ((with_reducible refine gate_builtin (b := .append) (xs := #[.tmp 16, .tmp 19]) rfl ?_); at_builtin; refine Kd.N_append k29 w.heap.size rfl (.tmp 16) (.tmp 19) 30 29 (.agg #[(.slice none 0 0), (.int .i64 0), (.int .i64 0)]) 40 rfl Try.underlying30 info29 rfl (by decide) (by omega) v574 t573 (⟨t584, t587, t588⟩ : S29) [.slice Ao12 t584.length co12, .int .i64 t587, .int .i64 t588] (fun k_ => (w.heap.size ≤ k_) ∧ some k_ ≠ (v571 : Value).ownBlock ∧ some k_ ≠ (v577 : Value).ownBlock ∧ k_ ≠ g) (fun k_ => ((fun k_ => (w.heap.size ≤ k_) ∧ some k_ ≠ (v571 : Value).ownBlock ∧ some k_ ≠ (v577 : Value).ownBlock ∧ k_ ≠ g)) k_ ∧ some k_ ≠ (v574 : Value).ownBlock) rfl rfl ?aP (fun _ hk => hk) ?aF ?aO (Below.refl _ _) ?aS ?aL ?_; (case aP => exact (k29_mkF _ _ (⟨t584, t587, t588⟩ : S29) (Kd.Q_reads' (Kd.Q_mono (ok' := (fun k_ => ((fun k_ => (w.heap.size ≤ k_) ∧ some k_ ≠ (v571 : Value).ownBlock ∧ some k_ ≠ (v577 : Value).ownBlock ∧ k_ ≠ g)) k_ ∧ some k_ ≠ (v574 : Value).ownBlock)) (IsS102.apartQ HI0.1 (Kd.Q_apart' (HO586.1) (Kd.N_typed HO575.1) (by decide)) (by decide)) (fun k_ hk => ⟨⟨hk.1.1.1.1.1, ⟨hk.1.1.1.2, ⟨hk.1.1.2, hk.2⟩⟩⟩, hk.1.2⟩))).2.1 (Kd.Q_F (Kd.Q_mono (ok' := (fun k_ => ((fun k_ => (w.heap.size ≤ k_) ∧ some k_ ≠ (v571 : Value).ownBlock ∧ some k_ ≠ (v577 : Value).ownBlock ∧ k_ ≠ g)) k_ ∧ some k_ ≠ (v574 : Value).ownBlock)) (IsS102.apartQ HI0.1 (Kd.Q_apart' (HO586.1) (Kd.N_typed HO575.1) (by decide)) (by decide)) (fun k_ hk => ⟨⟨hk.1.1.1.1.1, ⟨hk.1.1.1.2, ⟨hk.1.1.2, hk.2⟩⟩⟩, hk.1.2⟩))))); (case aF => exact (fun k_ hk => ⟨(Nat.le_trans (keep_size (w := w) (g := g) (row := none) zB46) hk), Kd.fresh' (Kd.R_lt (zR HO572.1)) k_ hk, Kd.fresh' (Kd.R_lt (zR HO578.1)) k_ hk, IsS102.fresh zB44 k_ hk⟩)); (case aO => exact (by refine zrN ?_; exact Kd.N_mono HO575.1 (fun _ hk => ⟨hk.1.1, ⟨hk.1.2.1, ⟨hk.1.2.2.1, hk.1.2.2.2⟩⟩⟩))); (case aS => exact (keep_size (w := w) (g := g) (row := none) zB46)); (case aL => have := LMc6.out; omega); intro v592 w11 ho hb hg hat; rw [← Ny591.1] at ho; replace HO572 := zM (Kd.R_over' (zR HO572.1) (Kd.N_typed (by refine zrN ?_; exact HO575.1)) (by decide) hg); replace HO578 := zM (Kd.R_over' (zR HO578.1) (Kd.N_typed (by refine zrN ?_; exact HO575.1)) (by decide) hg); replace HB := zM (below_weaken zB45 HL.1 hb); replace HI0 := zM (IsS102.grown (show IsS102 w0 _ g s0_0 t589 t590 from zB44) hg (IsS102.own_neN HI0.1 HO575.1 (by decide))); replace HK := zM (KeepBut.trans zB46 (KeepBut.of_grown hg g) (Kd.N_base2 HO575.1)); have HO593 := zM ho; clear HO575 HO586; clear ho hb hg hat) | ((with_reducible refine gate_dst (N := 24) rfl ?_); refine Kd.R_lit (Kd.int .i64) _ 3 ?hg (N := 24) ?hd (xs := ([0, 1, 2, 3, 4, 5, 13, (-1)] : List Int)) (inner := [.int .i64 0, .int .i64 1, .int .i64 2, .int .i64 3, .int .i64 4, .int .i64 5, .int .i64 13, .int .i64 (-1)]) (ok := fun _ => True) (okp := fun _ => True) ?hr ?hp (fun _ hk => hk) trivial (Below.refl _ _) (Nat.le_refl _) (by simp) ?_; (case hd => rfl); (case hg => rfl); (case hr => exact zHH); (case hp => exact (Reps.one (show Kd.M (Kd.int .i64) _ _ _ 0 [.int .i64 0] from rfl) (Reps.one (show Kd.M (Kd.int .i64) _ _ _ 1 [.int .i64 1] from rfl) (Reps.one (show Kd.M (Kd.int .i64) _ _ _ 2 [.int .i64 2] from rfl) (Reps.one (show Kd.M (Kd.int .i64) _ _ _ 3 [.int .i64 3] from rfl) (Reps.one (show Kd.M (Kd.int .i64) _ _ _ 4 [.int .i64 4] from rfl) (Reps.one (show Kd.M (Kd.int .i64) _ _ _ 5 [.int .i64 5] from rfl) (Reps.one (show Kd.M (Kd.int .i64) _ _ _ 13 [.int .i64 13] from rfl) (Reps.one (show Kd.M (Kd.int .i64) _ _ _ (-1) [.int .i64 (-1)] from rfl) (Reps.none _ _)))))))))); intro v595 w13 ho14 hb hg_ hnew_; clear hg_ hnew_; (first | rw [← Ny594.1] at ho14 | (simp only [Int.reduceToNat] at ho14; rw [← Ny594.1] at ho14)); replace HO593 := zM (Kd.N_elder' (by refine zrN ?_; exact HO593.1) (Kd.R_base ho14) hb); have HO596 := zM (Kd.R_lower (Kd.R_new' (Kd.R_new' (Kd.R_newM (M := fun k_ => (w.heap.size ≤ k_)) ho14 (keep_size (w := w) (g := g) (row := none) zB46) (fun k_ h_ => h_)) (Kd.R_lt (zR HO572.1))) (Kd.R_lt (zR HO578.1))) (keep_size (w := w) (g := g) (row := none) zB46)); replace HO572 := zM (Kd.R_elder' (zR HO572.1) (Kd.R_base ho14) hb); replace HO578 := zM (Kd.R_elder' (zR HO578.1) (Kd.R_base ho14) hb); replace HK := zM (KeepBut.trans zB46 (KeepBut.of_below hb g none) (.inl rfl)); replace HB := zM (below_step zB45 hb); replace HI0 := zM (IsS102.below zB44 hb); clear hb ho14; obtain ⟨Ao15, co15, eo15⟩ := Kd.R_slice HO596.1; subst eo15) | ((with_reducible refine zG Try.func66 25 #[.pointer (some ⟨g, 0, none⟩), .slice Ao15 y594.length co15] ?_); (with_reducible refine (spec_l1PickInt.calls g s0_0 t589 t590 _ _ y594 t597 t598 t599 w0 _ ?side1 ?side2 ?side3 ?side4 ?side5 A7.1).mono ?_); (case side1 => exact zB44); (case side2 => exact zB45); (case side3 => exact zC (Kd.R_reads' HO596.1).2.2); (case side4 => exact (Kd.R_reads' HO596.1).2.1); (case side5 => exact far_slice (IsS102.own_ne HI0.1 HO596.1 (by decide))); rintro e w16 ⟨rfl, hi, hb, hk⟩; refine ⟨_, rfl, ?_⟩; replace HO572 := zM (Kd.R_mono (Kd.R_keep (IsS102.apart (show IsS102 w0 _ g s0_0 t589 t590 from zB44) (zR HO572.1) (by decide)) hk (fun _ h => h.2)) (fun _ h => h.1)); replace HO578 := zM (Kd.R_mono (Kd.R_keep (IsS102.apart (show IsS102 w0 _ g s0_0 t589 t590 from zB44) (zR HO578.1) (by decide)) hk (fun _ h => h.2)) (fun _ h => h.1)); replace HO593 := zM (Kd.N_mono (Kd.N_keep (Kd.N_mono (ok := fun k_ => ((((w.heap.size ≤ k_)) ∧ (some k_ ≠ (v571 : Value).ownBlock ∧ (some k_ ≠ (v577 : Value).ownBlock ∧ k_ ≠ g))) ∧ some k_ ≠ (.slice Ao15 y594.length co15 : Value).ownBlock)) (by refine zrN ?_; exact HO593.1) (fun k_ hk_ => (⟨hk_, hk_.1.2.2.2⟩ : _ ∧ k_ ≠ g))) hk (fun _ h => h.2)) (fun _ h => h.1)); replace HO596 := zM (Kd.R_mono (Kd.R_keep (IsS102.apart (show IsS102 w0 _ g s0_0 t589 t590 from zB44) (zR HO596.1) (by decide)) hk (fun _ h => h.2)) (fun _ h => h.1)); replace HK := zM (KeepBut.trans zB46 hk (.inl rfl)); replace HB := zM hb; replace HI0 := zM hi; clear hb hk hi))
 go_ret3
 exact ⟨_, _, zE, by refine zrR ?_; exact Kd.R_mono HO572.1 (fun _ hk => hk.1.1.1), by refine zrN ?_; exact Kd.N_mono HO593.1 (fun _ hk => ⟨hk.1.1, hk.1.2.1⟩), zB44, zB45, zB46⟩

/-! ### spec_l1New: function 62 -/
def spec_l1New.l0 : Nat → List Int → Int → Int → Option (List Int × Int × Int)
 | 0, _, _, _ => none
 | k + 1, x0, x3, x4 => if x4 < (x0.length : Int) then (if x4 < 4000 then (if 0 ≤ x4 then (spec_l1New.l0 k x0 (Go.bits .and .i64 (wrap64 ((wrap64 ((wrap64 (x3 * 131)) + (wrap64 (rd x0 x4)))) + 7)) 1073741823) (wrap64 (x4 + 1))) else (none)) else (some (x0, 0, x3))) else (some (x0, 0, x3))
def spec_l1New.f (k : Nat) (l0 : List Int) : Option (List Int × Int × Int) := spec_l1New.l0 k l0 (wrap64 (20404 + (l0.length : Int))) 0
theorem spec_l1New.mono_l : ∀ k, (∀ y0 y1 y2, LeO (spec_l1New.l0 k y0 y1 y2) (spec_l1New.l0 (k + 1) y0 y1 y2))
 | 0 => fun _ _ _ r h => by simp [spec_l1New.l0] at h
 | k + 1 => by
  have ih0 := spec_l1New.mono_l k
  ·intros
   unfold spec_l1New.l0
   exact zL
theorem spec_l1New.mono : ∀ a0 k, LeO (spec_l1New.f k a0) (spec_l1New.f (k + 1) a0) := by
 intro a0 k
 have ih0 := spec_l1New.mono_l k
 unfold spec_l1New.f
 exact zL
theorem spec_l1New.calls (k : Nat) (A0 : Option Addr) (c0 : Nat) (l0 : List Int) (r1 : List Int) (r2 : Int) (r3 : Int) (w0 w : World) (hB : Below w0.heap.size w0 w) (hr0 : Kd.C (Kd.int .u8) w0 A0 l0.length l0) (hc0 : l0.length ≤ c0) (h : spec_l1New.f k l0 = some (r1, r2, r3)) :
  Calls Try.prog 62 #[.slice A0 l0.length c0] w fun e w' => ∃ g_ : Nat, e = .returned (.pointer (some ⟨g_, 0, none⟩)) ∧ IsS102 w0 w' g_ r1 r2 r3 ∧ Below w0.heap.size w0 w' ∧ Below w.heap.size w w' := by
 have hu102 := Try.underlying102
 have HR0 := zM hr0
 have HC0 := zM hc0
 clear hr0 hc0
 have HBW := zM (Below.refl w.heap.size w)
 have HW0 := zM hB.size
 have HB := zM hB
 clear hB
 unfold spec_l1New.f at h
 have H := h
 clear h
 have H' := zM H
 clear H
 go_enter Try.func62, Try.ntmps62
 go_wp2
 go_loopg [3, 4] k (fun kq v3 v4 w' => ∃ (x3_1 : Int) (x4_1 : Int), v3 = .int .i64 x3_1 ∧ v4 = .int .i64 x4_1 ∧ Aside0 (spec_l1New.l0 kq l0 x3_1 x4_1 = some (r1, r2, r3)) ∧ Aside0 (kq ≤ k) ∧ Aside0 (Below w0.heap.size w0 w') ∧ Aside0 (Below w.heap.size w w'))
 case atStart => exact ⟨(wrap64 (20404 + (l0.length : Int))), (0), zJJ, zJJ, H', ⟨Nat.le_refl _⟩, ⟨zB0⟩, ⟨zB70⟩⟩
 case round =>
  clear H'
  obtain ⟨x3_1, x4_1, rfl, rfl, HA, HK1, HB, HBW⟩ := hrel
  cases gk with
  | zero => exact absurd HA.1 (by simp [spec_l1New.l0])
  | succ k1 =>
   have H := HA.1
   clear HA
   simp only [spec_l1New.l0] at H
   by_cases c2 : x4_1 < (l0.length : Int)
   rotate_left
   ·rw [if_neg c2] at H
    have c2b0 := decide_eq_false c2
    clear c2
    simp only [Option.some.injEq, Prod.mk.injEq] at H
    obtain ⟨rfl, rfl, rfl⟩ := H
    go_wp2_with (first | ((with_reducible refine zBx 31 102 #[.slice A0 l0.length c0, .int .i64 0, .int .i64 x3_1] ?_); intro gb608 hg w6 hbox hb; replace HB := zM (below_step zB0 hb); have BK608 := zM hbox; have GW608 := zM (zW hg (below_size zB70)); have GE608 := zM ((Nat.le_trans HW0.1 (zW hg (below_size zB70)) : w0.heap.size ≤ gb608)); replace HBW := zM (below_step HBW.out hb); clear hb hbox hg))
    go_ret
    exact ⟨_, rfl, (show IsS102 w0 _ gb608 l0 0 x3_1 from ⟨_, _, zK BK608.1, GE608.1, HR0.1⟩), zB0, zB70⟩
   rw [if_pos c2] at H
   have c2b0 := decide_eq_true c2
   clear c2
   by_cases c3 : x4_1 < 4000
   ·rw [if_pos c3] at H
    have c3b0 := decide_eq_true c3
    clear c3
    replace H := zIt H
    obtain ⟨c4b0, H⟩ := H
    have H' := zM H
    clear H
    obtain ⟨p606, q606, ad606, e606, hx606_0⟩ := zRd (Kd.at_int HR0.1 x4_1)
    cases e606
    replace hx606_0 := pw_cell_below HB.1 hx606_0
    go_wp2
    go_roundg k1
    case measure => have := HK1.1; omega
    case rel => exact ⟨(Go.bits .and .i64 (wrap64 ((wrap64 ((wrap64 (x3_1 * 131)) + (wrap64 (rd l0 x4_1)))) + 7)) 1073741823), (wrap64 (x4_1 + 1)), zJJ, zJJ, H', ⟨by have := HK1.1; omega⟩, ⟨zB0⟩, ⟨zB70⟩⟩
   rw [if_neg c3] at H
   have c3b0 := decide_eq_false c3
   clear c3
   simp only [Option.some.injEq, Prod.mk.injEq] at H
   obtain ⟨rfl, rfl, rfl⟩ := H
   go_wp2_with (first | ((with_reducible refine zBx 31 102 #[.slice A0 l0.length c0, .int .i64 0, .int .i64 x3_1] ?_); intro gb607 hg w5 hbox hb; replace HB := zM (below_step zB0 hb); have BK607 := zM hbox; have GW607 := zM (zW hg (below_size zB70)); have GE607 := zM ((Nat.le_trans HW0.1 (zW hg (below_size zB70)) : w0.heap.size ≤ gb607)); replace HBW := zM (below_step HBW.out hb); clear hb hbox hg))
   go_ret
   exact ⟨_, rfl, (show IsS102 w0 _ gb607 l0 0 x3_1 from ⟨_, _, zK BK607.1, GE607.1, HR0.1⟩), zB0, zB70⟩

/-! ### spec_DrawEnds2: function 32 -/
def spec_DrawEnds2.f (k : Nat) (l0 : List Int) : Option (List Int × (List (S29)) × Int) := (spec_l1New.f k l0).bind fun bt609 => ((spec_l29Draw.f k bt609.1 bt609.2.1 bt609.2.2).bind fun bt613 => (some (bt613.1, bt613.2.1, bt613.2.2.1)))
theorem spec_DrawEnds2.mono : ∀ a0 k, LeO (spec_DrawEnds2.f k a0) (spec_DrawEnds2.f (k + 1) a0) := by
 intro a0 k
 unfold spec_DrawEnds2.f
 have mo0 := @spec_l1New.mono
 have mo1 := @spec_l29Draw.mono
 exact zL
theorem spec_DrawEnds2.calls (k : Nat) (A0 : Option Addr) (c0 : Nat) (l0 : List Int) (r1 : List Int) (r2 : List (S29)) (r3 : Int) (w : World) (hr0 : Kd.C (Kd.int .u8) w A0 l0.length l0) (hc0 : l0.length ≤ c0) (h : spec_DrawEnds2.f k l0 = some (r1, r2, r3)) :
  Calls Try.prog 32 #[.slice A0 l0.length c0] w fun e w' => ∃ v0_ v1_ : Value, e = .returned (.tuple #[v0_, v1_, .int .i64 r3]) ∧ Kd.R (Kd.int .i64) 3 w' w.heap.size (fun k_ => (w.heap.size ≤ k_)) v0_ r1 ∧ Kd.N k29 29 w' w.heap.size (fun k_ => (w.heap.size ≤ k_) ∧ some k_ ≠ (v0_ : Value).ownBlock) v1_ r2 ∧ Below w.heap.size w w' := by
 have HR0 := zM hr0
 have HC0 := zM hc0
 clear hr0 hc0
 have HB := zM (Below.refl w.heap.size w)
 unfold spec_DrawEnds2.f at h
 have H := h
 clear h
 replace H := zO H
 obtain ⟨⟨t609, t610, t611⟩, A2, H⟩ := H
 try dsimp only at H
 replace H := zO H
 obtain ⟨⟨t613, t616, t619, t620, t621⟩, A3, H⟩ := H
 try dsimp only at H
 simp only [Option.some.injEq, Prod.mk.injEq] at H
 obtain ⟨rfl, rfl, rfl⟩ := H
 go_enter Try.func32, Try.ntmps32
 go_wp2_with (first | ((with_reducible refine zG Try.func62 10 #[.slice A0 l0.length c0] ?_); (with_reducible refine (spec_l1New.calls k _ _ l0 t609 t610 t611 w _ ?side1 ?side2 ?side3 A2.1).mono ?_); (case side1 => exact zB0); (case side2 => exact HR0.1); (case side3 => exact HC0.1); rintro e w4 ⟨g612, rfl, hi, hb, hb2⟩; refine ⟨_, rfl, ?_⟩; replace HB := zM hb; have HI612 := zM hi; clear hb hb2 hi) | ((with_reducible refine zG Try.func61 11 #[.pointer (some ⟨g612, 0, none⟩)] ?_); (with_reducible refine (spec_l29Draw.calls k g612 t609 t610 t611 t613 t616 t619 t620 t621 w _ ?side1 ?side2 A3.1).mono ?_); (case side1 => exact zB75); (case side2 => exact zB76); rintro e w5 ⟨v614, v617, rfl, ho0, ho1, hi, hb, hk⟩; refine ⟨_, rfl, ?_⟩; have HO615 := zM (Kd.R_lower (Kd.R_newM (M := fun k_ => (w.heap.size ≤ k_)) (Kd.R_mono (ok' := fun k_ => True) ho0 (fun _ hk_ => trivial)) (below_size zB76) (fun k_ h_ => h_)) (below_size zB76)); have HO618 := zM (Kd.N_lower (Kd.N_mono (ok' := fun k_ => (w.heap.size ≤ k_) ∧ some k_ ≠ (v614 : Value).ownBlock ∧ k_ ≠ g612) ho1 (fun k_ hk_ => ⟨(Nat.le_trans (below_size zB76) hk_.1), hk_.2, (IsS102.fresh zB75 k_ hk_.1)⟩)) (below_size zB76)); replace HB := zM hb; replace HI612 := zM hi; clear hb hk hi ho0 ho1))
 go_ret3
 exact ⟨_, _, zE, by refine zrR ?_; exact Kd.R_mono HO615.1 (fun _ hk => hk.1), by refine zrN ?_; exact Kd.N_mono HO618.1 (fun _ hk => ⟨hk.1, hk.2.1⟩), zB76⟩

/-! ### impl_copyHarts: function 63 -/
def impl_copyHarts.l0 : Nat → List (S29) → List (S29) → Int → Int → Option ((List (S29)))
 | 0, _, _, _, _ => none
 | k + 1, x3, x7, x8, x9 => if x9 < x8 then (if 0 ≤ x9 then (if x9 < (x7.length : Int) then ((impl_copyHart.f ((rd_T29 x7 x9).f0) ((rd_T29 x7 x9).f1) ((rd_T29 x7 x9).f2)).bind fun bt627 => (if x3.length < 3518437208883 then (impl_copyHarts.l0 k (x3 ++ [(⟨bt627.1, bt627.2.1, bt627.2.2⟩ : S29)]) x7 x8 (wrap64 (x9 + 1))) else (none))) else (none)) else (none)) else (some x3)
def impl_copyHarts.f (k : Nat) (l0 : List (S29)) : Option ((List (S29))) := impl_copyHarts.l0 k (([] : List (S29))) l0 (l0.length : Int) 0
theorem impl_copyHarts.mono_l : ∀ k, (∀ y0 y1 y2 y3, LeO (impl_copyHarts.l0 k y0 y1 y2 y3) (impl_copyHarts.l0 (k + 1) y0 y1 y2 y3))
 | 0 => fun _ _ _ _ r h => by simp [impl_copyHarts.l0] at h
 | k + 1 => by
  have ih0 := impl_copyHarts.mono_l k
  ·intros
   unfold impl_copyHarts.l0
   exact zL
theorem impl_copyHarts.mono : ∀ a0 k, LeO (impl_copyHarts.f k a0) (impl_copyHarts.f (k + 1) a0) := by
 intro a0 k
 have ih0 := impl_copyHarts.mono_l k
 unfold impl_copyHarts.f
 exact zL
theorem impl_copyHarts.calls (k : Nat) (A0 : Option Addr) (c0 : Nat) (l0 : List (S29)) (r : List (S29)) (w : World) (hr0 : Kd.C k29 w A0 l0.length l0) (hc0 : l0.length ≤ c0) (h : impl_copyHarts.f k l0 = some r) :
  Calls Try.prog 63 #[.slice A0 l0.length c0] w fun e w' => ∃ v0_ : Value, e = .returned (v0_) ∧ Kd.S k29 29 w' w.heap.size (fun _ => True) v0_ r ∧ Below w.heap.size w w' := by
 have hu29 := Try.underlying29
 have HR0 := zM hr0
 have HC0 := zM hc0
 clear hr0 hc0
 have HB := zM (Below.refl w.heap.size w)
 unfold impl_copyHarts.f at h
 have H := h
 clear h
 generalize hy622 : ((([] : List (S29))) : List (S29)) = y622 at H
 have Ny622 := zM hy622.symm
 clear hy622
 have H' := zM H
 clear H
 go_enter Try.func63, Try.ntmps63
 go_wp2_with (first | ((with_reducible refine gate_dst (N := 6) rfl ?_); refine Kd.S_lit k29 _ 29 ?hg (N := 6) ?hd (xs := ([] : List (S29))) (inner := []) (ok := fun _ => True) (okp := fun _ => True) ?hr ?hp (fun _ hk => hk) trivial (Below.refl _ _) (Nat.le_refl _) (by simp) ?_; (case hd => rfl); (case hg => rfl); (case hr => exact zHH); (case hp => exact (Reps.none _ _)); intro v623 w2 ho3 hb hg_ hnew_; clear hg_ hnew_; (first | rw [← Ny622.1] at ho3 | (simp only [Int.reduceToNat] at ho3; rw [← Ny622.1] at ho3)); have HO624 := zM (Kd.S_lower ho3 (below_size zB0)); replace HB := zM (below_step zB0 hb); clear hb ho3))
 go_loopg [3, 9] k (fun kq v3 v9 w' => ∃ (x3_1 : List (S29)) (x9_1 : Int), v9 = .int .i64 x9_1 ∧ Aside0 (impl_copyHarts.l0 kq x3_1 l0 (l0.length : Int) x9_1 = some r) ∧ Aside0 (kq ≤ k) ∧ Aside0 (Kd.S k29 29 w' w.heap.size (fun _ => True) v3 x3_1) ∧ Aside0 (Below w.heap.size w w'))
 case atStart => exact ⟨(y622), (0), zJJ, H', ⟨Nat.le_refl _⟩, ⟨zS HO624.1⟩, ⟨zB0⟩⟩
 case round =>
  clear H'
  obtain ⟨x3_1, x9_1, rfl, HA, HK1, HO_3, HB⟩ := hrel
  cases gk with
  | zero => exact absurd HA.1 (by simp [impl_copyHarts.l0])
  | succ k1 =>
   have H := HA.1
   clear HA
   simp only [impl_copyHarts.l0] at H
   by_cases c4 : x9_1 < (l0.length : Int)
   rotate_left
   ·rw [if_neg c4] at H
    have c4b0 := decide_eq_false c4
    clear c4
    obtain rfl := Option.some.inj H
    go_wp2
    go_ret
    exact ⟨_, zE, zS HO_3.1, zB0⟩
   rw [if_pos c4] at H
   have c4b0 := decide_eq_true c4
   clear c4
   replace H := zIt H
   obtain ⟨c5b0, H⟩ := H
   replace H := zIt H
   obtain ⟨c6b0, H⟩ := H
   replace H := zO H
   obtain ⟨⟨t627, t630, t631⟩, A7, H⟩ := H
   try dsimp only at H
   replace H := zIn H
   obtain ⟨LMc8, H⟩ := H
   generalize hy632 : ((x3_1 ++ [(⟨t627, t630, t631⟩ : S29)]) : List (S29)) = y632 at H
   have Ny632 := zM hy632.symm
   clear hy632
   have H' := zM H
   clear H
   obtain ⟨p625, q625, ad625, A625_0, c625_0, e625, hx625_0, hx625_1, hx625_2, hl625_0, hi625_0⟩ := zRd (at_T29 HR0.1 x9_1)
   cases e625
   replace hx625_0 := zHx HB.1 hx625_0
   replace hx625_1 := zHx HB.1 hx625_1
   replace hx625_2 := zHx HB.1 hx625_2
   have HR625_0 := zM hi625_0
   have HC625_0 := zM hl625_0
   clear hi625_0 hl625_0
   go_wp2_with (first | ((with_reducible refine zBx 5 29 #[.slice none 0 0, .int .i64 0, .int .i64 0] ?_); intro gb626 hg w9 hbox hb; replace HO_3 := zM (Kd.S_below (Kd.S_elderB (zS HO_3.1) gb626 (Nat.le_of_eq hg.symm)) hb); have BK626 := zM hbox; have GW626 := zM (zW hg (below_size zB0)); have GE626 := zM (zW hg (below_size zB0)); replace HB := zM (below_step zB0 hb); clear hb hbox hg; have hcz10 := zc_3 (w := w9) BK626.1) | ((with_reducible refine zG Try.func86 15 #[.agg #[.slice A625_0 ((rd_T29 l0 x9_1).f0).length c625_0, .int .i64 ((rd_T29 l0 x9_1).f1), .int .i64 ((rd_T29 l0 x9_1).f2)]] ?_); (with_reducible refine (impl_copyHart.calls _ _ ((rd_T29 l0 x9_1).f0) ((rd_T29 l0 x9_1).f1) ((rd_T29 l0 x9_1).f2) t627 t630 t631 _ ?side1 ?side2 A7.1).mono ?_); (case side1 => exact Kd.C_below HR625_0.1 zB0); (case side2 => exact HC625_0.1); rintro e w11 ⟨v628, rfl, ho0, hb⟩; refine ⟨_, rfl, ?_⟩; replace HO_3 := zM (Kd.S_elder' (by refine zrS ?_; exact (Kd.S_mono (zfS (zfS (zfS (Kd.S_mono HO_3.1 (fun k_ hk => (⟨hk, hk.2⟩ : _ ∧ k_ ≠ gb626)))))) (fun _ h_ => h_.1))) (Kd.R_base ho0) hb); have HO629 := zM (Kd.R_lower ho0 (below_size zB0)); replace BK626 := zM (blk_below (g := gb626) (o := .cells #[.slice A625_0 ((rd_T29 l0 x9_1).f0).length c625_0, .int .i64 ((rd_T29 l0 x9_1).f1), .int .i64 ((rd_T29 l0 x9_1).f2)] 29 (0, 0)) (by exact zp3 (zK BK626.1)) hb); replace HB := zM (below_step zB0 hb); clear hb ho0; obtain ⟨Ao13, co13, eo13⟩ := Kd.R_slice HO629.1; subst eo13) | ((with_reducible refine gate_builtin (b := .append) (xs := #[.tmp 13, .tmp 16]) rfl ?_); at_builtin; refine Kd.S_append k29 (w0 := w) w.heap.size rfl (.tmp 13) (.tmp 16) 30 29 (.agg #[(.slice none 0 0), (.int .i64 0), (.int .i64 0)]) 40 rfl Try.underlying30 info29 rfl (by decide) (by omega) u3 x3_1 (⟨t627, t630, t631⟩ : S29) [.slice Ao13 t627.length co13, .int .i64 t630, .int .i64 t631] (fun k_ => k_ ≠ gb626) (fun k_ => some k_ = (.slice Ao13 t627.length co13 : Value).ownBlock) rfl rfl ?aP (fun k_ hk_ => ((Kd.R_mono (ok' := fun k_ => ((fun k_ => k_ ≠ gb626)) k_ ∧ some k_ ≠ (u3 : Value).ownBlock) (Kd.R_types (Kd.R_apart' (HO629.1) (Kd.S_typed HO_3.1) (by decide)) BK626.1 (by decide)) (fun k_ hk => ⟨hk.2, hk.1.2⟩))).1 k_ hk_.symm) ?aF ?aO ?aB ?aS ?aL ?_; (case aP => exact k29_mkM _ _ _ (⟨t627, t630, t631⟩ : S29) (Kd.R_mono (Kd.R_tight rfl (Kd.R_mono (ok' := fun k_ => ((fun k_ => k_ ≠ gb626)) k_ ∧ some k_ ≠ (u3 : Value).ownBlock) (Kd.R_types (Kd.R_apart' (HO629.1) (Kd.S_typed HO_3.1) (by decide)) BK626.1 (by decide)) (fun k_ hk => ⟨hk.2, hk.1.2⟩))) (fun _ h_ => h_))); (case aB => exact zB0); (case aF => exact (fun k_ hk => Kd.freshB (g := gb626) (o := .cells #[.slice A625_0 ((rd_T29 l0 x9_1).f0).length c625_0, .int .i64 ((rd_T29 l0 x9_1).f1), .int .i64 ((rd_T29 l0 x9_1).f2)] 29 (0, 0)) (zK BK626.1) k_ hk)); (case aO => exact (by refine zrS ?_; exact Kd.S_mono HO_3.1 (fun k_ hk => ⟨hk.1.2, fun e_ => hk.2 e_⟩))); (case aS => exact (below_size zB0)); (case aL => have := LMc8.out; omega); intro v633 w12 ho hb hg hat; rw [← Ny632.1] at ho; replace BK626 := zM (zg BK626.1 hg (Kd.S_away HO_3.1 (fun _ hk => hk.1.2))); replace HB := zM hb; have HO634 := zM ho; clear HO_3 HO629; clear ho hb hg hat))
   go_roundg k1
   case measure => have := HK1.1; omega
   case rel => exact ⟨(y632), (wrap64 (x9_1 + 1)), zJJ, H', ⟨by have := HK1.1; omega⟩, ⟨by refine zrS ?_; exact Kd.S_mono HO634.1 (fun _ hk => trivial)⟩, ⟨zB0⟩⟩

/-! ### impl_goes: function 64 -/
def impl_goes.f (k : Nat) (l0_0 : List Int) (a0_1 : Int) (a0_2 : Int) : Option (Bool) := (impl_HartOk.f k l0_0 a0_1 a0_2).bind fun t636 => (if t636 = true then (some (a0_2 == 0)) else (some false))
theorem impl_goes.mono : ∀ a0 a1 a2 k, LeO (impl_goes.f k a0 a1 a2) (impl_goes.f (k + 1) a0 a1 a2) := by
 intro a0 a1 a2 k
 unfold impl_goes.f
 have mo0 := @impl_HartOk.mono
 exact zL
theorem impl_goes.calls (k : Nat) (A0_0 : Option Addr) (c0_0 : Nat) (l0_0 : List Int) (a0_1 : Int) (a0_2 : Int) (r : Bool) (w : World) (hr0_0 : Kd.C (Kd.int .i64) w A0_0 l0_0.length l0_0) (hc0_0 : l0_0.length ≤ c0_0) (h : impl_goes.f k l0_0 a0_1 a0_2 = some r) :
  Calls Try.prog 64 #[.agg #[.slice A0_0 l0_0.length c0_0, .int .i64 a0_1, .int .i64 a0_2]] w fun e w' => e = .returned (.bool r) ∧ Below w.heap.size w w' := by
 have hu29 := Try.underlying29
 have HR0_0 := zM hr0_0
 have HC0_0 := zM hc0_0
 clear hr0_0 hc0_0
 have HB := zM (Below.refl w.heap.size w)
 unfold impl_goes.f at h
 have H := h
 clear h
 replace H := zO H
 obtain ⟨t636, A2, H⟩ := H
 by_cases c3 : t636 = true
 rotate_left
 ·replace c3 := Bool.eq_false_iff.mpr c3
  subst c3
  rw [if_neg zF] at H
  obtain rfl := Option.some.inj H
  go_enter Try.func64, Try.ntmps64
  go_wp2_with (first | ((with_reducible refine zBx 1 29 #[.slice A0_0 l0_0.length c0_0, .int .i64 a0_1, .int .i64 a0_2] ?_); intro gb635 hg w8 hbox hb; have BK635 := zM hbox; have GW635 := zM (zW hg (below_size zB0)); have GE635 := zM (zW hg (below_size zB0)); replace HB := zM (below_step zB0 hb); clear hb hbox hg; have hcz9 := zc_3 (w := w8) BK635.1) | ((with_reducible refine zG Try.func58 4 #[.agg #[.slice A0_0 l0_0.length c0_0, .int .i64 a0_1, .int .i64 a0_2]] ?_); (with_reducible refine (impl_HartOk.calls k _ _ l0_0 a0_1 a0_2 false _ ?side1 ?side2 A2.1).mono ?_); (case side1 => exact zC (Kd.C_below HR0_0.1 HB.1)); (case side2 => exact HC0_0.1); rintro e w10 ⟨rfl, hb⟩; refine ⟨_, rfl, ?_⟩; replace BK635 := zM (zb BK635.1 hb); replace HB := zM (below_step zB0 hb); clear hb))
  go_ret
  exact ⟨zE, zB0⟩
 subst c3
 rw [if_pos rfl] at H
 obtain rfl := Option.some.inj H
 go_enter Try.func64, Try.ntmps64
 go_wp2_with (first | ((with_reducible refine zBx 1 29 #[.slice A0_0 l0_0.length c0_0, .int .i64 a0_1, .int .i64 a0_2] ?_); intro gb635 hg w4 hbox hb; have BK635 := zM hbox; have GW635 := zM (zW hg (below_size zB0)); have GE635 := zM (zW hg (below_size zB0)); replace HB := zM (below_step zB0 hb); clear hb hbox hg; have hcz5 := zc_3 (w := w4) BK635.1) | ((with_reducible refine zG Try.func58 4 #[.agg #[.slice A0_0 l0_0.length c0_0, .int .i64 a0_1, .int .i64 a0_2]] ?_); (with_reducible refine (impl_HartOk.calls k _ _ l0_0 a0_1 a0_2 true _ ?side1 ?side2 A2.1).mono ?_); (case side1 => exact zC (Kd.C_below HR0_0.1 HB.1)); (case side2 => exact HC0_0.1); rintro e w6 ⟨rfl, hb⟩; refine ⟨_, rfl, ?_⟩; replace BK635 := zM (zb BK635.1 hb); replace HB := zM (below_step zB0 hb); clear hb; have hcz7 := zc_3 (w := w6) BK635.1))
 go_ret
 exact ⟨zE, zB0⟩

end Go.Proofs.Ytnjdepmlpdjghaa.PFnAllEnds
