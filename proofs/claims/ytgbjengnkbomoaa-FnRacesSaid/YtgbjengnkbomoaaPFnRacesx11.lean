-- made by wip/tools/myprint.py out of the seat's translation
import Derived.Test.YtgbjengnkbomoaaPFnRacesx0
import Derived.Test.YtgbjengnkbomoaaPFnRacesx2
import Derived.Test.YtgbjengnkbomoaaPFnRacesx4
import Derived.Test.YtgbjengnkbomoaaPFnRacesx8
import Derived.Test.YtgbjengnkbomoaaPFnRacesx9
import Derived.Test.YtgbjengnkbomoaaPFnRacesx10
namespace Go.Proofs.Ytgbjengnkbomoaa.PFnRaces
open Go.RowKit Go.Proofs.YtgbjengnkbomoaaW.PrintWords Go.Proofs.YtgbjengnkbomoaaW.PrintLast Go.Proofs.YtgbjengnkbomoaaW.PrintMore
attribute [local go_sem] max2_int min2_int max_two min_two max_three min_three max_four min_four   -- for this text's walks alone
set_option linter.unusedVariables false
set_option linter.unusedSimpArgs false
set_option maxHeartbeats 8000000
set_option maxRecDepth 100000

/-! ### spec_l18DrawRun: function 59 -/
mutual
def spec_l18DrawRun.l0 : Nat → Int → List Int → List (S49) → Int → List Int → Int → Int → Option (List Int × (List (S49)) × List Int × Int × Int)
 | 0, _, _, _, _, _, _, _ => none
 | k + 1, x1, x7, x8, x9, x1000, x1001, x1002 => (spec_l1Below.f x1000 x1001 x1002 3).bind fun bt500 => (if x9 < (wrap64 (1 + bt500.1)) then ((spec_l9DrawHart.f k x1000 bt500.2.1 bt500.2.2).bind fun bt503 => ((spec_HartOk.f k bt503.1 bt503.2.1 bt503.2.2.1).bind fun t511 => (if t511 = true then (if x8.length < 3518437208883 then (spec_l18DrawRun.l0 k x1 x7 (x8 ++ [(⟨bt503.1, bt503.2.1, bt503.2.2.1⟩ : S49)]) (wrap64 (x9 + 1)) x1000 bt503.2.2.2.1 bt503.2.2.2.2) else (none)) else ((spec_l1Below.f x1000 bt503.2.2.2.1 bt503.2.2.2.2 20).bind fun bt515 => ((spec_HartNew.f bt515.1).bind fun bt518 => (if x8.length < 3518437208883 then (spec_l18DrawRun.l0 k x1 x7 (x8 ++ [(⟨bt518.1, bt518.2.1, bt518.2.2⟩ : S49)]) (wrap64 (x9 + 1)) x1000 bt515.2.1 bt515.2.2) else (none))))))) else (spec_l18DrawRun.l1 k x1 x7 x8 (([] : List Int)) 0 x1000 bt500.2.1 bt500.2.2))
def spec_l18DrawRun.l1 : Nat → Int → List Int → List (S49) → List Int → Int → List Int → Int → Int → Option (List Int × (List (S49)) × List Int × Int × Int)
 | 0, _, _, _, _, _, _, _, _ => none
 | k + 1, x1, x7, x8, x11, x12, x1000, x1001, x1002 => (spec_l1Below.f x1000 x1001 x1002 x1).bind fun bt529 => (if x12 < bt529.1 then ((spec_l1Below.f x1000 bt529.2.1 bt529.2.2 (x8.length : Int)).bind fun bt532 => (if x11.length < 17592186044416 then (spec_l18DrawRun.l1 k x1 x7 x8 (x11 ++ [bt532.1]) (wrap64 (x12 + 1)) x1000 bt532.2.1 bt532.2.2) else (none))) else (some (x7, x8, x11, bt529.2.1, bt529.2.2)))
end
def spec_l18DrawRun.f (k : Nat) (s0_0 : List Int) (s0_1 : Int) (s0_2 : Int) (a1 : Int) : Option (List Int × (List (S49)) × List Int × Int × Int) := (spec_l9DrawMem.f k s0_0 s0_1 s0_2).bind fun bt492 => (spec_l18DrawRun.l0 k a1 bt492.1 (([] : List (S49))) 0 s0_0 bt492.2.1 bt492.2.2)
theorem spec_l18DrawRun.mono_l : ∀ k, (∀ y0 y1 y2 y3 y4 y5 y6, LeO (spec_l18DrawRun.l0 k y0 y1 y2 y3 y4 y5 y6) (spec_l18DrawRun.l0 (k + 1) y0 y1 y2 y3 y4 y5 y6)) ∧ (∀ y0 y1 y2 y3 y4 y5 y6 y7, LeO (spec_l18DrawRun.l1 k y0 y1 y2 y3 y4 y5 y6 y7) (spec_l18DrawRun.l1 (k + 1) y0 y1 y2 y3 y4 y5 y6 y7))
 | 0 => ⟨fun _ _ _ _ _ _ _ r h => by simp [spec_l18DrawRun.l0] at h, fun _ _ _ _ _ _ _ _ r h => by simp [spec_l18DrawRun.l1] at h⟩
 | k + 1 => by
  obtain ⟨ih0, ih1⟩ := spec_l18DrawRun.mono_l k
  refine ⟨?_, ?_⟩
  ·intros
   unfold spec_l18DrawRun.l0
   have mo0 := @spec_HartOk.mono
   have mo1 := @spec_l9DrawHart.mono
   have mo2 := @spec_l9DrawMem.mono
   exact zL
  ·intros
   unfold spec_l18DrawRun.l1
   have mo0 := @spec_HartOk.mono
   have mo1 := @spec_l9DrawHart.mono
   have mo2 := @spec_l9DrawMem.mono
   exact zL
theorem spec_l18DrawRun.mono : ∀ a0 a1 a2 a3 k, LeO (spec_l18DrawRun.f k a0 a1 a2 a3) (spec_l18DrawRun.f (k + 1) a0 a1 a2 a3) := by
 intro a0 a1 a2 a3 k
 obtain ⟨ih0, ih1⟩ := spec_l18DrawRun.mono_l k
 unfold spec_l18DrawRun.f
 have mo0 := @spec_HartOk.mono
 have mo1 := @spec_l9DrawHart.mono
 have mo2 := @spec_l9DrawMem.mono
 exact zL
theorem l1Words_len {n : Int} : ∀ (k : Nat) (r : List Int) (x : Int), spec_l1Words.l0 k r n x = some true → (r.length : Int) = n
 | 0, r, x, h => by simp [spec_l1Words.l0] at h
 | k + 1, r, x, h => by
  unfold spec_l1Words.l0 at h
  by_cases c : x < (r.length : Int)
  rotate_left
  ·rw [if_neg c] at h; simpa using h
  rw [if_pos c] at h
  by_cases c2 : 0 ≤ x
  rotate_left
  ·rw [if_neg c2] at h; cases h
  rw [if_pos c2] at h
  obtain ⟨b, hb, h⟩ := Option.bind_eq_some_iff.1 h
  cases b with
  | true => exact l1Words_len k r _ (by simpa using h)
  | false => simp at h
theorem hartOk_len {k : Nat} {r : List Int} {p s : Int} (h : spec_HartOk.f k r p s = some true) : r.length = 4 := by
 unfold spec_HartOk.f at h
 obtain ⟨b, hb, h⟩ := Option.bind_eq_some_iff.1 h
 cases b with
 | false => simp at h
 | true =>
  have := l1Words_len k r 0 (show spec_l1Words.l0 k r 4 0 = some true from hb)
  omega
theorem spec_l18DrawRun.calls (k : Nat) (g : Nat) (s0_0 : List Int) (s0_1 : Int) (s0_2 : Int) (a1 : Int) (r1 : List Int) (r2 : List (S49)) (r3 : List Int) (r4 : Int) (r5 : Int) (w0 w : World) (hI : IsS90 w0 w g s0_0 s0_1 s0_2) (hB : Below w0.heap.size w0 w) (h : spec_l18DrawRun.f k s0_0 s0_1 s0_2 a1 = some (r1, r2, r3, r4, r5)) :
  Calls Try.prog 59 #[.pointer (some ⟨g, 0, none⟩), .int .i64 a1] w fun e w' => ∃ v0_ v1_ v2_ : Value, e = .returned (.tuple #[v0_, v1_, v2_]) ∧ Kd.R (Kd.int .i64) 3 w' w.heap.size (fun k_ => some k_ ≠ (v2_ : Value).ownBlock) v0_ r1 ∧ Kd.S k49 49 w' w.heap.size (fun k_ => some k_ ≠ (v0_ : Value).ownBlock ∧ some k_ ≠ (v2_ : Value).ownBlock) v1_ r2 ∧ Kd.R (Kd.int .i64) 3 w' w.heap.size (fun k_ => some k_ ≠ (v0_ : Value).ownBlock) v2_ r3 ∧ IsS90 w0 w' g s0_0 r4 r5 ∧ Below w0.heap.size w0 w' ∧ KeepBut w w' g none := by
 have hu49 := Try.underlying49
 have HI0 := zM hI
 have HK := zM (KeepBut.refl w g none)
 have HL := zM hB.size
 clear hI
 have HW0 := zM hB.size
 have HB := zM hB
 clear hB
 unfold spec_l18DrawRun.f at h
 have H := h
 clear h
 replace H := zO H
 obtain ⟨⟨t492, t495, t496⟩, A3, H⟩ := H
 try dsimp only at H
 generalize hy497 : ((([] : List (S49))) : List (S49)) = y497 at H
 have Ny497 := zM hy497.symm
 clear hy497
 have H' := zM H
 clear H
 go_enter Try.func59, Try.ntmps59
 go_wp2_with (first | ((with_reducible refine zG Try.func81 14 #[.pointer (some ⟨g, 0, none⟩)] ?_); (with_reducible refine (spec_l9DrawMem.calls k g s0_0 s0_1 s0_2 t492 t495 t496 w0 _ ?side1 ?side2 A3.1).mono ?_); (case side1 => exact zB32); (case side2 => exact zB33); rintro e w4 ⟨v493, rfl, ho0, hi, hb, hk⟩; refine ⟨_, rfl, ?_⟩; have HO494 := zM (Kd.R_lower ho0 (keep_size (w := w) (g := g) (row := none) zB34)); replace HK := zM (KeepBut.trans zB34 hk (.inl rfl)); replace HB := zM hb; replace HI0 := zM hi; clear hb hk hi ho0) | ((with_reducible refine gate_dst (N := 15) rfl ?_); refine Kd.S_lit k49 _ 49 ?hg (N := 15) ?hd (xs := ([] : List (S49))) (inner := []) (ok := fun _ => True) (okp := fun _ => True) ?hr ?hp (fun _ hk => hk) trivial (Below.refl _ _) (Nat.le_refl _) (by simp) ?_; (case hd => rfl); (case hg => rfl); (case hr => exact zHH); (case hp => exact (Reps.none _ _)); intro v498 w5 ho6 hb hg_ hnew_; clear hg_ hnew_; (first | rw [← Ny497.1] at ho6 | (simp only [Int.reduceToNat] at ho6; rw [← Ny497.1] at ho6)); have HO499 := zM (Kd.S_lower (Kd.S_new' ho6 (Kd.R_lt (zR HO494.1))) (keep_size (w := w) (g := g) (row := none) zB34)); replace HO494 := zM (Kd.R_below (zR HO494.1) hb); replace HK := zM (KeepBut.trans zB34 (KeepBut.of_below hb g none) (.inl rfl)); replace HB := zM (below_step zB33 hb); replace HI0 := zM (IsS90.below zB32 hb); clear hb ho6))
 go_loopg [8, 9] k (fun kq v8 v9 w' => ∃ (x8_1 : List (S49)) (x9_1 : Int) (x1001_1 : Int) (x1002_1 : Int), v9 = .int .i64 x9_1 ∧ Aside0 (spec_l18DrawRun.l0 kq a1 t492 x8_1 x9_1 s0_0 x1001_1 x1002_1 = some (r1, r2, r3, r4, r5)) ∧ Aside0 (kq ≤ k) ∧ Aside0 (Kd.R (Kd.int .i64) 3 w' w.heap.size (fun _ => True) v493 t492) ∧ Aside0 (Kd.S k49 49 w' w.heap.size (fun k_ => some k_ ≠ (v493 : Value).ownBlock) v8 x8_1) ∧ Aside0 (IsS90 w0 w' g s0_0 x1001_1 x1002_1) ∧ Aside0 (KeepBut w w' g none) ∧ Aside0 (Below w0.heap.size w0 w'))
 case atStart => exact ⟨(y497), (0), (t495), (t496), zJJ, H', ⟨Nat.le_refl _⟩, ⟨zR HO494.1⟩, ⟨by refine zrS ?_; exact Kd.S_mono HO499.1 (fun _ hk => hk.2)⟩, ⟨zB32⟩, ⟨zB34⟩, ⟨zB33⟩⟩
 case round =>
  clear H'
  obtain ⟨x8_1, x9_1, x1001_1, x1002_1, rfl, HA, HK1, HO_7, HO_8, HI0, HK, HB⟩ := hrel
  cases gk with
  | zero => exact absurd HA.1 (by simp [spec_l18DrawRun.l0])
  | succ k1 =>
   have H := HA.1
   clear HA
   simp only [spec_l18DrawRun.l0] at H
   replace H := zO H
   obtain ⟨⟨t500, t501, t502⟩, A7, H⟩ := H
   try dsimp only at H
   by_cases c8 : x9_1 < (wrap64 (1 + t500))
   rotate_left
   ·rw [if_neg c8] at H
    have c8b0 := decide_eq_false c8
    clear c8
    generalize hy526 : ((([] : List Int)) : List Int) = y526 at H
    have Ny526 := zM hy526.symm
    clear hy526
    have H' := zM H
    clear H
    go_wp2_with (first | ((with_reducible refine zG Try.func42 18 #[.pointer (some ⟨g, 0, none⟩), .int .i64 3] ?_); (with_reducible refine (spec_l1Below.calls g s0_0 x1001_1 x1002_1 3 t500 t501 t502 w0 _ ?side1 ?side2 A7.1).mono ?_); (case side1 => exact zB32); (case side2 => exact zB33); rintro e w39 ⟨rfl, hi, hb, hk⟩; refine ⟨_, rfl, ?_⟩; replace HO_7 := zM (Kd.R_mono (Kd.R_keep (IsS90.apart (show IsS90 w0 _ g s0_0 x1001_1 x1002_1 from zB32) (zR HO_7.1) (by decide)) hk (fun _ h => h.2)) (fun _ h => h.1)); replace HO_8 := zM (Kd.S_mono (Kd.S_keep (IsS90.apartS (show IsS90 w0 _ g s0_0 x1001_1 x1002_1 from zB32) (zS HO_8.1) (by decide)) hk (fun _ h => h.2)) (fun _ h => h.1)); replace HK := zM (KeepBut.trans zB34 hk (.inl rfl)); replace HB := zM hb; replace HI0 := zM hi; clear hb hk hi) | ((with_reducible refine gate_dst (N := 35) rfl ?_); refine Kd.R_lit (Kd.int .i64) _ 3 ?hg (N := 35) ?hd (xs := ([] : List Int)) (inner := []) (ok := fun _ => True) (okp := fun _ => True) ?hr ?hp (fun _ hk => hk) trivial (Below.refl _ _) (Nat.le_refl _) (by simp) ?_; (case hd => rfl); (case hg => rfl); (case hr => exact zHH); (case hp => exact (Reps.none _ _)); intro v527 w40 ho41 hb hg_ hnew_; clear hg_ hnew_; (first | rw [← Ny526.1] at ho41 | (simp only [Int.reduceToNat] at ho41; rw [← Ny526.1] at ho41)); replace HO_8 := zM (Kd.S_elder' (zS HO_8.1) (Kd.R_base ho41) hb); have HO528 := zM (Kd.R_lower (Kd.R_new' ho41 (Kd.R_lt (zR HO_7.1))) (keep_size (w := w) (g := g) (row := none) zB34)); replace HO_7 := zM (Kd.R_elder' (zR HO_7.1) (Kd.R_base ho41) hb); replace HK := zM (KeepBut.trans zB34 (KeepBut.of_below hb g none) (.inl rfl)); replace HB := zM (below_step zB33 hb); replace HI0 := zM (IsS90.below zB32 hb); clear hb ho41))
    go_loopg [11, 12] k1 (fun kq v11 v12 w' => ∃ (x11_2 : List Int) (x12_2 : Int) (x1001_2 : Int) (x1002_2 : Int), v12 = .int .i64 x12_2 ∧ Aside0 (spec_l18DrawRun.l1 kq a1 t492 x8_1 x11_2 x12_2 s0_0 x1001_2 x1002_2 = some (r1, r2, r3, r4, r5)) ∧ Aside0 (kq ≤ k1) ∧ Aside0 (Kd.R (Kd.int .i64) 3 w' w.heap.size (fun k_ => some k_ ≠ (v11 : Value).ownBlock) v493 t492) ∧ Aside0 (Kd.S k49 49 w' w.heap.size (fun k_ => some k_ ≠ (v493 : Value).ownBlock ∧ some k_ ≠ (v11 : Value).ownBlock) u8 x8_1) ∧ Aside0 (Kd.R (Kd.int .i64) 3 w' w.heap.size (fun k_ => some k_ ≠ (v493 : Value).ownBlock) v11 x11_2) ∧ Aside0 (IsS90 w0 w' g s0_0 x1001_2 x1002_2) ∧ Aside0 (KeepBut w w' g none) ∧ Aside0 (Below w0.heap.size w0 w'))
    case atStart => exact ⟨(y526), (0), (t501), (t502), zJJ, H', ⟨Nat.le_refl _⟩, ⟨by refine zrR ?_; exact Kd.R_mono HO_7.1 (fun _ hk => hk.2)⟩, ⟨zS HO_8.1⟩, ⟨by refine zrR ?_; exact Kd.R_mono HO528.1 (fun _ hk => hk.2)⟩, ⟨zB32⟩, ⟨zB34⟩, ⟨zB33⟩⟩
    case round =>
     clear H'
     obtain ⟨x11_2, x12_2, x1001_2, x1002_2, rfl, HA, HK2, HO_7, HO_8, HO_11, HI0, HK, HB⟩ := hrel
     cases gk with
     | zero => exact absurd HA.1 (by simp [spec_l18DrawRun.l1])
     | succ k2 =>
      have H := HA.1
      clear HA
      simp only [spec_l18DrawRun.l1] at H
      replace H := zO H
      obtain ⟨⟨t529, t530, t531⟩, A42, H⟩ := H
      try dsimp only at H
      by_cases c43 : x12_2 < t529
      rotate_left
      ·rw [if_neg c43] at H
       have c43b0 := decide_eq_false c43
       clear c43
       simp only [Option.some.injEq, Prod.mk.injEq] at H
       obtain ⟨rfl, rfl, rfl, rfl, rfl⟩ := H
       go_wp2_with (first | ((with_reducible refine zG Try.func42 39 #[.pointer (some ⟨g, 0, none⟩), .int .i64 a1] ?_); (with_reducible refine (spec_l1Below.calls g s0_0 x1001_2 x1002_2 a1 t529 t530 t531 w0 _ ?side1 ?side2 A42.1).mono ?_); (case side1 => exact zB32); (case side2 => exact zB33); rintro e w50 ⟨rfl, hi, hb, hk⟩; refine ⟨_, rfl, ?_⟩; replace HO_7 := zM (Kd.R_mono (Kd.R_keep (IsS90.apart (show IsS90 w0 _ g s0_0 x1001_2 x1002_2 from zB32) (zR HO_7.1) (by decide)) hk (fun _ h => h.2)) (fun _ h => h.1)); replace HO_8 := zM (Kd.S_mono (Kd.S_keep (IsS90.apartS (show IsS90 w0 _ g s0_0 x1001_2 x1002_2 from zB32) (zS HO_8.1) (by decide)) hk (fun _ h => h.2)) (fun _ h => h.1)); replace HO_11 := zM (Kd.R_mono (Kd.R_keep (IsS90.apart (show IsS90 w0 _ g s0_0 x1001_2 x1002_2 from zB32) (zR HO_11.1) (by decide)) hk (fun _ h => h.2)) (fun _ h => h.1)); replace HK := zM (KeepBut.trans zB34 hk (.inl rfl)); replace HB := zM hb; replace HI0 := zM hi; clear hb hk hi))
       go_ret3
       exact ⟨_, _, _, zE, zR HO_7.1, zS HO_8.1, zR HO_11.1, zB32, zB33, zB34⟩
      rw [if_pos c43] at H
      have c43b0 := decide_eq_true c43
      clear c43
      replace H := zO H
      obtain ⟨⟨t532, t533, t534⟩, A44, H⟩ := H
      try dsimp only at H
      replace H := zIn H
      obtain ⟨LMc45, H⟩ := H
      generalize hy535 : ((x11_2 ++ [t532]) : List Int) = y535 at H
      have Ny535 := zM hy535.symm
      clear hy535
      have H' := zM H
      clear H
      go_wp2_with (first | ((with_reducible refine zG Try.func42 39 #[.pointer (some ⟨g, 0, none⟩), .int .i64 a1] ?_); (with_reducible refine (spec_l1Below.calls g s0_0 x1001_2 x1002_2 a1 t529 t530 t531 w0 _ ?side1 ?side2 A42.1).mono ?_); (case side1 => exact zB32); (case side2 => exact zB33); rintro e w46 ⟨rfl, hi, hb, hk⟩; refine ⟨_, rfl, ?_⟩; replace HO_7 := zM (Kd.R_mono (Kd.R_keep (IsS90.apart (show IsS90 w0 _ g s0_0 x1001_2 x1002_2 from zB32) (zR HO_7.1) (by decide)) hk (fun _ h => h.2)) (fun _ h => h.1)); replace HO_8 := zM (Kd.S_mono (Kd.S_keep (IsS90.apartS (show IsS90 w0 _ g s0_0 x1001_2 x1002_2 from zB32) (zS HO_8.1) (by decide)) hk (fun _ h => h.2)) (fun _ h => h.1)); replace HO_11 := zM (Kd.R_mono (Kd.R_keep (IsS90.apart (show IsS90 w0 _ g s0_0 x1001_2 x1002_2 from zB32) (zR HO_11.1) (by decide)) hk (fun _ h => h.2)) (fun _ h => h.1)); replace HK := zM (KeepBut.trans zB34 hk (.inl rfl)); replace HB := zM hb; replace HI0 := zM hi; clear hb hk hi; obtain ⟨Ao47, co47, eo47⟩ := Kd.S_slice HO_8.1; subst eo47) | ((with_reducible refine zG Try.func42 47 #[.pointer (some ⟨g, 0, none⟩), .int .i64 (x8_1.length : Int)] ?_); (with_reducible refine (spec_l1Below.calls g s0_0 t530 t531 (x8_1.length : Int) t532 t533 t534 w0 _ ?side1 ?side2 A44.1).mono ?_); (case side1 => exact zB32); (case side2 => exact zB33); rintro e w48 ⟨rfl, hi, hb, hk⟩; refine ⟨_, rfl, ?_⟩; replace HO_7 := zM (Kd.R_mono (Kd.R_keep (IsS90.apart (show IsS90 w0 _ g s0_0 t530 t531 from zB32) (zR HO_7.1) (by decide)) hk (fun _ h => h.2)) (fun _ h => h.1)); replace HO_8 := zM (Kd.S_mono (Kd.S_keep (IsS90.apartS (show IsS90 w0 _ g s0_0 t530 t531 from zB32) (zS HO_8.1) (by decide)) hk (fun _ h => h.2)) (fun _ h => h.1)); replace HO_11 := zM (Kd.R_mono (Kd.R_keep (IsS90.apart (show IsS90 w0 _ g s0_0 t530 t531 from zB32) (zR HO_11.1) (by decide)) hk (fun _ h => h.2)) (fun _ h => h.1)); replace HK := zM (KeepBut.trans zB34 hk (.inl rfl)); replace HB := zM hb; replace HI0 := zM hi; clear hb hk hi) | ((with_reducible refine gate_builtin (b := .append) (xs := #[.tmp 43, .tmp 48]) rfl ?_); at_builtin; refine Kd.R_append (Kd.int .i64) w.heap.size rfl (.tmp 43) (.tmp 48) 29 3 (.int .i64 0) 8 rfl Try.underlying29 info3 rfl (by decide) (by omega) u11 x11_2 t532 [.int .i64 t532] (fun k_ => some k_ ≠ (v493 : Value).ownBlock) (fun _ => False) rfl rfl ?aP (fun _ hk => hk.elim) ?aF ?aO (Below.refl _ _) ?aS ?aL ?_; (case aP => exact rfl); (case aF => exact (fun k_ hk => Kd.fresh' (Kd.R_lt (zR HO_7.1)) k_ hk)); (case aO => exact (zR HO_11.1)); (case aS => exact (keep_size (w := w) (g := g) (row := none) zB34)); (case aL => have := LMc45.out; omega); intro v536 w49 ho hb hg hat; rw [← Ny535.1] at ho; replace HO_7 := zM (Kd.R_after (ok := (fun _ => True)) (by refine zrR ?_; exact Kd.R_mono HO_7.1 (fun _ hk => ⟨trivial, hk⟩)) hg hat); replace HO_8 := zM (Kd.S_after (ok := (fun k_ => some k_ ≠ (v493 : Value).ownBlock)) (zS HO_8.1) hg hat); replace HB := zM (below_weaken zB33 HL.1 hb); replace HI0 := zM (IsS90.grown (show IsS90 w0 _ g s0_0 t533 t534 from zB32) hg (IsS90.own_ne HI0.1 HO_11.1 (by decide))); replace HK := zM (KeepBut.trans zB34 (KeepBut.of_grown hg g) (Kd.R_base2 HO_11.1)); have HO537 := zM ho; clear HO_11; clear ho hb hg hat))
      go_roundg k2
      case measure => have := HK1.1; have := HK2.1; omega
      case rel => exact ⟨(y535), (wrap64 (x12_2 + 1)), (t533), (t534), zJJ, H', ⟨by have := HK1.1; have := HK2.1; omega⟩, ⟨by refine zrR ?_; exact Kd.R_mono HO_7.1 (fun _ hk => hk.2)⟩, ⟨zS HO_8.1⟩, ⟨zR HO537.1⟩, ⟨zB32⟩, ⟨zB34⟩, ⟨zB33⟩⟩
   rw [if_pos c8] at H
   have c8b0 := decide_eq_true c8
   clear c8
   replace H := zO H
   obtain ⟨⟨t503, t506, t507, t508, t509⟩, A9, H⟩ := H
   try dsimp only at H
   replace H := zO H
   obtain ⟨t511, A10, H⟩ := H
   by_cases c11 : t511 = true
   ·subst c11
    rw [if_pos rfl] at H
    replace H := zIn H
    obtain ⟨LMc12, H⟩ := H
    generalize hy512 : ((x8_1 ++ [(⟨t503, t506, t507⟩ : S49)]) : List (S49)) = y512 at H
    have Ny512 := zM hy512.symm
    clear hy512
    have H' := zM H
    clear H
    go_wp2_with (first | ((with_reducible refine zG Try.func42 18 #[.pointer (some ⟨g, 0, none⟩), .int .i64 3] ?_); (with_reducible refine (spec_l1Below.calls g s0_0 x1001_1 x1002_1 3 t500 t501 t502 w0 _ ?side1 ?side2 A7.1).mono ?_); (case side1 => exact zB32); (case side2 => exact zB33); rintro e w13 ⟨rfl, hi, hb, hk⟩; refine ⟨_, rfl, ?_⟩; replace HO_7 := zM (Kd.R_mono (Kd.R_keep (IsS90.apart (show IsS90 w0 _ g s0_0 x1001_1 x1002_1 from zB32) (zR HO_7.1) (by decide)) hk (fun _ h => h.2)) (fun _ h => h.1)); replace HO_8 := zM (Kd.S_mono (Kd.S_keep (IsS90.apartS (show IsS90 w0 _ g s0_0 x1001_1 x1002_1 from zB32) (zS HO_8.1) (by decide)) hk (fun _ h => h.2)) (fun _ h => h.1)); replace HK := zM (KeepBut.trans zB34 hk (.inl rfl)); replace HB := zM hb; replace HI0 := zM hi; clear hb hk hi) | ((with_reducible refine zG Try.func82 24 #[.pointer (some ⟨g, 0, none⟩)] ?_); (with_reducible refine (spec_l9DrawHart.calls k1 g s0_0 t501 t502 t503 t506 t507 t508 t509 w0 _ ?side1 ?side2 A9.1).mono ?_); (case side1 => exact zB32); (case side2 => exact zB33); rintro e w14 ⟨v504, rfl, hoq_, hi, hb, hk⟩; have ho0 := hoq_.2 (hartOk_len A10.1); clear hoq_; refine ⟨_, rfl, ?_⟩; replace HO_8 := zM (Kd.S_mono (Kd.S_told (Kd.S_oldK (IsS90.apartS (show IsS90 w0 _ g s0_0 t501 t502 from zB32) (zS HO_8.1) (by decide)) hk) (Kd.R_base ho0)) (fun _ h_ => h_.1)); have HO505 := zM (Kd.R_lower (Kd.R_new' ho0 (Kd.R_lt (zR HO_7.1))) (keep_size (w := w) (g := g) (row := none) zB34)); replace HO_7 := zM (Kd.R_mono (Kd.R_told (Kd.R_oldK (IsS90.apart (show IsS90 w0 _ g s0_0 t501 t502 from zB32) (zR HO_7.1) (by decide)) hk) (Kd.R_base ho0)) (fun _ h_ => h_.1)); replace HK := zM (KeepBut.trans zB34 hk (.inl rfl)); replace HB := zM hb; replace HI0 := zM hi; clear hb hk hi) | ((with_reducible refine zBx 10 49 #[.slice none 0 0, .int .i64 0, .int .i64 0] ?_); intro gb510 hg w15 hbox hb; replace HO_7 := zM (Kd.R_below (zR HO_7.1) hb); replace HO_8 := zM (Kd.S_below (Kd.S_elderB (zS HO_8.1) gb510 (Nat.le_of_eq hg.symm)) hb); replace HO505 := zM (Kd.R_below (zR HO505.1) hb); replace HB := zM (below_step zB33 hb); have BK510 := zM hbox; have GW510 := zM ((by rw [hg]; exact (keep_size (w := w) (g := g) (row := none) zB34) : w.heap.size ≤ gb510)); have GE510 := zM ((Nat.le_trans HW0.1 (by rw [hg]; exact (keep_size (w := w) (g := g) (row := none) zB34) : w.heap.size ≤ gb510) : w0.heap.size ≤ gb510)); replace HK := zM (KeepBut.trans zB34 (KeepBut.of_below hb g none) (.inl rfl)); have NB0_510 := zM ((by rw [hg]; exact Nat.ne_of_lt (IsS90.lt (show IsS90 w0 _ g s0_0 t508 t509 from zB32)) : g ≠ gb510)); have NB510_0 := zM ((by rw [hg]; exact Nat.ne_of_gt (IsS90.lt (show IsS90 w0 _ g s0_0 t508 t509 from zB32)) : gb510 ≠ g)); replace HI0 := zM (IsS90.below zB32 hb); clear hb hbox hg; obtain ⟨Ao16, co16, eo16⟩ := Kd.R_slice HO505.1; subst eo16; have hnb17 := NB510_0.1; have hnc17 := NB0_510.1; have hcz18 := zc_3 (w := w15) BK510.1) | ((with_reducible refine zG Try.func76 26 #[.agg #[.slice Ao16 t503.length co16, .int .i64 t506, .int .i64 t507]] ?_); (with_reducible refine (spec_HartOk.calls k1 _ _ t503 t506 t507 true _ ?side1 ?side2 A10.1).mono ?_); (case side1 => refine (Kd.R_reads' (e := 3) (base := w.heap.size) (ok := fun k_ => (True ∧ some k_ ≠ (v493 : Value).ownBlock)) (n := t503.length) (c := co16) ?_).2.2; exact (by refine zrR ?_; exact (Kd.R_mono (zfR (zfR (zfR (Kd.R_types HO505.1 BK510.1 (by decide))))) (fun _ h_ => h_.1)))); (case side2 => exact (Kd.R_reads' HO505.1).2.1); rintro e w19 ⟨rfl, hb⟩; refine ⟨_, rfl, ?_⟩; replace HO_7 := zM (Kd.R_below (by refine zrR ?_; exact (Kd.R_mono (zfR (zfR (zfR (Kd.R_types HO_7.1 BK510.1 (by decide))))) (fun _ h_ => h_.1))) hb); replace HO_8 := zM (Kd.S_below (by refine zrS ?_; exact (Kd.S_mono (zfS (zfS (zfS (Kd.S_mono HO_8.1 (fun k_ hk => (⟨hk, hk.2⟩ : _ ∧ k_ ≠ gb510)))))) (fun _ h_ => h_.1))) hb); replace HO505 := zM (Kd.R_below (by refine zrR ?_; exact (Kd.R_mono (zfR (zfR (zfR (Kd.R_types HO505.1 BK510.1 (by decide))))) (fun _ h_ => h_.1))) hb); replace BK510 := zM (blk_below (g := gb510) (o := .cells #[.slice Ao16 t503.length co16, .int .i64 t506, .int .i64 t507] 49 (0, 0)) (by exact zp3 (zK BK510.1)) hb); replace HK := zM (KeepBut.trans zB34 (KeepBut.of_below hb g none) (.inl rfl)); replace HB := zM (below_step zB33 hb); replace HI0 := zM (IsS90.below (show IsS90 w0 (((w15.setCell ⟨gb510, 0, none⟩ (.slice Ao16 t503.length co16)).setCell ⟨gb510, 1, none⟩ (.int .i64 t506)).setCell ⟨gb510, 2, none⟩ (.int .i64 t507)) g s0_0 t508 t509 from zB55) hb); clear hb; have hcz20 := zc_3 (w := w19) BK510.1) | ((with_reducible refine gate_builtin (b := .append) (xs := #[.tmp 31, .tmp 33]) rfl ?_); at_builtin; refine Kd.S_append k49 w.heap.size rfl (.tmp 31) (.tmp 33) 51 49 (.agg #[(.slice none 0 0), (.int .i64 0), (.int .i64 0)]) 40 rfl Try.underlying51 info49 rfl (by decide) (by omega) u8 x8_1 (⟨t503, t506, t507⟩ : S49) [.slice Ao16 t503.length co16, .int .i64 t506, .int .i64 t507] (fun k_ => some k_ ≠ (v493 : Value).ownBlock ∧ k_ ≠ gb510) (fun k_ => some k_ = (.slice Ao16 t503.length co16 : Value).ownBlock) rfl rfl ?aP (fun k_ hk_ => ((Kd.R_mono (ok' := fun k_ => ((fun k_ => some k_ ≠ (v493 : Value).ownBlock ∧ k_ ≠ gb510)) k_ ∧ some k_ ≠ (u8 : Value).ownBlock) (Kd.R_types (Kd.R_apart' (HO505.1) (Kd.S_typed HO_8.1) (by decide)) BK510.1 (by decide)) (fun k_ hk => ⟨⟨hk.1.1.2, hk.2⟩, hk.1.2⟩))).1 k_ hk_.symm) ?aF ?aO (Below.refl _ _) ?aS ?aL ?_; (case aP => exact k49_mkM _ _ _ (⟨t503, t506, t507⟩ : S49) (Kd.R_mono (Kd.R_tight rfl (Kd.R_mono (ok' := fun k_ => ((fun k_ => some k_ ≠ (v493 : Value).ownBlock ∧ k_ ≠ gb510)) k_ ∧ some k_ ≠ (u8 : Value).ownBlock) (Kd.R_types (Kd.R_apart' (HO505.1) (Kd.S_typed HO_8.1) (by decide)) BK510.1 (by decide)) (fun k_ hk => ⟨⟨hk.1.1.2, hk.2⟩, hk.1.2⟩))) (fun _ h_ => h_))); (case aF => exact (fun k_ hk => ⟨Kd.fresh' (Kd.R_lt (zR HO_7.1)) k_ hk, Kd.freshB (g := gb510) (o := .cells #[.slice Ao16 t503.length co16, .int .i64 t506, .int .i64 t507] 49 (0, 0)) (zK BK510.1) k_ hk⟩)); (case aO => exact (by refine zrS ?_; exact Kd.S_mono HO_8.1 (fun k_ hk => ⟨⟨hk.1.1, hk.2⟩, fun e_ => hk.1.2 e_⟩))); (case aS => exact (keep_size (w := w) (g := g) (row := none) zB34)); (case aL => have := LMc12.out; omega); intro v513 w21 ho hb hg hat; rw [← Ny512.1] at ho; replace HO_7 := zM (Kd.R_over' (zR HO_7.1) (Kd.S_typed (zS HO_8.1)) (by decide) hg); replace BK510 := zM (zg BK510.1 hg (Kd.S_away HO_8.1 (fun _ hk => hk.2))); replace HB := zM (below_weaken zB33 HL.1 hb); replace HI0 := zM (IsS90.grown (show IsS90 w0 _ g s0_0 t508 t509 from zB55) hg (IsS90.own_neS HI0.1 HO_8.1 (by decide))); replace HK := zM (KeepBut.trans zB34 (KeepBut.of_grown hg g) (Kd.S_base2 HO_8.1)); have HO514 := zM ho; clear HO_8 HO505; clear ho hb hg hat))
    go_roundg k1
    case measure => have := HK1.1; omega
    case rel => exact ⟨(y512), (wrap64 (x9_1 + 1)), (t508), (t509), zJJ, H', ⟨by have := HK1.1; omega⟩, ⟨by refine zrR ?_; exact Kd.R_mono HO_7.1 (fun _ hk => trivial)⟩, ⟨by refine zrS ?_; exact Kd.S_mono HO514.1 (fun _ hk => hk.1)⟩, ⟨zB55⟩, ⟨zB34⟩, ⟨zB33⟩⟩
   replace c11 := Bool.eq_false_iff.mpr c11
   subst c11
   rw [if_neg zF] at H
   replace H := zO H
   obtain ⟨⟨t515, t516, t517⟩, A22, H⟩ := H
   try dsimp only at H
   replace H := zO H
   obtain ⟨⟨t518, t521, t522⟩, A23, H⟩ := H
   try dsimp only at H
   replace H := zIn H
   obtain ⟨LMc24, H⟩ := H
   generalize hy523 : ((x8_1 ++ [(⟨t518, t521, t522⟩ : S49)]) : List (S49)) = y523 at H
   have Ny523 := zM hy523.symm
   clear hy523
   have H' := zM H
   clear H
   go_wp2_with (first | ((with_reducible refine zG Try.func42 18 #[.pointer (some ⟨g, 0, none⟩), .int .i64 3] ?_); (with_reducible refine (spec_l1Below.calls g s0_0 x1001_1 x1002_1 3 t500 t501 t502 w0 _ ?side1 ?side2 A7.1).mono ?_); (case side1 => exact zB32); (case side2 => exact zB33); rintro e w25 ⟨rfl, hi, hb, hk⟩; refine ⟨_, rfl, ?_⟩; replace HO_7 := zM (Kd.R_mono (Kd.R_keep (IsS90.apart (show IsS90 w0 _ g s0_0 x1001_1 x1002_1 from zB32) (zR HO_7.1) (by decide)) hk (fun _ h => h.2)) (fun _ h => h.1)); replace HO_8 := zM (Kd.S_mono (Kd.S_keep (IsS90.apartS (show IsS90 w0 _ g s0_0 x1001_1 x1002_1 from zB32) (zS HO_8.1) (by decide)) hk (fun _ h => h.2)) (fun _ h => h.1)); replace HK := zM (KeepBut.trans zB34 hk (.inl rfl)); replace HB := zM hb; replace HI0 := zM hi; clear hb hk hi) | ((with_reducible refine zG Try.func82 24 #[.pointer (some ⟨g, 0, none⟩)] ?_); (with_reducible refine (spec_l9DrawHart.calls k1 g s0_0 t501 t502 t503 t506 t507 t508 t509 w0 _ ?side1 ?side2 A9.1).mono ?_); (case side1 => exact zB32); (case side2 => exact zB33); rintro e w26 ⟨v504, rfl, hoq_, hi, hb, hk⟩; have ho0 := hoq_.1; clear hoq_; refine ⟨_, rfl, ?_⟩; replace HO_8 := zM (Kd.S_mono (Kd.S_told (Kd.S_oldK (IsS90.apartS (show IsS90 w0 _ g s0_0 t501 t502 from zB32) (zS HO_8.1) (by decide)) hk) (Kd.Q_base ho0)) (fun _ h_ => h_.1)); have HO505 := zM (Kd.Q_lower (Kd.Q_new' ho0 (Kd.R_lt (zR HO_7.1))) (keep_size (w := w) (g := g) (row := none) zB34)); replace HO_7 := zM (Kd.R_mono (Kd.R_told (Kd.R_oldK (IsS90.apart (show IsS90 w0 _ g s0_0 t501 t502 from zB32) (zR HO_7.1) (by decide)) hk) (Kd.Q_base ho0)) (fun _ h_ => h_.1)); replace HK := zM (KeepBut.trans zB34 hk (.inl rfl)); replace HB := zM hb; replace HI0 := zM hi; clear hb hk hi) | ((with_reducible refine zBx 10 49 #[.slice none 0 0, .int .i64 0, .int .i64 0] ?_); intro gb510 hg w27 hbox hb; replace HO_7 := zM (Kd.R_below (zR HO_7.1) hb); replace HO_8 := zM (Kd.S_below (Kd.S_elderB (zS HO_8.1) gb510 (Nat.le_of_eq hg.symm)) hb); replace HO505 := zM (Kd.Q_below (zQ HO505.1) hb); replace HB := zM (below_step zB33 hb); have BK510 := zM hbox; have GW510 := zM ((by rw [hg]; exact (keep_size (w := w) (g := g) (row := none) zB34) : w.heap.size ≤ gb510)); have GE510 := zM ((Nat.le_trans HW0.1 (by rw [hg]; exact (keep_size (w := w) (g := g) (row := none) zB34) : w.heap.size ≤ gb510) : w0.heap.size ≤ gb510)); replace HK := zM (KeepBut.trans zB34 (KeepBut.of_below hb g none) (.inl rfl)); have NB0_510 := zM ((by rw [hg]; exact Nat.ne_of_lt (IsS90.lt (show IsS90 w0 _ g s0_0 t508 t509 from zB32)) : g ≠ gb510)); have NB510_0 := zM ((by rw [hg]; exact Nat.ne_of_gt (IsS90.lt (show IsS90 w0 _ g s0_0 t508 t509 from zB32)) : gb510 ≠ g)); replace HI0 := zM (IsS90.below zB32 hb); clear hb hbox hg; obtain ⟨Ao28, co28, eo28, _⟩ := Kd.Q_slice HO505.1; subst eo28; have hnb29 := NB510_0.1; have hnc29 := NB0_510.1; have hcz30 := zc_3 (w := w27) BK510.1) | ((with_reducible refine zG Try.func76 26 #[.agg #[.slice Ao28 t503.length co28, .int .i64 t506, .int .i64 t507]] ?_); (with_reducible refine (spec_HartOk.calls k1 _ _ t503 t506 t507 false _ ?side1 ?side2 A10.1).mono ?_); (case side1 => refine (Kd.Q_reads' (e := 3) (base := w.heap.size) (ok := fun k_ => (True ∧ some k_ ≠ (v493 : Value).ownBlock)) (n := t503.length) (c := co28) ?_).2.2; exact (by refine zrQ ?_; exact (Kd.Q_mono (zfQ (zfQ (zfQ (Kd.Q_types HO505.1 BK510.1 (by decide))))) (fun _ h_ => h_.1)))); (case side2 => exact (Kd.Q_reads' HO505.1).2.1); rintro e w31 ⟨rfl, hb⟩; refine ⟨_, rfl, ?_⟩; replace HO_7 := zM (Kd.R_below (by refine zrR ?_; exact (Kd.R_mono (zfR (zfR (zfR (Kd.R_types HO_7.1 BK510.1 (by decide))))) (fun _ h_ => h_.1))) hb); replace HO_8 := zM (Kd.S_below (by refine zrS ?_; exact (Kd.S_mono (zfS (zfS (zfS (Kd.S_mono HO_8.1 (fun k_ hk => (⟨hk, hk.2⟩ : _ ∧ k_ ≠ gb510)))))) (fun _ h_ => h_.1))) hb); replace HO505 := zM (Kd.Q_below (by refine zrQ ?_; exact (Kd.Q_mono (zfQ (zfQ (zfQ (Kd.Q_types HO505.1 BK510.1 (by decide))))) (fun _ h_ => h_.1))) hb); replace BK510 := zM (blk_below (g := gb510) (o := .cells #[.slice Ao28 t503.length co28, .int .i64 t506, .int .i64 t507] 49 (0, 0)) (by exact zp3 (zK BK510.1)) hb); replace HK := zM (KeepBut.trans zB34 (KeepBut.of_below hb g none) (.inl rfl)); replace HB := zM (below_step zB33 hb); replace HI0 := zM (IsS90.below (show IsS90 w0 (((w27.setCell ⟨gb510, 0, none⟩ (.slice Ao28 t503.length co28)).setCell ⟨gb510, 1, none⟩ (.int .i64 t506)).setCell ⟨gb510, 2, none⟩ (.int .i64 t507)) g s0_0 t508 t509 from zB55) hb); clear hb) | ((with_reducible refine zG Try.func42 29 #[.pointer (some ⟨g, 0, none⟩), .int .i64 20] ?_); (with_reducible refine (spec_l1Below.calls g s0_0 t508 t509 20 t515 t516 t517 w0 _ ?side1 ?side2 A22.1).mono ?_); (case side1 => exact zB55); (case side2 => exact zB33); rintro e w32 ⟨rfl, hi, hb, hk⟩; refine ⟨_, rfl, ?_⟩; replace HO_7 := zM (Kd.R_mono (Kd.R_keep (IsS90.apart (show IsS90 w0 _ g s0_0 t508 t509 from zB55) (zR HO_7.1) (by decide)) hk (fun _ h => h.2)) (fun _ h => h.1)); replace HO_8 := zM (Kd.S_mono (Kd.S_keep (IsS90.apartS (show IsS90 w0 _ g s0_0 t508 t509 from zB55) (zS HO_8.1) (by decide)) hk (fun _ h => h.2)) (fun _ h => h.1)); replace HO505 := zM (Kd.Q_mono (Kd.Q_keep (IsS90.apartQ (show IsS90 w0 _ g s0_0 t508 t509 from zB55) (zQ HO505.1) (by decide)) hk (fun _ h => h.2)) (fun _ h => h.1)); replace BK510 := zM (zh hk BK510.1 NB510_0.1); replace HK := zM (KeepBut.trans zB34 hk (.inl rfl)); replace HB := zM hb; replace HI0 := zM hi; clear hb hk hi) | ((with_reducible refine zG Try.func83 30 #[.int .i64 t515] ?_); (with_reducible refine (spec_HartNew.calls t515 t518 t521 t522 _ A23.1).mono ?_); rintro e w33 ⟨v519, rfl, ho0, hb⟩; refine ⟨_, rfl, ?_⟩; replace HO_8 := zM (Kd.S_elder' (zS HO_8.1) (Kd.R_base ho0) hb); have HO520 := zM (Kd.R_lower (Kd.R_new' (Kd.R_new' ho0 (Kd.R_lt (zR HO_7.1))) (Kd.Q_lt (zQ HO505.1))) (keep_size (w := w) (g := g) (row := none) zB34)); replace HO_7 := zM (Kd.R_elder' (zR HO_7.1) (Kd.R_base ho0) hb); replace HO505 := zM (Kd.Q_elder' (zQ HO505.1) (Kd.R_base ho0) hb); replace BK510 := zM (zb BK510.1 hb); replace HK := zM (KeepBut.trans zB34 (KeepBut.of_below hb g none) (.inl rfl)); replace HB := zM (below_step zB33 hb); replace HI0 := zM (IsS90.below zB55 hb); clear hb ho0; obtain ⟨Ao34, co34, eo34⟩ := Kd.R_slice HO520.1; subst eo34; have hcz35 := zc_3 (w := w33) BK510.1) | ((with_reducible refine gate_store (t := 49) (p := 10) rfl ?_); refine store_event (t := 49) (p := 10) (v := ?vo_w36) (w1 := (((w33.setCell ⟨gb510, 0, none⟩ (.slice Ao34 t518.length co34)).setCell ⟨gb510, 1, none⟩ (.int .i64 t521)).setCell ⟨gb510, 2, none⟩ (.int .i64 t522))) ?hg ?ho ?hn ?hr ?_; (case ho => rfl); (case hg => rfl); (case hn => rfl); (case hr => exact zHH); intro w36 hw; have n0_ : Aside0 (Kd.R (Kd.int .i64) 3 w36 w.heap.size (fun k_ => some k_ ≠ (.slice Ao28 t503.length co28 : Value).ownBlock ∧ some k_ ≠ (.slice Ao34 t518.length co34 : Value).ownBlock) v493 t492) := ⟨(by rw [hw]; exact (by refine zrR ?_; exact Kd.R_mono (zfR (zfR (zfR (Kd.R_types HO_7.1 BK510.1 (by decide))))) (fun _ hk => ⟨hk.1.1.2, hk.1.2⟩)))⟩; have n1_ : Aside0 (Kd.S k49 49 w36 w.heap.size (fun k_ => some k_ ≠ (v493 : Value).ownBlock ∧ some k_ ≠ (.slice Ao28 t503.length co28 : Value).ownBlock ∧ some k_ ≠ (.slice Ao34 t518.length co34 : Value).ownBlock ∧ k_ ≠ gb510) u8 x8_1) := ⟨(by rw [hw]; exact (by refine zrS ?_; exact Kd.S_mono (zfS (zfS (zfS (Kd.S_mono HO_8.1 (fun k_ hk => (⟨hk, hk.1.2⟩ : _ ∧ k_ ≠ gb510)))))) (fun _ hk => ⟨hk.1.1.1.1, ⟨hk.1.1.1.2, ⟨hk.1.2, hk.1.1.2⟩⟩⟩)))⟩; have n2_ : Aside0 (Kd.Q (Kd.int .i64) 3 w36 w.heap.size (fun k_ => some k_ ≠ (v493 : Value).ownBlock ∧ some k_ ≠ (.slice Ao34 t518.length co34 : Value).ownBlock) (.slice Ao28 t503.length co28) t503) := ⟨(by rw [hw]; exact (by refine zrQ ?_; exact Kd.Q_mono (zfQ (zfQ (zfQ (Kd.Q_types HO505.1 BK510.1 (by decide))))) (fun _ hk => ⟨hk.1.1.2, hk.1.2⟩)))⟩; have n3_ : Aside0 (Kd.R (Kd.int .i64) 3 w36 w.heap.size (fun k_ => some k_ ≠ (v493 : Value).ownBlock ∧ some k_ ≠ (.slice Ao28 t503.length co28 : Value).ownBlock) (.slice Ao34 t518.length co34) t518) := ⟨(by rw [hw]; exact (by refine zrR ?_; exact Kd.R_mono (zfR (zfR (zfR (Kd.R_types HO520.1 BK510.1 (by decide))))) (fun _ hk => ⟨hk.1.1.2, hk.1.2⟩)))⟩; have n4_ : Aside0 (w36.heap[gb510]? = some (.cells #[.slice Ao34 t518.length co34, .int .i64 t521, .int .i64 t522] 49 (0, 0))) := ⟨(by rw [hw]; exact (by exact zp3 (zK BK510.1)))⟩; have n5_ : Aside0 (IsS90 w0 w36 g s0_0 t516 t517) := ⟨(by rw [hw]; exact zB55)⟩; have n6_ : Aside0 (KeepBut w w36 g none) := ⟨(by rw [hw]; exact zB34)⟩; have n7_ : Aside0 (Below w0.heap.size w0 w36) := ⟨(by rw [hw]; exact zB33)⟩; clear hw; clear HO_7; clear HO_8; clear HO505; clear HO520; clear BK510; clear HI0; clear HK; clear HB; have HO_7 := n0_; have HO_8 := n1_; have HO505 := n2_; have HO520 := n3_; have BK510 := n4_; have HI0 := n5_; have HK := n6_; have HB := n7_; clear n0_ n1_ n2_ n3_ n4_ n5_ n6_ n7_; have hcz37 := zc_3 (w := w36) BK510.1) | ((with_reducible refine gate_builtin (b := .append) (xs := #[.tmp 31, .tmp 33]) rfl ?_); at_builtin; refine Kd.S_append k49 w.heap.size rfl (.tmp 31) (.tmp 33) 51 49 (.agg #[(.slice none 0 0), (.int .i64 0), (.int .i64 0)]) 40 rfl Try.underlying51 info49 rfl (by decide) (by omega) u8 x8_1 (⟨t518, t521, t522⟩ : S49) [.slice Ao34 t518.length co34, .int .i64 t521, .int .i64 t522] (fun k_ => some k_ ≠ (v493 : Value).ownBlock ∧ some k_ ≠ (.slice Ao28 t503.length co28 : Value).ownBlock ∧ k_ ≠ gb510) (fun k_ => some k_ = (.slice Ao34 t518.length co34 : Value).ownBlock) rfl rfl ?aP (fun k_ hk_ => ((Kd.R_mono (ok' := fun k_ => ((fun k_ => some k_ ≠ (v493 : Value).ownBlock ∧ some k_ ≠ (.slice Ao28 t503.length co28 : Value).ownBlock ∧ k_ ≠ gb510)) k_ ∧ some k_ ≠ (u8 : Value).ownBlock) (Kd.R_types (Kd.R_apart' (HO520.1) (Kd.S_typed HO_8.1) (by decide)) BK510.1 (by decide)) (fun k_ hk => ⟨⟨hk.1.1.1, ⟨hk.1.1.2, hk.2⟩⟩, hk.1.2⟩))).1 k_ hk_.symm) ?aF ?aO (Below.refl _ _) ?aS ?aL ?_; (case aP => exact k49_mkM _ _ _ (⟨t518, t521, t522⟩ : S49) (Kd.R_mono (Kd.R_tight rfl (Kd.R_mono (ok' := fun k_ => ((fun k_ => some k_ ≠ (v493 : Value).ownBlock ∧ some k_ ≠ (.slice Ao28 t503.length co28 : Value).ownBlock ∧ k_ ≠ gb510)) k_ ∧ some k_ ≠ (u8 : Value).ownBlock) (Kd.R_types (Kd.R_apart' (HO520.1) (Kd.S_typed HO_8.1) (by decide)) BK510.1 (by decide)) (fun k_ hk => ⟨⟨hk.1.1.1, ⟨hk.1.1.2, hk.2⟩⟩, hk.1.2⟩))) (fun _ h_ => h_))); (case aF => exact (fun k_ hk => ⟨Kd.fresh' (Kd.R_lt (zR HO_7.1)) k_ hk, Kd.fresh' (Kd.Q_lt (zQ HO505.1)) k_ hk, Kd.freshB (g := gb510) (o := .cells #[.slice Ao34 t518.length co34, .int .i64 t521, .int .i64 t522] 49 (0, 0)) (zK BK510.1) k_ hk⟩)); (case aO => exact (by refine zrS ?_; exact Kd.S_mono HO_8.1 (fun k_ hk => ⟨⟨hk.1, ⟨hk.2.1, hk.2.2.2⟩⟩, fun e_ => hk.2.2.1 e_⟩))); (case aS => exact (keep_size (w := w) (g := g) (row := none) zB34)); (case aL => have := LMc24.out; omega); intro v524 w38 ho hb hg hat; rw [← Ny523.1] at ho; replace HO_7 := zM (Kd.R_over' (zR HO_7.1) (Kd.S_typed (zS HO_8.1)) (by decide) hg); replace HO505 := zM (Kd.Q_over' (zQ HO505.1) (Kd.S_typed (zS HO_8.1)) (by decide) hg); replace BK510 := zM (zg BK510.1 hg (Kd.S_away HO_8.1 (fun _ hk => hk.2.2.2))); replace HB := zM (below_weaken zB33 HL.1 hb); replace HI0 := zM (IsS90.grown (show IsS90 w0 _ g s0_0 t516 t517 from zB55) hg (IsS90.own_neS HI0.1 HO_8.1 (by decide))); replace HK := zM (KeepBut.trans zB34 (KeepBut.of_grown hg g) (Kd.S_base2 HO_8.1)); have HO525 := zM ho; clear HO_8 HO520; clear ho hb hg hat))
   go_roundg k1
   case measure => have := HK1.1; omega
   case rel => exact ⟨(y523), (wrap64 (x9_1 + 1)), (t516), (t517), zJJ, H', ⟨by have := HK1.1; omega⟩, ⟨by refine zrR ?_; exact Kd.R_mono HO_7.1 (fun _ hk => trivial)⟩, ⟨by refine zrS ?_; exact Kd.S_mono HO525.1 (fun _ hk => hk.1)⟩, ⟨zB55⟩, ⟨zB34⟩, ⟨zB33⟩⟩

/-! ### spec_l19DrawEvent: function 60 -/
def spec_l19DrawEvent.f (s0_0 : List Int) (s0_1 : Int) (s0_2 : Int) : Option (Int × Int × Int × Int × Int × Int × Int) := (spec_l1Below.f s0_0 s0_1 s0_2 3).bind fun bt539 => ((spec_l1Below.f s0_0 bt539.2.1 bt539.2.2 6).bind fun bt542 => ((spec_l1Below.f s0_0 bt542.2.1 bt542.2.2 4).bind fun bt546 => (if bt546.1 = 0 then ((spec_l1Below.f s0_0 bt546.2.1 bt546.2.2 6).bind fun bt549 => ((spec_l1Below.f s0_0 bt549.2.1 bt549.2.2 4).bind fun bt552 => (some (bt539.1, bt542.1, bt549.1, bt552.1, (-1), bt552.2.1, bt552.2.2)))) else (if bt546.1 = 1 then ((spec_l1Below.f s0_0 bt546.2.1 bt546.2.2 6).bind fun bt555 => ((spec_l1Below.f s0_0 bt555.2.1 bt555.2.2 4).bind fun bt558 => (some (bt539.1, bt542.1, bt555.1, (-1), bt558.1, bt558.2.1, bt558.2.2)))) else (if bt546.1 = 2 then ((spec_l1Below.f s0_0 bt546.2.1 bt546.2.2 6).bind fun bt561 => ((spec_l1Below.f s0_0 bt561.2.1 bt561.2.2 4).bind fun bt564 => ((spec_l1Below.f s0_0 bt564.2.1 bt564.2.2 4).bind fun bt567 => (some (bt539.1, bt542.1, bt561.1, bt564.1, bt567.1, bt567.2.1, bt567.2.2))))) else (some (bt539.1, bt542.1, (-1), (-1), (-1), bt546.2.1, bt546.2.2)))))))
theorem spec_l19DrawEvent.calls (g : Nat) (s0_0 : List Int) (s0_1 : Int) (s0_2 : Int) (r1 : Int) (r2 : Int) (r3 : Int) (r4 : Int) (r5 : Int) (r6 : Int) (r7 : Int) (w0 w : World) (hI : IsS90 w0 w g s0_0 s0_1 s0_2) (hB : Below w0.heap.size w0 w) (h : spec_l19DrawEvent.f s0_0 s0_1 s0_2 = some (r1, r2, r3, r4, r5, r6, r7)) :
  Calls Try.prog 60 #[.pointer (some ⟨g, 0, none⟩)] w fun e w' => e = .returned (.agg #[.int .i64 r1, .int .i64 r2, .int .i64 r3, .int .i64 r4, .int .i64 r5]) ∧ IsS90 w0 w' g s0_0 r6 r7 ∧ Below w0.heap.size w0 w' ∧ KeepBut w w' g none := by
 have hu31 := Try.underlying31
 have HI0 := zM hI
 have HK := zM (KeepBut.refl w g none)
 have HL := zM hB.size
 clear hI
 have HW0 := zM hB.size
 have HB := zM hB
 clear hB
 unfold spec_l19DrawEvent.f at h
 have H := h
 clear h
 replace H := zO H
 obtain ⟨⟨t539, t540, t541⟩, A2, H⟩ := H
 try dsimp only at H
 replace H := zO H
 obtain ⟨⟨t542, t543, t544⟩, A3, H⟩ := H
 try dsimp only at H
 replace H := zO H
 obtain ⟨⟨t546, t547, t548⟩, A4, H⟩ := H
 try dsimp only at H
 by_cases c5 : t546 = 0
 ·rw [if_pos c5] at H
  have c5b0 : (t546 == 0) = true := beq_iff_eq.mpr c5
  have c5b1 : (t546 != 0) = false := bne_eq_false_iff_eq.mpr c5
  clear c5
  replace H := zO H
  obtain ⟨⟨t549, t550, t551⟩, A6, H⟩ := H
  try dsimp only at H
  replace H := zO H
  obtain ⟨⟨t552, t553, t554⟩, A7, H⟩ := H
  try dsimp only at H
  simp only [Option.some.injEq, Prod.mk.injEq] at H
  obtain ⟨rfl, rfl, rfl, rfl, rfl, rfl, rfl⟩ := H
  go_enter Try.func60, Try.ntmps60
  go_wp2_with (first | ((with_reducible refine zBx 2 31 #[.int .i64 0, .int .i64 0, .int .i64 0, .int .i64 0, .int .i64 0] ?_); intro gb538 hg w8 hbox hb; replace HB := zM (below_step zB33 hb); have BK538 := zM hbox; have GW538 := zM ((by rw [hg]; exact (keep_size (w := w) (g := g) (row := none) zB34) : w.heap.size ≤ gb538)); have GE538 := zM ((Nat.le_trans HW0.1 (by rw [hg]; exact (keep_size (w := w) (g := g) (row := none) zB34) : w.heap.size ≤ gb538) : w0.heap.size ≤ gb538)); replace HK := zM (KeepBut.trans zB34 (KeepBut.of_below hb g none) (.inl rfl)); have NB0_538 := zM ((by rw [hg]; exact Nat.ne_of_lt (IsS90.lt (show IsS90 w0 _ g s0_0 s0_1 s0_2 from zB32)) : g ≠ gb538)); have NB538_0 := zM ((by rw [hg]; exact Nat.ne_of_gt (IsS90.lt (show IsS90 w0 _ g s0_0 s0_1 s0_2 from zB32)) : gb538 ≠ g)); replace HI0 := zM (IsS90.below zB32 hb); clear hb hbox hg) | ((with_reducible refine zG Try.func42 5 #[.pointer (some ⟨g, 0, none⟩), .int .i64 3] ?_); (with_reducible refine (spec_l1Below.calls g s0_0 s0_1 s0_2 3 t539 t540 t541 w0 _ ?side1 ?side2 A2.1).mono ?_); (case side1 => exact zB58); (case side2 => exact zB33); rintro e w9 ⟨rfl, hi, hb, hk⟩; refine ⟨_, rfl, ?_⟩; replace BK538 := zM (zh hk BK538.1 NB538_0.1); replace HK := zM (KeepBut.trans zB34 hk (.inl rfl)); replace HB := zM hb; replace HI0 := zM hi; clear hb hk hi) | ((with_reducible refine zG Try.func42 7 #[.pointer (some ⟨g, 0, none⟩), .int .i64 6] ?_); (with_reducible refine (spec_l1Below.calls g s0_0 t540 t541 6 t542 t543 t544 w0 _ ?side1 ?side2 A3.1).mono ?_); (case side1 => exact zB58); (case side2 => exact zB33); rintro e w10 ⟨rfl, hi, hb, hk⟩; refine ⟨_, rfl, ?_⟩; replace BK538 := zM (zh hk BK538.1 NB538_0.1); replace HK := zM (KeepBut.trans zB34 hk (.inl rfl)); replace HB := zM hb; replace HI0 := zM hi; clear hb hk hi) | ((with_reducible refine zBx 3 31 #[.int .i64 0, .int .i64 0, .int .i64 0, .int .i64 0, .int .i64 0] ?_); intro gb545 hg w11 hbox hb; replace HB := zM (below_step zB33 hb); have BK545 := zM hbox; have GW545 := zM ((by rw [hg]; exact (keep_size (w := w) (g := g) (row := none) zB34) : w.heap.size ≤ gb545)); have GE545 := zM ((Nat.le_trans HW0.1 (by rw [hg]; exact (keep_size (w := w) (g := g) (row := none) zB34) : w.heap.size ≤ gb545) : w0.heap.size ≤ gb545)); replace HK := zM (KeepBut.trans zB34 (KeepBut.of_below hb g none) (.inl rfl)); have NB538_545 := zM ((zn BK538.1 hg : gb538 ≠ gb545)); have NB545_538 := zM ((zm BK538.1 hg : gb545 ≠ gb538)); replace BK538 := zM (zb BK538.1 hb); have NB0_545 := zM ((by rw [hg]; exact Nat.ne_of_lt (IsS90.lt (show IsS90 w0 _ g s0_0 t543 t544 from zB58)) : g ≠ gb545)); have NB545_0 := zM ((by rw [hg]; exact Nat.ne_of_gt (IsS90.lt (show IsS90 w0 _ g s0_0 t543 t544 from zB58)) : gb545 ≠ g)); replace HI0 := zM (IsS90.below zB58 hb); clear hb hbox hg; have hnb12 := NB545_538.1; have hnc12 := NB538_545.1; have hnb13 := NB545_0.1; have hnc13 := NB0_545.1; have hcz14 := zc_5 (w := w11) BK545.1) | ((with_reducible refine zG Try.func42 10 #[.pointer (some ⟨g, 0, none⟩), .int .i64 4] ?_); (with_reducible refine (spec_l1Below.calls g s0_0 t543 t544 4 t546 t547 t548 w0 _ ?side1 ?side2 A4.1).mono ?_); (case side1 => exact zB61); (case side2 => exact zB33); rintro e w15 ⟨rfl, hi, hb, hk⟩; refine ⟨_, rfl, ?_⟩; replace BK538 := zM (KeepBut.blk hk (g' := gb538) (o := .cells #[.int .i64 0, .int .i64 0, .int .i64 0, .int .i64 0, .int .i64 0] 31 (0, 0)) zPq NB538_0.1 (by simp)); replace BK545 := zM (KeepBut.blk hk (g' := gb545) (o := .cells #[.int .i64 t539, .int .i64 t542, .int .i64 (-1), .int .i64 (-1), .int .i64 (-1)] 31 (0, 0)) (by exact zp5 (zK BK545.1)) NB545_0.1 (by simp)); replace HK := zM (KeepBut.trans zB34 hk (.inl rfl)); replace HB := zM hb; replace HI0 := zM hi; clear hb hk hi) | ((with_reducible refine zG Try.func42 14 #[.pointer (some ⟨g, 0, none⟩), .int .i64 6] ?_); (with_reducible refine (spec_l1Below.calls g s0_0 t547 t548 6 t549 t550 t551 w0 _ ?side1 ?side2 A6.1).mono ?_); (case side1 => exact zB61); (case side2 => exact zB33); rintro e w16 ⟨rfl, hi, hb, hk⟩; refine ⟨_, rfl, ?_⟩; replace BK538 := zM (zh hk BK538.1 NB538_0.1); replace BK545 := zM (zh hk BK545.1 NB545_0.1); replace HK := zM (KeepBut.trans zB34 hk (.inl rfl)); replace HB := zM hb; replace HI0 := zM hi; clear hb hk hi; have hcz17 := zc_5 (w := w16) BK545.1) | ((with_reducible refine zG Try.func42 17 #[.pointer (some ⟨g, 0, none⟩), .int .i64 4] ?_); (with_reducible refine (spec_l1Below.calls g s0_0 t550 t551 4 t552 t553 t554 w0 _ ?side1 ?side2 A7.1).mono ?_); (case side1 => exact zB61); (case side2 => exact zB33); rintro e w18 ⟨rfl, hi, hb, hk⟩; refine ⟨_, rfl, ?_⟩; replace BK538 := zM (KeepBut.blk hk (g' := gb538) (o := .cells #[.int .i64 0, .int .i64 0, .int .i64 0, .int .i64 0, .int .i64 0] 31 (0, 0)) zPq NB538_0.1 (by simp)); replace BK545 := zM (KeepBut.blk hk (g' := gb545) (o := .cells #[.int .i64 t539, .int .i64 t542, .int .i64 t549, .int .i64 (-1), .int .i64 (-1)] 31 (0, 0)) zPq NB545_0.1 (by simp)); replace HK := zM (KeepBut.trans zB34 hk (.inl rfl)); replace HB := zM hb; replace HI0 := zM hi; clear hb hk hi; have hcz19 := zc_5 (w := w18) BK545.1; have hnb20 := NB538_0.1; have hnc20 := NB0_538.1; have hcz21 := zc_5 (w := w18) BK538.1))
  refine bodyPost_ret (results_cell_row rfl _ _ gb538 31 #[.int .i64 t539, .int .i64 t542, .int .i64 t549, .int .i64 t552, .int .i64 (-1)] (0, 0) _ rfl zPq Try.underlying31 rfl (by kernel_rfl)) rfl ?_
  exact ⟨zE, zB61, zB33, zB34⟩
 rw [if_neg c5] at H
 have c5b0 : (t546 == 0) = false := beq_eq_false_iff_ne.mpr c5
 have c5b1 : (t546 != 0) = true := bne_iff_ne.mpr c5
 by_cases c22 : t546 = 1
 ·rw [if_pos c22] at H
  have c22b0 : (t546 == 1) = true := beq_iff_eq.mpr c22
  have c22b1 : (t546 != 1) = false := bne_eq_false_iff_eq.mpr c22
  clear c22
  replace H := zO H
  obtain ⟨⟨t555, t556, t557⟩, A23, H⟩ := H
  try dsimp only at H
  replace H := zO H
  obtain ⟨⟨t558, t559, t560⟩, A24, H⟩ := H
  try dsimp only at H
  simp only [Option.some.injEq, Prod.mk.injEq] at H
  obtain ⟨rfl, rfl, rfl, rfl, rfl, rfl, rfl⟩ := H
  go_enter Try.func60, Try.ntmps60
  go_wp2_with (first | ((with_reducible refine zBx 2 31 #[.int .i64 0, .int .i64 0, .int .i64 0, .int .i64 0, .int .i64 0] ?_); intro gb538 hg w25 hbox hb; replace HB := zM (below_step zB33 hb); have BK538 := zM hbox; have GW538 := zM ((by rw [hg]; exact (keep_size (w := w) (g := g) (row := none) zB34) : w.heap.size ≤ gb538)); have GE538 := zM ((Nat.le_trans HW0.1 (by rw [hg]; exact (keep_size (w := w) (g := g) (row := none) zB34) : w.heap.size ≤ gb538) : w0.heap.size ≤ gb538)); replace HK := zM (KeepBut.trans zB34 (KeepBut.of_below hb g none) (.inl rfl)); have NB0_538 := zM ((by rw [hg]; exact Nat.ne_of_lt (IsS90.lt (show IsS90 w0 _ g s0_0 s0_1 s0_2 from zB32)) : g ≠ gb538)); have NB538_0 := zM ((by rw [hg]; exact Nat.ne_of_gt (IsS90.lt (show IsS90 w0 _ g s0_0 s0_1 s0_2 from zB32)) : gb538 ≠ g)); replace HI0 := zM (IsS90.below zB32 hb); clear hb hbox hg) | ((with_reducible refine zG Try.func42 5 #[.pointer (some ⟨g, 0, none⟩), .int .i64 3] ?_); (with_reducible refine (spec_l1Below.calls g s0_0 s0_1 s0_2 3 t539 t540 t541 w0 _ ?side1 ?side2 A2.1).mono ?_); (case side1 => exact zB58); (case side2 => exact zB33); rintro e w26 ⟨rfl, hi, hb, hk⟩; refine ⟨_, rfl, ?_⟩; replace BK538 := zM (zh hk BK538.1 NB538_0.1); replace HK := zM (KeepBut.trans zB34 hk (.inl rfl)); replace HB := zM hb; replace HI0 := zM hi; clear hb hk hi) | ((with_reducible refine zG Try.func42 7 #[.pointer (some ⟨g, 0, none⟩), .int .i64 6] ?_); (with_reducible refine (spec_l1Below.calls g s0_0 t540 t541 6 t542 t543 t544 w0 _ ?side1 ?side2 A3.1).mono ?_); (case side1 => exact zB58); (case side2 => exact zB33); rintro e w27 ⟨rfl, hi, hb, hk⟩; refine ⟨_, rfl, ?_⟩; replace BK538 := zM (zh hk BK538.1 NB538_0.1); replace HK := zM (KeepBut.trans zB34 hk (.inl rfl)); replace HB := zM hb; replace HI0 := zM hi; clear hb hk hi) | ((with_reducible refine zBx 3 31 #[.int .i64 0, .int .i64 0, .int .i64 0, .int .i64 0, .int .i64 0] ?_); intro gb545 hg w28 hbox hb; replace HB := zM (below_step zB33 hb); have BK545 := zM hbox; have GW545 := zM ((by rw [hg]; exact (keep_size (w := w) (g := g) (row := none) zB34) : w.heap.size ≤ gb545)); have GE545 := zM ((Nat.le_trans HW0.1 (by rw [hg]; exact (keep_size (w := w) (g := g) (row := none) zB34) : w.heap.size ≤ gb545) : w0.heap.size ≤ gb545)); replace HK := zM (KeepBut.trans zB34 (KeepBut.of_below hb g none) (.inl rfl)); have NB538_545 := zM ((zn BK538.1 hg : gb538 ≠ gb545)); have NB545_538 := zM ((zm BK538.1 hg : gb545 ≠ gb538)); replace BK538 := zM (zb BK538.1 hb); have NB0_545 := zM ((by rw [hg]; exact Nat.ne_of_lt (IsS90.lt (show IsS90 w0 _ g s0_0 t543 t544 from zB58)) : g ≠ gb545)); have NB545_0 := zM ((by rw [hg]; exact Nat.ne_of_gt (IsS90.lt (show IsS90 w0 _ g s0_0 t543 t544 from zB58)) : gb545 ≠ g)); replace HI0 := zM (IsS90.below zB58 hb); clear hb hbox hg; have hnb29 := NB545_538.1; have hnc29 := NB538_545.1; have hnb30 := NB545_0.1; have hnc30 := NB0_545.1; have hcz31 := zc_5 (w := w28) BK545.1) | ((with_reducible refine zG Try.func42 10 #[.pointer (some ⟨g, 0, none⟩), .int .i64 4] ?_); (with_reducible refine (spec_l1Below.calls g s0_0 t543 t544 4 t546 t547 t548 w0 _ ?side1 ?side2 A4.1).mono ?_); (case side1 => exact zB61); (case side2 => exact zB33); rintro e w32 ⟨rfl, hi, hb, hk⟩; refine ⟨_, rfl, ?_⟩; replace BK538 := zM (KeepBut.blk hk (g' := gb538) (o := .cells #[.int .i64 0, .int .i64 0, .int .i64 0, .int .i64 0, .int .i64 0] 31 (0, 0)) zPq NB538_0.1 (by simp)); replace BK545 := zM (KeepBut.blk hk (g' := gb545) (o := .cells #[.int .i64 t539, .int .i64 t542, .int .i64 (-1), .int .i64 (-1), .int .i64 (-1)] 31 (0, 0)) (by exact zp5 (zK BK545.1)) NB545_0.1 (by simp)); replace HK := zM (KeepBut.trans zB34 hk (.inl rfl)); replace HB := zM hb; replace HI0 := zM hi; clear hb hk hi) | ((with_reducible refine zG Try.func42 22 #[.pointer (some ⟨g, 0, none⟩), .int .i64 6] ?_); (with_reducible refine (spec_l1Below.calls g s0_0 t547 t548 6 t555 t556 t557 w0 _ ?side1 ?side2 A23.1).mono ?_); (case side1 => exact zB61); (case side2 => exact zB33); rintro e w33 ⟨rfl, hi, hb, hk⟩; refine ⟨_, rfl, ?_⟩; replace BK538 := zM (zh hk BK538.1 NB538_0.1); replace BK545 := zM (zh hk BK545.1 NB545_0.1); replace HK := zM (KeepBut.trans zB34 hk (.inl rfl)); replace HB := zM hb; replace HI0 := zM hi; clear hb hk hi; have hcz34 := zc_5 (w := w33) BK545.1) | ((with_reducible refine zG Try.func42 25 #[.pointer (some ⟨g, 0, none⟩), .int .i64 4] ?_); (with_reducible refine (spec_l1Below.calls g s0_0 t556 t557 4 t558 t559 t560 w0 _ ?side1 ?side2 A24.1).mono ?_); (case side1 => exact zB61); (case side2 => exact zB33); rintro e w35 ⟨rfl, hi, hb, hk⟩; refine ⟨_, rfl, ?_⟩; replace BK538 := zM (KeepBut.blk hk (g' := gb538) (o := .cells #[.int .i64 0, .int .i64 0, .int .i64 0, .int .i64 0, .int .i64 0] 31 (0, 0)) zPq NB538_0.1 (by simp)); replace BK545 := zM (KeepBut.blk hk (g' := gb545) (o := .cells #[.int .i64 t539, .int .i64 t542, .int .i64 t555, .int .i64 (-1), .int .i64 (-1)] 31 (0, 0)) zPq NB545_0.1 (by simp)); replace HK := zM (KeepBut.trans zB34 hk (.inl rfl)); replace HB := zM hb; replace HI0 := zM hi; clear hb hk hi; have hcz36 := zc_5 (w := w35) BK545.1; have hnb37 := NB538_0.1; have hnc37 := NB0_538.1; have hcz38 := zc_5 (w := w35) BK538.1))
  refine bodyPost_ret (results_cell_row rfl _ _ gb538 31 #[.int .i64 t539, .int .i64 t542, .int .i64 t555, .int .i64 (-1), .int .i64 t558] (0, 0) _ rfl zPq Try.underlying31 rfl (by kernel_rfl)) rfl ?_
  exact ⟨zE, zB61, zB33, zB34⟩
 rw [if_neg c22] at H
 have c22b0 : (t546 == 1) = false := beq_eq_false_iff_ne.mpr c22
 have c22b1 : (t546 != 1) = true := bne_iff_ne.mpr c22
 by_cases c39 : t546 = 2
 rotate_left
 ·rw [if_neg c39] at H
  have c39b0 : (t546 == 2) = false := beq_eq_false_iff_ne.mpr c39
  have c39b1 : (t546 != 2) = true := bne_iff_ne.mpr c39
  simp only [Option.some.injEq, Prod.mk.injEq] at H
  obtain ⟨rfl, rfl, rfl, rfl, rfl, rfl, rfl⟩ := H
  go_enter Try.func60, Try.ntmps60
  go_wp2_with (first | ((with_reducible refine zBx 2 31 #[.int .i64 0, .int .i64 0, .int .i64 0, .int .i64 0, .int .i64 0] ?_); intro gb538 hg w59 hbox hb; replace HB := zM (below_step zB33 hb); have BK538 := zM hbox; have GW538 := zM ((by rw [hg]; exact (keep_size (w := w) (g := g) (row := none) zB34) : w.heap.size ≤ gb538)); have GE538 := zM ((Nat.le_trans HW0.1 (by rw [hg]; exact (keep_size (w := w) (g := g) (row := none) zB34) : w.heap.size ≤ gb538) : w0.heap.size ≤ gb538)); replace HK := zM (KeepBut.trans zB34 (KeepBut.of_below hb g none) (.inl rfl)); have NB0_538 := zM ((by rw [hg]; exact Nat.ne_of_lt (IsS90.lt (show IsS90 w0 _ g s0_0 s0_1 s0_2 from zB32)) : g ≠ gb538)); have NB538_0 := zM ((by rw [hg]; exact Nat.ne_of_gt (IsS90.lt (show IsS90 w0 _ g s0_0 s0_1 s0_2 from zB32)) : gb538 ≠ g)); replace HI0 := zM (IsS90.below zB32 hb); clear hb hbox hg) | ((with_reducible refine zG Try.func42 5 #[.pointer (some ⟨g, 0, none⟩), .int .i64 3] ?_); (with_reducible refine (spec_l1Below.calls g s0_0 s0_1 s0_2 3 t539 t540 t541 w0 _ ?side1 ?side2 A2.1).mono ?_); (case side1 => exact zB58); (case side2 => exact zB33); rintro e w60 ⟨rfl, hi, hb, hk⟩; refine ⟨_, rfl, ?_⟩; replace BK538 := zM (zh hk BK538.1 NB538_0.1); replace HK := zM (KeepBut.trans zB34 hk (.inl rfl)); replace HB := zM hb; replace HI0 := zM hi; clear hb hk hi) | ((with_reducible refine zG Try.func42 7 #[.pointer (some ⟨g, 0, none⟩), .int .i64 6] ?_); (with_reducible refine (spec_l1Below.calls g s0_0 t540 t541 6 t542 t543 t544 w0 _ ?side1 ?side2 A3.1).mono ?_); (case side1 => exact zB58); (case side2 => exact zB33); rintro e w61 ⟨rfl, hi, hb, hk⟩; refine ⟨_, rfl, ?_⟩; replace BK538 := zM (zh hk BK538.1 NB538_0.1); replace HK := zM (KeepBut.trans zB34 hk (.inl rfl)); replace HB := zM hb; replace HI0 := zM hi; clear hb hk hi) | ((with_reducible refine zBx 3 31 #[.int .i64 0, .int .i64 0, .int .i64 0, .int .i64 0, .int .i64 0] ?_); intro gb545 hg w62 hbox hb; replace HB := zM (below_step zB33 hb); have BK545 := zM hbox; have GW545 := zM ((by rw [hg]; exact (keep_size (w := w) (g := g) (row := none) zB34) : w.heap.size ≤ gb545)); have GE545 := zM ((Nat.le_trans HW0.1 (by rw [hg]; exact (keep_size (w := w) (g := g) (row := none) zB34) : w.heap.size ≤ gb545) : w0.heap.size ≤ gb545)); replace HK := zM (KeepBut.trans zB34 (KeepBut.of_below hb g none) (.inl rfl)); have NB538_545 := zM ((zn BK538.1 hg : gb538 ≠ gb545)); have NB545_538 := zM ((zm BK538.1 hg : gb545 ≠ gb538)); replace BK538 := zM (zb BK538.1 hb); have NB0_545 := zM ((by rw [hg]; exact Nat.ne_of_lt (IsS90.lt (show IsS90 w0 _ g s0_0 t543 t544 from zB58)) : g ≠ gb545)); have NB545_0 := zM ((by rw [hg]; exact Nat.ne_of_gt (IsS90.lt (show IsS90 w0 _ g s0_0 t543 t544 from zB58)) : gb545 ≠ g)); replace HI0 := zM (IsS90.below zB58 hb); clear hb hbox hg; have hnb63 := NB545_538.1; have hnc63 := NB538_545.1; have hnb64 := NB545_0.1; have hnc64 := NB0_545.1; have hcz65 := zc_5 (w := w62) BK545.1) | ((with_reducible refine zG Try.func42 10 #[.pointer (some ⟨g, 0, none⟩), .int .i64 4] ?_); (with_reducible refine (spec_l1Below.calls g s0_0 t543 t544 4 t546 t547 t548 w0 _ ?side1 ?side2 A4.1).mono ?_); (case side1 => exact zB61); (case side2 => exact zB33); rintro e w66 ⟨rfl, hi, hb, hk⟩; refine ⟨_, rfl, ?_⟩; replace BK538 := zM (KeepBut.blk hk (g' := gb538) (o := .cells #[.int .i64 0, .int .i64 0, .int .i64 0, .int .i64 0, .int .i64 0] 31 (0, 0)) zPq NB538_0.1 (by simp)); replace BK545 := zM (KeepBut.blk hk (g' := gb545) (o := .cells #[.int .i64 t539, .int .i64 t542, .int .i64 (-1), .int .i64 (-1), .int .i64 (-1)] 31 (0, 0)) (by exact zp5 (zK BK545.1)) NB545_0.1 (by simp)); replace HK := zM (KeepBut.trans zB34 hk (.inl rfl)); replace HB := zM hb; replace HI0 := zM hi; clear hb hk hi; have hcz67 := zc_5 (w := w66) BK545.1; have hnb68 := NB538_0.1; have hnc68 := NB0_538.1; have hcz69 := zc_5 (w := w66) BK538.1))
  refine bodyPost_ret (results_cell_row rfl _ _ gb538 31 #[.int .i64 t539, .int .i64 t542, .int .i64 (-1), .int .i64 (-1), .int .i64 (-1)] (0, 0) _ rfl (by exact zp5 (zK BK538.1)) Try.underlying31 rfl (by kernel_rfl)) rfl ?_
  exact ⟨zE, zB61, zB33, zB34⟩
 rw [if_pos c39] at H
 have c39b0 : (t546 == 2) = true := beq_iff_eq.mpr c39
 have c39b1 : (t546 != 2) = false := bne_eq_false_iff_eq.mpr c39
 clear c39
 replace H := zO H
 obtain ⟨⟨t561, t562, t563⟩, A40, H⟩ := H
 try dsimp only at H
 replace H := zO H
 obtain ⟨⟨t564, t565, t566⟩, A41, H⟩ := H
 try dsimp only at H
 replace H := zO H
 obtain ⟨⟨t567, t568, t569⟩, A42, H⟩ := H
 try dsimp only at H
 simp only [Option.some.injEq, Prod.mk.injEq] at H
 obtain ⟨rfl, rfl, rfl, rfl, rfl, rfl, rfl⟩ := H
 go_enter Try.func60, Try.ntmps60
 go_wp2_with (first | ((with_reducible refine zBx 2 31 #[.int .i64 0, .int .i64 0, .int .i64 0, .int .i64 0, .int .i64 0] ?_); intro gb538 hg w43 hbox hb; replace HB := zM (below_step zB33 hb); have BK538 := zM hbox; have GW538 := zM ((by rw [hg]; exact (keep_size (w := w) (g := g) (row := none) zB34) : w.heap.size ≤ gb538)); have GE538 := zM ((Nat.le_trans HW0.1 (by rw [hg]; exact (keep_size (w := w) (g := g) (row := none) zB34) : w.heap.size ≤ gb538) : w0.heap.size ≤ gb538)); replace HK := zM (KeepBut.trans zB34 (KeepBut.of_below hb g none) (.inl rfl)); have NB0_538 := zM ((by rw [hg]; exact Nat.ne_of_lt (IsS90.lt (show IsS90 w0 _ g s0_0 s0_1 s0_2 from zB32)) : g ≠ gb538)); have NB538_0 := zM ((by rw [hg]; exact Nat.ne_of_gt (IsS90.lt (show IsS90 w0 _ g s0_0 s0_1 s0_2 from zB32)) : gb538 ≠ g)); replace HI0 := zM (IsS90.below zB32 hb); clear hb hbox hg) | ((with_reducible refine zG Try.func42 5 #[.pointer (some ⟨g, 0, none⟩), .int .i64 3] ?_); (with_reducible refine (spec_l1Below.calls g s0_0 s0_1 s0_2 3 t539 t540 t541 w0 _ ?side1 ?side2 A2.1).mono ?_); (case side1 => exact zB58); (case side2 => exact zB33); rintro e w44 ⟨rfl, hi, hb, hk⟩; refine ⟨_, rfl, ?_⟩; replace BK538 := zM (zh hk BK538.1 NB538_0.1); replace HK := zM (KeepBut.trans zB34 hk (.inl rfl)); replace HB := zM hb; replace HI0 := zM hi; clear hb hk hi) | ((with_reducible refine zG Try.func42 7 #[.pointer (some ⟨g, 0, none⟩), .int .i64 6] ?_); (with_reducible refine (spec_l1Below.calls g s0_0 t540 t541 6 t542 t543 t544 w0 _ ?side1 ?side2 A3.1).mono ?_); (case side1 => exact zB58); (case side2 => exact zB33); rintro e w45 ⟨rfl, hi, hb, hk⟩; refine ⟨_, rfl, ?_⟩; replace BK538 := zM (zh hk BK538.1 NB538_0.1); replace HK := zM (KeepBut.trans zB34 hk (.inl rfl)); replace HB := zM hb; replace HI0 := zM hi; clear hb hk hi) | ((with_reducible refine zBx 3 31 #[.int .i64 0, .int .i64 0, .int .i64 0, .int .i64 0, .int .i64 0] ?_); intro gb545 hg w46 hbox hb; replace HB := zM (below_step zB33 hb); have BK545 := zM hbox; have GW545 := zM ((by rw [hg]; exact (keep_size (w := w) (g := g) (row := none) zB34) : w.heap.size ≤ gb545)); have GE545 := zM ((Nat.le_trans HW0.1 (by rw [hg]; exact (keep_size (w := w) (g := g) (row := none) zB34) : w.heap.size ≤ gb545) : w0.heap.size ≤ gb545)); replace HK := zM (KeepBut.trans zB34 (KeepBut.of_below hb g none) (.inl rfl)); have NB538_545 := zM ((zn BK538.1 hg : gb538 ≠ gb545)); have NB545_538 := zM ((zm BK538.1 hg : gb545 ≠ gb538)); replace BK538 := zM (zb BK538.1 hb); have NB0_545 := zM ((by rw [hg]; exact Nat.ne_of_lt (IsS90.lt (show IsS90 w0 _ g s0_0 t543 t544 from zB58)) : g ≠ gb545)); have NB545_0 := zM ((by rw [hg]; exact Nat.ne_of_gt (IsS90.lt (show IsS90 w0 _ g s0_0 t543 t544 from zB58)) : gb545 ≠ g)); replace HI0 := zM (IsS90.below zB58 hb); clear hb hbox hg; have hnb47 := NB545_538.1; have hnc47 := NB538_545.1; have hnb48 := NB545_0.1; have hnc48 := NB0_545.1; have hcz49 := zc_5 (w := w46) BK545.1) | ((with_reducible refine zG Try.func42 10 #[.pointer (some ⟨g, 0, none⟩), .int .i64 4] ?_); (with_reducible refine (spec_l1Below.calls g s0_0 t543 t544 4 t546 t547 t548 w0 _ ?side1 ?side2 A4.1).mono ?_); (case side1 => exact zB61); (case side2 => exact zB33); rintro e w50 ⟨rfl, hi, hb, hk⟩; refine ⟨_, rfl, ?_⟩; replace BK538 := zM (KeepBut.blk hk (g' := gb538) (o := .cells #[.int .i64 0, .int .i64 0, .int .i64 0, .int .i64 0, .int .i64 0] 31 (0, 0)) zPq NB538_0.1 (by simp)); replace BK545 := zM (KeepBut.blk hk (g' := gb545) (o := .cells #[.int .i64 t539, .int .i64 t542, .int .i64 (-1), .int .i64 (-1), .int .i64 (-1)] 31 (0, 0)) (by exact zp5 (zK BK545.1)) NB545_0.1 (by simp)); replace HK := zM (KeepBut.trans zB34 hk (.inl rfl)); replace HB := zM hb; replace HI0 := zM hi; clear hb hk hi) | ((with_reducible refine zG Try.func42 30 #[.pointer (some ⟨g, 0, none⟩), .int .i64 6] ?_); (with_reducible refine (spec_l1Below.calls g s0_0 t547 t548 6 t561 t562 t563 w0 _ ?side1 ?side2 A40.1).mono ?_); (case side1 => exact zB61); (case side2 => exact zB33); rintro e w51 ⟨rfl, hi, hb, hk⟩; refine ⟨_, rfl, ?_⟩; replace BK538 := zM (zh hk BK538.1 NB538_0.1); replace BK545 := zM (zh hk BK545.1 NB545_0.1); replace HK := zM (KeepBut.trans zB34 hk (.inl rfl)); replace HB := zM hb; replace HI0 := zM hi; clear hb hk hi; have hcz52 := zc_5 (w := w51) BK545.1) | ((with_reducible refine zG Try.func42 33 #[.pointer (some ⟨g, 0, none⟩), .int .i64 4] ?_); (with_reducible refine (spec_l1Below.calls g s0_0 t562 t563 4 t564 t565 t566 w0 _ ?side1 ?side2 A41.1).mono ?_); (case side1 => exact zB61); (case side2 => exact zB33); rintro e w53 ⟨rfl, hi, hb, hk⟩; refine ⟨_, rfl, ?_⟩; replace BK538 := zM (KeepBut.blk hk (g' := gb538) (o := .cells #[.int .i64 0, .int .i64 0, .int .i64 0, .int .i64 0, .int .i64 0] 31 (0, 0)) zPq NB538_0.1 (by simp)); replace BK545 := zM (KeepBut.blk hk (g' := gb545) (o := .cells #[.int .i64 t539, .int .i64 t542, .int .i64 t561, .int .i64 (-1), .int .i64 (-1)] 31 (0, 0)) zPq NB545_0.1 (by simp)); replace HK := zM (KeepBut.trans zB34 hk (.inl rfl)); replace HB := zM hb; replace HI0 := zM hi; clear hb hk hi; have hcz54 := zc_5 (w := w53) BK545.1) | ((with_reducible refine zG Try.func42 36 #[.pointer (some ⟨g, 0, none⟩), .int .i64 4] ?_); (with_reducible refine (spec_l1Below.calls g s0_0 t565 t566 4 t567 t568 t569 w0 _ ?side1 ?side2 A42.1).mono ?_); (case side1 => exact zB61); (case side2 => exact zB33); rintro e w55 ⟨rfl, hi, hb, hk⟩; refine ⟨_, rfl, ?_⟩; replace BK538 := zM (KeepBut.blk hk (g' := gb538) (o := .cells #[.int .i64 0, .int .i64 0, .int .i64 0, .int .i64 0, .int .i64 0] 31 (0, 0)) zPq NB538_0.1 (by simp)); replace BK545 := zM (KeepBut.blk hk (g' := gb545) (o := .cells #[.int .i64 t539, .int .i64 t542, .int .i64 t561, .int .i64 t564, .int .i64 (-1)] 31 (0, 0)) zPq NB545_0.1 (by simp)); replace HK := zM (KeepBut.trans zB34 hk (.inl rfl)); replace HB := zM hb; replace HI0 := zM hi; clear hb hk hi; have hcz56 := zc_5 (w := w55) BK545.1; have hnb57 := NB538_0.1; have hnc57 := NB0_538.1; have hcz58 := zc_5 (w := w55) BK538.1))
 refine bodyPost_ret (results_cell_row rfl _ _ gb538 31 #[.int .i64 t539, .int .i64 t542, .int .i64 t561, .int .i64 t564, .int .i64 t567] (0, 0) _ rfl zPq Try.underlying31 rfl (by kernel_rfl)) rfl ?_
 exact ⟨zE, zB61, zB33, zB34⟩

/-! ### spec_l20Draw: function 29 -/
def spec_l20Draw.l0 : Nat → List (S31) → Int → List Int → Int → Int → Option (Int × (List (S31)) × Int × Int)
 | 0, _, _, _, _, _ => none
 | k + 1, x7, x8, x1000, x1001, x1002 => (spec_l1Below.f x1000 x1001 x1002 9).bind fun bt590 => (if x8 < bt590.1 then ((spec_l19DrawEvent.f x1000 bt590.2.1 bt590.2.2).bind fun bt593 => (if x7.length < 3518437208883 then (spec_l20Draw.l0 k (x7 ++ [(⟨bt593.1, bt593.2.1, bt593.2.2.1, bt593.2.2.2.1, bt593.2.2.2.2.1⟩ : S31)]) (wrap64 (x8 + 1)) x1000 bt593.2.2.2.2.2.1 bt593.2.2.2.2.2.2) else (none))) else ((spec_l1PickInt.f x1000 bt590.2.1 bt590.2.2 (([3, 3, 3, 2, 8, 9, 0, (-1)] : List Int))).bind fun bt606 => (some (bt606.1, x7, bt606.2.1, bt606.2.2))))
def spec_l20Draw.f (k : Nat) (s0_0 : List Int) (s0_1 : Int) (s0_2 : Int) : Option (Int × (List (S31)) × Int × Int) := (spec_l1Once.f s0_0 s0_1 s0_2 2).bind fun bt570 => (if bt570.1 = true then ((spec_l18DrawRun.f k s0_0 bt570.2.1 bt570.2.2 20).bind fun bt573 => ((spec_Trace.f k bt573.1 bt573.2.1 bt573.2.2.1).bind fun t584 => (some ((bt573.2.1.length : Int), t584, bt573.2.2.2.1, bt573.2.2.2.2)))) else (spec_l20Draw.l0 k (([] : List (S31))) 0 s0_0 bt570.2.1 bt570.2.2))
theorem spec_l20Draw.mono_l : ∀ k, (∀ y0 y1 y2 y3 y4, LeO (spec_l20Draw.l0 k y0 y1 y2 y3 y4) (spec_l20Draw.l0 (k + 1) y0 y1 y2 y3 y4))
 | 0 => fun _ _ _ _ _ r h => by simp [spec_l20Draw.l0] at h
 | k + 1 => by
  have ih0 := spec_l20Draw.mono_l k
  ·intros
   unfold spec_l20Draw.l0
   have mo0 := @spec_Trace.mono
   have mo1 := @spec_l18DrawRun.mono
   exact zL
theorem spec_l20Draw.mono : ∀ a0 a1 a2 k, LeO (spec_l20Draw.f k a0 a1 a2) (spec_l20Draw.f (k + 1) a0 a1 a2) := by
 intro a0 a1 a2 k
 have ih0 := spec_l20Draw.mono_l k
 unfold spec_l20Draw.f
 have mo0 := @spec_Trace.mono
 have mo1 := @spec_l18DrawRun.mono
 exact zL
theorem spec_l20Draw.calls (k : Nat) (g : Nat) (s0_0 : List Int) (s0_1 : Int) (s0_2 : Int) (r1 : Int) (r2 : List (S31)) (r3 : Int) (r4 : Int) (w0 w : World) (hI : IsS90 w0 w g s0_0 s0_1 s0_2) (hB : Below w0.heap.size w0 w) (h : spec_l20Draw.f k s0_0 s0_1 s0_2 = some (r1, r2, r3, r4)) :
  Calls Try.prog 29 #[.pointer (some ⟨g, 0, none⟩)] w fun e w' => ∃ v1_ : Value, e = .returned (.tuple #[.int .i64 r1, v1_]) ∧ Kd.R k31 31 w' w.heap.size (fun _ => True) v1_ r2 ∧ IsS90 w0 w' g s0_0 r3 r4 ∧ Below w0.heap.size w0 w' ∧ KeepBut w w' g none := by
 have HI0 := zM hI
 have HK := zM (KeepBut.refl w g none)
 have HL := zM hB.size
 clear hI
 have HW0 := zM hB.size
 have HB := zM hB
 clear hB
 unfold spec_l20Draw.f at h
 have H := h
 clear h
 replace H := zO H
 obtain ⟨⟨t570, t571, t572⟩, A2, H⟩ := H
 try dsimp only at H
 by_cases c3 : t570 = true
 ·subst c3
  rw [if_pos rfl] at H
  replace H := zO H
  obtain ⟨⟨t573, t576, t579, t582, t583⟩, A4, H⟩ := H
  try dsimp only at H
  replace H := zO H
  obtain ⟨t584, A5, H⟩ := H
  simp only [Option.some.injEq, Prod.mk.injEq] at H
  obtain ⟨rfl, rfl, rfl, rfl⟩ := H
  go_enter Try.func29, Try.ntmps29
  go_wp2_with (first | ((with_reducible refine zG Try.func58 10 #[.pointer (some ⟨g, 0, none⟩), .int .i64 2] ?_); (with_reducible refine (spec_l1Once.calls g s0_0 s0_1 s0_2 2 true t571 t572 w0 _ ?side1 ?side2 A2.1).mono ?_); (case side1 => exact zB32); (case side2 => exact zB33); rintro e w6 ⟨rfl, hi, hb, hk⟩; refine ⟨_, rfl, ?_⟩; replace HK := zM (KeepBut.trans zB34 hk (.inl rfl)); replace HB := zM hb; replace HI0 := zM hi; clear hb hk hi) | ((with_reducible refine zG Try.func59 13 #[.pointer (some ⟨g, 0, none⟩), .int .i64 20] ?_); (with_reducible refine (spec_l18DrawRun.calls k g s0_0 t571 t572 20 t573 t576 t579 t582 t583 w0 _ ?side1 ?side2 A4.1).mono ?_); (case side1 => exact zB32); (case side2 => exact zB33); rintro e w7 ⟨v574, v577, v580, rfl, ho0, ho1, ho2, hi, hb, hk⟩; refine ⟨_, rfl, ?_⟩; have HO575 := zM (Kd.R_lower ho0 (keep_size (w := w) (g := g) (row := none) zB34)); have HO578 := zM (Kd.S_lower ho1 (keep_size (w := w) (g := g) (row := none) zB34)); have HO581 := zM (Kd.R_lower ho2 (keep_size (w := w) (g := g) (row := none) zB34)); replace HK := zM (KeepBut.trans zB34 hk (.inl rfl)); replace HB := zM hb; replace HI0 := zM hi; clear hb hk hi ho0 ho1 ho2; obtain ⟨Ao8, co8, eo8⟩ := Kd.S_slice HO578.1; subst eo8; obtain ⟨Ao9, co9, eo9⟩ := Kd.R_slice HO575.1; subst eo9; obtain ⟨Ao10, co10, eo10⟩ := Kd.R_slice HO581.1; subst eo10) | ((with_reducible refine zG Try.func28 22 #[.slice Ao9 t573.length co9, .slice Ao8 t576.length co8, .slice Ao10 t579.length co10] ?_); (with_reducible refine (spec_Trace.calls k _ _ t573 (fun k_ => ((some k_ ≠ (.slice Ao9 t573.length co9 : Value).ownBlock ∧ some k_ ≠ (.slice Ao10 t579.length co10 : Value).ownBlock) ∧ k_ ≠ g)) _ _ t576 _ _ t579 t584 _ ?side1 ?side2 ?side3 ?side4 ?side5 A5.1).mono ?_); (case side1 => exact zC (Kd.R_reads' HO575.1).2.2); (case side2 => exact (Kd.R_reads' HO575.1).2.1); (case side3 => exact Kd.S_V (IsS90.apartS HI0.1 (HO578.1) (by decide))); (case side4 => exact zC (Kd.R_reads' HO581.1).2.2); (case side5 => exact (Kd.R_reads' HO581.1).2.1); rintro e w11 ⟨v585, rfl, ho0, hb⟩; refine ⟨_, rfl, ?_⟩; replace HO575 := zM (Kd.R_below (zR HO575.1) hb); replace HO578 := zM (Kd.S_below (zS HO578.1) hb); replace HO581 := zM (Kd.R_below (zR HO581.1) hb); have HO586 := zM (Kd.R_lower (Kd.R_mono (ok' := fun k_ => True) ho0 (fun _ hk_ => trivial)) (keep_size (w := w) (g := g) (row := none) zB34)); replace HK := zM (KeepBut.trans zB34 (KeepBut.of_below hb g none) (.inl rfl)); replace HB := zM (below_step zB33 hb); replace HI0 := zM (IsS90.below zB32 hb); clear hb ho0))
  go_ret2
  exact ⟨_, zE, zR HO586.1, zB32, zB33, zB34⟩
 replace c3 := Bool.eq_false_iff.mpr c3
 subst c3
 rw [if_neg zF] at H
 generalize hy587 : ((([] : List (S31))) : List (S31)) = y587 at H
 have Ny587 := zM hy587.symm
 clear hy587
 have H' := zM H
 clear H
 go_enter Try.func29, Try.ntmps29
 go_wp2_with (first | ((with_reducible refine zG Try.func58 10 #[.pointer (some ⟨g, 0, none⟩), .int .i64 2] ?_); (with_reducible refine (spec_l1Once.calls g s0_0 s0_1 s0_2 2 false t571 t572 w0 _ ?side1 ?side2 A2.1).mono ?_); (case side1 => exact zB32); (case side2 => exact zB33); rintro e w12 ⟨rfl, hi, hb, hk⟩; refine ⟨_, rfl, ?_⟩; replace HK := zM (KeepBut.trans zB34 hk (.inl rfl)); replace HB := zM hb; replace HI0 := zM hi; clear hb hk hi) | ((with_reducible refine gate_dst (N := 23) rfl ?_); refine Kd.R_lit k31 _ 31 ?hg (N := 23) ?hd (xs := ([] : List (S31))) (inner := []) (ok := fun _ => True) (okp := fun _ => True) ?hr ?hp (fun _ hk => hk) trivial (Below.refl _ _) (Nat.le_refl _) (by simp) ?_; (case hd => rfl); (case hg => rfl); (case hr => exact zHH); (case hp => exact (Reps.none _ _)); intro v588 w13 ho14 hb hg_ hnew_; clear hg_ hnew_; (first | rw [← Ny587.1] at ho14 | (simp only [Int.reduceToNat] at ho14; rw [← Ny587.1] at ho14)); have HO589 := zM (Kd.R_lower ho14 (keep_size (w := w) (g := g) (row := none) zB34)); replace HK := zM (KeepBut.trans zB34 (KeepBut.of_below hb g none) (.inl rfl)); replace HB := zM (below_step zB33 hb); replace HI0 := zM (IsS90.below zB32 hb); clear hb ho14))
 go_loopg [7, 8] k (fun kq v7 v8 w' => ∃ (x7_1 : List (S31)) (x8_1 : Int) (x1001_1 : Int) (x1002_1 : Int), v8 = .int .i64 x8_1 ∧ Aside0 (spec_l20Draw.l0 kq x7_1 x8_1 s0_0 x1001_1 x1002_1 = some (r1, r2, r3, r4)) ∧ Aside0 (kq ≤ k) ∧ Aside0 (Kd.R k31 31 w' w.heap.size (fun _ => True) v7 x7_1) ∧ Aside0 (IsS90 w0 w' g s0_0 x1001_1 x1002_1) ∧ Aside0 (KeepBut w w' g none) ∧ Aside0 (Below w0.heap.size w0 w'))
 case atStart => exact ⟨(y587), (0), (t571), (t572), zJJ, H', ⟨Nat.le_refl _⟩, ⟨zR HO589.1⟩, ⟨zB32⟩, ⟨zB34⟩, ⟨zB33⟩⟩
 case round =>
  clear H'
  obtain ⟨x7_1, x8_1, x1001_1, x1002_1, rfl, HA, HK1, HO_7, HI0, HK, HB⟩ := hrel
  cases gk with
  | zero => exact absurd HA.1 (by simp [spec_l20Draw.l0])
  | succ k1 =>
   have H := HA.1
   clear HA
   simp only [spec_l20Draw.l0] at H
   replace H := zO H
   obtain ⟨⟨t590, t591, t592⟩, A15, H⟩ := H
   try dsimp only at H
   by_cases c16 : x8_1 < t590
   ·rw [if_pos c16] at H
    have c16b0 := decide_eq_true c16
    clear c16
    replace H := zO H
    obtain ⟨⟨t593, t594, t595, t596, t597, t598, t599⟩, A17, H⟩ := H
    try dsimp only at H
    replace H := zIn H
    obtain ⟨LMc18, H⟩ := H
    generalize hy600 : ((x7_1 ++ [(⟨t593, t594, t595, t596, t597⟩ : S31)]) : List (S31)) = y600 at H
    have Ny600 := zM hy600.symm
    clear hy600
    have H' := zM H
    clear H
    go_wp2_with (first | ((with_reducible refine zG Try.func42 26 #[.pointer (some ⟨g, 0, none⟩), .int .i64 9] ?_); (with_reducible refine (spec_l1Below.calls g s0_0 x1001_1 x1002_1 9 t590 t591 t592 w0 _ ?side1 ?side2 A15.1).mono ?_); (case side1 => exact zB32); (case side2 => exact zB33); rintro e w19 ⟨rfl, hi, hb, hk⟩; refine ⟨_, rfl, ?_⟩; replace HO_7 := zM (Kd.R_mono (Kd.R_keep (IsS90.apart (show IsS90 w0 _ g s0_0 x1001_1 x1002_1 from zB32) (zR HO_7.1) (by decide)) hk (fun _ h => h.2)) (fun _ h => h.1)); replace HK := zM (KeepBut.trans zB34 hk (.inl rfl)); replace HB := zM hb; replace HI0 := zM hi; clear hb hk hi) | ((with_reducible refine zG Try.func60 32 #[.pointer (some ⟨g, 0, none⟩)] ?_); (with_reducible refine (spec_l19DrawEvent.calls g s0_0 t591 t592 t593 t594 t595 t596 t597 t598 t599 w0 _ ?side1 ?side2 A17.1).mono ?_); (case side1 => exact zB32); (case side2 => exact zB33); rintro e w20 ⟨rfl, hi, hb, hk⟩; refine ⟨_, rfl, ?_⟩; replace HO_7 := zM (Kd.R_mono (Kd.R_keep (IsS90.apart (show IsS90 w0 _ g s0_0 t591 t592 from zB32) (zR HO_7.1) (by decide)) hk (fun _ h => h.2)) (fun _ h => h.1)); replace HK := zM (KeepBut.trans zB34 hk (.inl rfl)); replace HB := zM hb; replace HI0 := zM hi; clear hb hk hi) | ((with_reducible refine gate_builtin (b := .append) (xs := #[.tmp 30, .tmp 33]) rfl ?_); at_builtin; refine Kd.R_append k31 w.heap.size rfl (.tmp 30) (.tmp 33) 24 31 (.agg #[(.int .i64 0), (.int .i64 0), (.int .i64 0), (.int .i64 0), (.int .i64 0)]) 40 rfl Try.underlying24 info31 rfl (by decide) (by omega) u7 x7_1 (⟨t593, t594, t595, t596, t597⟩ : S31) [.int .i64 t593, .int .i64 t594, .int .i64 t595, .int .i64 t596, .int .i64 t597] (fun _ => True) (fun _ => False) rfl rfl ?aP (fun _ hk => hk.elim) ?aF ?aO (Below.refl _ _) ?aS ?aL ?_; (case aP => exact k31_mkM _ _ _ (⟨t593, t594, t595, t596, t597⟩ : S31)); (case aF => exact (fun _ _ => trivial)); (case aO => exact (zR HO_7.1)); (case aS => exact (keep_size (w := w) (g := g) (row := none) zB34)); (case aL => have := LMc18.out; omega); intro v601 w21 ho hb hg hat; rw [← Ny600.1] at ho; replace HB := zM (below_weaken zB33 HL.1 hb); replace HI0 := zM (IsS90.grown (show IsS90 w0 _ g s0_0 t598 t599 from zB32) hg (IsS90.own_ne HI0.1 HO_7.1 (by decide))); replace HK := zM (KeepBut.trans zB34 (KeepBut.of_grown hg g) (Kd.R_base2 HO_7.1)); have HO602 := zM ho; clear HO_7; clear ho hb hg hat))
    go_roundg k1
    case measure => have := HK1.1; omega
    case rel => exact ⟨(y600), (wrap64 (x8_1 + 1)), (t598), (t599), zJJ, H', ⟨by have := HK1.1; omega⟩, ⟨zR HO602.1⟩, ⟨zB32⟩, ⟨zB34⟩, ⟨zB33⟩⟩
   rw [if_neg c16] at H
   have c16b0 := decide_eq_false c16
   clear c16
   generalize hy603 : ((([3, 3, 3, 2, 8, 9, 0, (-1)] : List Int)) : List Int) = y603 at H
   have Ny603 := zM hy603.symm
   clear hy603
   replace H := zO H
   obtain ⟨⟨t606, t607, t608⟩, A22, H⟩ := H
   try dsimp only at H
   simp only [Option.some.injEq, Prod.mk.injEq] at H
   obtain ⟨rfl, rfl, rfl, rfl⟩ := H
   go_wp2_with (first | ((with_reducible refine zG Try.func42 26 #[.pointer (some ⟨g, 0, none⟩), .int .i64 9] ?_); (with_reducible refine (spec_l1Below.calls g s0_0 x1001_1 x1002_1 9 t590 t591 t592 w0 _ ?side1 ?side2 A15.1).mono ?_); (case side1 => exact zB32); (case side2 => exact zB33); rintro e w23 ⟨rfl, hi, hb, hk⟩; refine ⟨_, rfl, ?_⟩; replace HO_7 := zM (Kd.R_mono (Kd.R_keep (IsS90.apart (show IsS90 w0 _ g s0_0 x1001_1 x1002_1 from zB32) (zR HO_7.1) (by decide)) hk (fun _ h => h.2)) (fun _ h => h.1)); replace HK := zM (KeepBut.trans zB34 hk (.inl rfl)); replace HB := zM hb; replace HI0 := zM hi; clear hb hk hi) | ((with_reducible refine gate_dst (N := 36) rfl ?_); refine Kd.R_lit (Kd.int .i64) _ 3 ?hg (N := 36) ?hd (xs := ([3, 3, 3, 2, 8, 9, 0, (-1)] : List Int)) (inner := [.int .i64 3, .int .i64 3, .int .i64 3, .int .i64 2, .int .i64 8, .int .i64 9, .int .i64 0, .int .i64 (-1)]) (ok := fun _ => True) (okp := fun _ => True) ?hr ?hp (fun _ hk => hk) trivial (Below.refl _ _) (Nat.le_refl _) (by simp) ?_; (case hd => rfl); (case hg => rfl); (case hr => exact zHH); (case hp => exact (Reps.one (show Kd.M (Kd.int .i64) _ _ _ 3 [.int .i64 3] from rfl) (Reps.one (show Kd.M (Kd.int .i64) _ _ _ 3 [.int .i64 3] from rfl) (Reps.one (show Kd.M (Kd.int .i64) _ _ _ 3 [.int .i64 3] from rfl) (Reps.one (show Kd.M (Kd.int .i64) _ _ _ 2 [.int .i64 2] from rfl) (Reps.one (show Kd.M (Kd.int .i64) _ _ _ 8 [.int .i64 8] from rfl) (Reps.one (show Kd.M (Kd.int .i64) _ _ _ 9 [.int .i64 9] from rfl) (Reps.one (show Kd.M (Kd.int .i64) _ _ _ 0 [.int .i64 0] from rfl) (Reps.one (show Kd.M (Kd.int .i64) _ _ _ (-1) [.int .i64 (-1)] from rfl) (Reps.none _ _)))))))))); intro v604 w24 ho25 hb hg_ hnew_; clear hg_ hnew_; (first | rw [← Ny603.1] at ho25 | (simp only [Int.reduceToNat] at ho25; rw [← Ny603.1] at ho25)); replace HO_7 := zM (Kd.R_below (zR HO_7.1) hb); have HO605 := zM (Kd.R_lower ho25 (keep_size (w := w) (g := g) (row := none) zB34)); replace HK := zM (KeepBut.trans zB34 (KeepBut.of_below hb g none) (.inl rfl)); replace HB := zM (below_step zB33 hb); replace HI0 := zM (IsS90.below zB32 hb); clear hb ho25; obtain ⟨Ao26, co26, eo26⟩ := Kd.R_slice HO605.1; subst eo26) | ((with_reducible refine zG Try.func61 37 #[.pointer (some ⟨g, 0, none⟩), .slice Ao26 y603.length co26] ?_); (with_reducible refine (spec_l1PickInt.calls g s0_0 t591 t592 _ _ y603 t606 t607 t608 w0 _ ?side1 ?side2 ?side3 ?side4 ?side5 A22.1).mono ?_); (case side1 => exact zB32); (case side2 => exact zB33); (case side3 => exact zC (Kd.R_reads' HO605.1).2.2); (case side4 => exact (Kd.R_reads' HO605.1).2.1); (case side5 => exact far_slice (IsS90.own_ne HI0.1 HO605.1 (by decide))); rintro e w27 ⟨rfl, hi, hb, hk⟩; refine ⟨_, rfl, ?_⟩; replace HO_7 := zM (Kd.R_mono (Kd.R_keep (IsS90.apart (show IsS90 w0 _ g s0_0 t591 t592 from zB32) (zR HO_7.1) (by decide)) hk (fun _ h => h.2)) (fun _ h => h.1)); replace HO605 := zM (Kd.R_mono (Kd.R_keep (IsS90.apart (show IsS90 w0 _ g s0_0 t591 t592 from zB32) (zR HO605.1) (by decide)) hk (fun _ h => h.2)) (fun _ h => h.1)); replace HK := zM (KeepBut.trans zB34 hk (.inl rfl)); replace HB := zM hb; replace HI0 := zM hi; clear hb hk hi))
   go_ret2
   exact ⟨_, zE, zR HO_7.1, zB32, zB33, zB34⟩

/-! ### spec_l1New: function 30 -/
def spec_l1New.l0 : Nat → List Int → Int → Int → Option (List Int × Int × Int)
 | 0, _, _, _ => none
 | k + 1, x0, x3, x4 => if x4 < (x0.length : Int) then (if x4 < 4000 then (if 0 ≤ x4 then (spec_l1New.l0 k x0 (Go.bits .and .i64 (wrap64 ((wrap64 ((wrap64 (x3 * 131)) + (wrap64 (rd x0 x4)))) + 7)) 1073741823) (wrap64 (x4 + 1))) else (none)) else (some (x0, 0, x3))) else (some (x0, 0, x3))
def spec_l1New.f (k : Nat) (l0 : List Int) : Option (List Int × Int × Int) := spec_l1New.l0 k l0 (wrap64 (20404 + (l0.length : Int))) 0
theorem spec_l1New.mono_l : ∀ k, (∀ y0 y1 y2, LeO (spec_l1New.l0 k y0 y1 y2) (spec_l1New.l0 (k + 1) y0 y1 y2))
 | 0 => fun _ _ _ r h => by simp [spec_l1New.l0] at h
 | k + 1 => by
  have ih0 := spec_l1New.mono_l k
  ·intros
   unfold spec_l1New.l0
   exact zL
theorem spec_l1New.mono : ∀ a0 k, LeO (spec_l1New.f k a0) (spec_l1New.f (k + 1) a0) := by
 intro a0 k
 have ih0 := spec_l1New.mono_l k
 unfold spec_l1New.f
 exact zL
theorem spec_l1New.calls (k : Nat) (A0 : Option Addr) (c0 : Nat) (l0 : List Int) (r1 : List Int) (r2 : Int) (r3 : Int) (w0 w : World) (hB : Below w0.heap.size w0 w) (hr0 : Kd.C (Kd.int .u8) w0 A0 l0.length l0) (hc0 : l0.length ≤ c0) (h : spec_l1New.f k l0 = some (r1, r2, r3)) :
  Calls Try.prog 30 #[.slice A0 l0.length c0] w fun e w' => ∃ g_ : Nat, e = .returned (.pointer (some ⟨g_, 0, none⟩)) ∧ IsS90 w0 w' g_ r1 r2 r3 ∧ Below w0.heap.size w0 w' ∧ Below w.heap.size w w' := by
 have hu90 := Try.underlying90
 have HR0 := zM hr0
 have HC0 := zM hc0
 clear hr0 hc0
 have HBW := zM (Below.refl w.heap.size w)
 have HW0 := zM hB.size
 have HB := zM hB
 clear hB
 unfold spec_l1New.f at h
 have H := h
 clear h
 have H' := zM H
 clear H
 go_enter Try.func30, Try.ntmps30
 go_wp2
 go_loopg [3, 4] k (fun kq v3 v4 w' => ∃ (x3_1 : Int) (x4_1 : Int), v3 = .int .i64 x3_1 ∧ v4 = .int .i64 x4_1 ∧ Aside0 (spec_l1New.l0 kq l0 x3_1 x4_1 = some (r1, r2, r3)) ∧ Aside0 (kq ≤ k) ∧ Aside0 (Below w0.heap.size w0 w') ∧ Aside0 (Below w.heap.size w w'))
 case atStart => exact ⟨(wrap64 (20404 + (l0.length : Int))), (0), zJJ, zJJ, H', ⟨Nat.le_refl _⟩, ⟨zB1⟩, ⟨zB64⟩⟩
 case round =>
  clear H'
  obtain ⟨x3_1, x4_1, rfl, rfl, HA, HK1, HB, HBW⟩ := hrel
  cases gk with
  | zero => exact absurd HA.1 (by simp [spec_l1New.l0])
  | succ k1 =>
   have H := HA.1
   clear HA
   simp only [spec_l1New.l0] at H
   by_cases c2 : x4_1 < (l0.length : Int)
   rotate_left
   ·rw [if_neg c2] at H
    have c2b0 := decide_eq_false c2
    clear c2
    simp only [Option.some.injEq, Prod.mk.injEq] at H
    obtain ⟨rfl, rfl, rfl⟩ := H
    go_wp2_with (first | ((with_reducible refine zBx 31 90 #[.slice A0 l0.length c0, .int .i64 0, .int .i64 x3_1] ?_); intro gb611 hg w6 hbox hb; replace HB := zM (below_step zB1 hb); have BK611 := zM hbox; have GW611 := zM (zW hg (below_size zB64)); have GE611 := zM ((Nat.le_trans HW0.1 (zW hg (below_size zB64)) : w0.heap.size ≤ gb611)); replace HBW := zM (below_step HBW.out hb); clear hb hbox hg))
    go_ret
    exact ⟨_, rfl, (show IsS90 w0 _ gb611 l0 0 x3_1 from ⟨_, _, zK BK611.1, GE611.1, HR0.1⟩), zB1, zB64⟩
   rw [if_pos c2] at H
   have c2b0 := decide_eq_true c2
   clear c2
   by_cases c3 : x4_1 < 4000
   ·rw [if_pos c3] at H
    have c3b0 := decide_eq_true c3
    clear c3
    replace H := zIt H
    obtain ⟨c4b0, H⟩ := H
    have H' := zM H
    clear H
    obtain ⟨p609, q609, ad609, e609, hx609_0⟩ := zRd (Kd.at_int HR0.1 x4_1)
    cases e609
    replace hx609_0 := pw_cell_below HB.1 hx609_0
    go_wp2
    go_roundg k1
    case measure => have := HK1.1; omega
    case rel => exact ⟨(Go.bits .and .i64 (wrap64 ((wrap64 ((wrap64 (x3_1 * 131)) + (wrap64 (rd l0 x4_1)))) + 7)) 1073741823), (wrap64 (x4_1 + 1)), zJJ, zJJ, H', ⟨by have := HK1.1; omega⟩, ⟨zB1⟩, ⟨zB64⟩⟩
   rw [if_neg c3] at H
   have c3b0 := decide_eq_false c3
   clear c3
   simp only [Option.some.injEq, Prod.mk.injEq] at H
   obtain ⟨rfl, rfl, rfl⟩ := H
   go_wp2_with (first | ((with_reducible refine zBx 31 90 #[.slice A0 l0.length c0, .int .i64 0, .int .i64 x3_1] ?_); intro gb610 hg w5 hbox hb; replace HB := zM (below_step zB1 hb); have BK610 := zM hbox; have GW610 := zM (zW hg (below_size zB64)); have GE610 := zM ((Nat.le_trans HW0.1 (zW hg (below_size zB64)) : w0.heap.size ≤ gb610)); replace HBW := zM (below_step HBW.out hb); clear hb hbox hg))
   go_ret
   exact ⟨_, rfl, (show IsS90 w0 _ gb610 l0 0 x3_1 from ⟨_, _, zK BK610.1, GE610.1, HR0.1⟩), zB1, zB64⟩

/-! ### spec_DrawRaces: function 18 -/
def spec_DrawRaces.f (k : Nat) (l0 : List Int) : Option (Int × (List (S31))) := (spec_l1New.f k l0).bind fun bt612 => ((spec_l20Draw.f k bt612.1 bt612.2.1 bt612.2.2).bind fun bt616 => (some (bt616.1, bt616.2.1)))
theorem spec_DrawRaces.mono : ∀ a0 k, LeO (spec_DrawRaces.f k a0) (spec_DrawRaces.f (k + 1) a0) := by
 intro a0 k
 unfold spec_DrawRaces.f
 have mo0 := @spec_l1New.mono
 have mo1 := @spec_l20Draw.mono
 exact zL
theorem spec_DrawRaces.calls (k : Nat) (A0 : Option Addr) (c0 : Nat) (l0 : List Int) (r1 : Int) (r2 : List (S31)) (w : World) (hr0 : Kd.C (Kd.int .u8) w A0 l0.length l0) (hc0 : l0.length ≤ c0) (h : spec_DrawRaces.f k l0 = some (r1, r2)) :
  Calls Try.prog 18 #[.slice A0 l0.length c0] w fun e w' => ∃ v1_ : Value, e = .returned (.tuple #[.int .i64 r1, v1_]) ∧ Kd.R k31 31 w' w.heap.size (fun _ => True) v1_ r2 ∧ Below w.heap.size w w' := by
 have HR0 := zM hr0
 have HC0 := zM hc0
 clear hr0 hc0
 have HB := zM (Below.refl w.heap.size w)
 unfold spec_DrawRaces.f at h
 have H := h
 clear h
 replace H := zO H
 obtain ⟨⟨t612, t613, t614⟩, A2, H⟩ := H
 try dsimp only at H
 replace H := zO H
 obtain ⟨⟨t616, t617, t620, t621⟩, A3, H⟩ := H
 try dsimp only at H
 simp only [Option.some.injEq, Prod.mk.injEq] at H
 obtain ⟨rfl, rfl⟩ := H
 go_enter Try.func18, Try.ntmps18
 go_wp2_with (first | ((with_reducible refine zG Try.func30 8 #[.slice A0 l0.length c0] ?_); (with_reducible refine (spec_l1New.calls k _ _ l0 t612 t613 t614 w _ ?side1 ?side2 ?side3 A2.1).mono ?_); (case side1 => exact zB1); (case side2 => exact HR0.1); (case side3 => exact HC0.1); rintro e w4 ⟨g615, rfl, hi, hb, hb2⟩; refine ⟨_, rfl, ?_⟩; replace HB := zM hb; have HI615 := zM hi; clear hb hb2 hi) | ((with_reducible refine zG Try.func29 9 #[.pointer (some ⟨g615, 0, none⟩)] ?_); (with_reducible refine (spec_l20Draw.calls k g615 t612 t613 t614 t616 t617 t620 t621 w _ ?side1 ?side2 A3.1).mono ?_); (case side1 => exact zB69); (case side2 => exact zB70); rintro e w5 ⟨v618, rfl, ho0, hi, hb, hk⟩; refine ⟨_, rfl, ?_⟩; have HO619 := zM (Kd.R_lower ho0 (below_size zB70)); replace HB := zM hb; replace HI615 := zM hi; clear hb hk hi ho0))
 go_ret2
 exact ⟨_, zE, zR HO619.1, zB70⟩

end Go.Proofs.Ytgbjengnkbomoaa.PFnRaces
