-- made by wip/tools/myprint.py out of the seat's translation
import Derived.Test.YtaakcbgpmabaaaaDoorPFnStoriesx0
import Derived.Test.YtaakcbgpmabaaaaDoorPFnStoriesx2
import Derived.Test.YtaakcbgpmabaaaaDoorPFnStoriesx3
import Derived.Test.YtaakcbgpmabaaaaDoorPFnStoriesx4
namespace Go.Proofs.YtaakcbgpmabaaaaDoor.PFnStories
open Go.RowKit Go.Proofs.YtaakcbgpmabaaaaDoorW.PrintWords Go.Proofs.YtaakcbgpmabaaaaDoorW.PrintLast Go.Proofs.YtaakcbgpmabaaaaDoorW.PrintMore
attribute [local go_sem] max2_int min2_int max_two min_two max_three min_three max_four min_four   -- for this text's walks alone
set_option linter.unusedVariables false
set_option linter.unusedSimpArgs false
set_option maxHeartbeats 8000000
set_option maxRecDepth 100000

/-! ### spec_HartOk: function 47 -/
def spec_HartOk.f (k : Nat) (l0_0 : List Int) (a0_1 : Int) (a0_2 : Int) : Option (Bool) := (spec_l1Words.f k l0_0 4).bind fun t266 => (if t266 = true then ((spec_l1In.f a0_1 0 23).bind fun t267 => (if t267 = true then ((spec_l1In.f a0_2 0 2).bind fun t268 => (some t268)) else (some false))) else (some false))
theorem spec_HartOk.mono : ∀ a0 a1 a2 k, LeO (spec_HartOk.f k a0 a1 a2) (spec_HartOk.f (k + 1) a0 a1 a2) := by
 intro a0 a1 a2 k
 unfold spec_HartOk.f
 have mo0 := @spec_l1Words.mono
 exact zL
theorem spec_HartOk.calls (k : Nat) (A0_0 : Option Addr) (c0_0 : Nat) (l0_0 : List Int) (a0_1 : Int) (a0_2 : Int) (r : Bool) (w : World) (hr0_0 : Kd.C (Kd.int .i64) w A0_0 l0_0.length l0_0) (hc0_0 : l0_0.length ≤ c0_0) (h : spec_HartOk.f k l0_0 a0_1 a0_2 = some r) :
  Calls Tryd.prog 47 #[.agg #[.slice A0_0 l0_0.length c0_0, .int .i64 a0_1, .int .i64 a0_2]] w fun e w' => e = .returned (.bool r) ∧ Below w.heap.size w w' := by
 have hu80 := Tryd.underlying80
 have HR0_0 := zM hr0_0
 have HC0_0 := zM hc0_0
 clear hr0_0 hc0_0
 have HB := zM (Below.refl w.heap.size w)
 unfold spec_HartOk.f at h
 have H := h
 clear h
 replace H := zO H
 obtain ⟨t266, A2, H⟩ := H
 by_cases c3 : t266 = true
 rotate_left
 ·replace c3 := Bool.eq_false_iff.mpr c3
  subst c3
  rw [if_neg zF] at H
  obtain rfl := Option.some.inj H
  go_enter Tryd.func47, Tryd.ntmps47
  go_wp2_with (first | ((with_reducible refine zBx 1 80 #[.slice A0_0 l0_0.length c0_0, .int .i64 a0_1, .int .i64 a0_2] ?_); intro gb265 hg w11 hbox hb; have BK265 := zM hbox; have GW265 := zM (zW hg (below_size zB3)); have GE265 := zM (zW hg (below_size zB3)); replace HB := zM (below_step zB3 hb); clear hb hbox hg; have hcz12 := zc_3 (w := w11) BK265.1) | ((with_reducible refine gate_callee (f := 59) rfl ?_); refine goesL_ (some 5) rfl rfl Tryd.func59 (by kernel_rfl) rfl #[.slice A0_0 l0_0.length c0_0, .int .i64 4] rfl zT ?_; (with_reducible refine (spec_l1Words.calls k _ _ l0_0 4 false _ ?side1 ?side2 A2.1).mono ?_); (case side1 => exact zC (Kd.C_below HR0_0.1 HB.1)); (case side2 => exact HC0_0.1); rintro e w' ⟨rfl, ⟨nd, rfl⟩⟩; refine ⟨_, rfl, ?_⟩))
  go_ret
  exact ⟨zE, zB3⟩
 subst c3
 rw [if_pos rfl] at H
 replace H := zO H
 obtain ⟨t267, A4, H⟩ := H
 by_cases c5 : t267 = true
 rotate_left
 ·replace c5 := Bool.eq_false_iff.mpr c5
  subst c5
  rw [if_neg zF] at H
  obtain rfl := Option.some.inj H
  go_enter Tryd.func47, Tryd.ntmps47
  go_wp2_with (first | ((with_reducible refine zBx 1 80 #[.slice A0_0 l0_0.length c0_0, .int .i64 a0_1, .int .i64 a0_2] ?_); intro gb265 hg w9 hbox hb; have BK265 := zM hbox; have GW265 := zM (zW hg (below_size zB3)); have GE265 := zM (zW hg (below_size zB3)); replace HB := zM (below_step zB3 hb); clear hb hbox hg; have hcz10 := zc_3 (w := w9) BK265.1) | ((with_reducible refine gate_callee (f := 59) rfl ?_); refine goesL_ (some 5) rfl rfl Tryd.func59 (by kernel_rfl) rfl #[.slice A0_0 l0_0.length c0_0, .int .i64 4] rfl zT ?_; (with_reducible refine (spec_l1Words.calls k _ _ l0_0 4 true _ ?side1 ?side2 A2.1).mono ?_); (case side1 => exact zC (Kd.C_below HR0_0.1 HB.1)); (case side2 => exact HC0_0.1); rintro e w' ⟨rfl, ⟨nd, rfl⟩⟩; refine ⟨_, rfl, ?_⟩) | (go_at_call 28; (with_reducible refine (spec_l1In.calls a0_1 0 23 false _ A4.1).mono ?_); rintro e w' ⟨rfl, ⟨nd, rfl⟩⟩))
  go_ret
  exact ⟨zE, zB3⟩
 subst c5
 rw [if_pos rfl] at H
 replace H := zO H
 obtain ⟨t268, A6, H⟩ := H
 obtain rfl := Option.some.inj H
 go_enter Tryd.func47, Tryd.ntmps47
 go_wp2_with (first | ((with_reducible refine zBx 1 80 #[.slice A0_0 l0_0.length c0_0, .int .i64 a0_1, .int .i64 a0_2] ?_); intro gb265 hg w7 hbox hb; have BK265 := zM hbox; have GW265 := zM (zW hg (below_size zB3)); have GE265 := zM (zW hg (below_size zB3)); replace HB := zM (below_step zB3 hb); clear hb hbox hg; have hcz8 := zc_3 (w := w7) BK265.1) | ((with_reducible refine gate_callee (f := 59) rfl ?_); refine goesL_ (some 5) rfl rfl Tryd.func59 (by kernel_rfl) rfl #[.slice A0_0 l0_0.length c0_0, .int .i64 4] rfl zT ?_; (with_reducible refine (spec_l1Words.calls k _ _ l0_0 4 true _ ?side1 ?side2 A2.1).mono ?_); (case side1 => exact zC (Kd.C_below HR0_0.1 HB.1)); (case side2 => exact HC0_0.1); rintro e w' ⟨rfl, ⟨nd, rfl⟩⟩; refine ⟨_, rfl, ?_⟩) | (go_at_call 28; (with_reducible refine (spec_l1In.calls a0_1 0 23 true _ A4.1).mono ?_); rintro e w' ⟨rfl, ⟨nd, rfl⟩⟩) | (go_at_call 28; (with_reducible refine (spec_l1In.calls a0_2 0 2 t268 _ A6.1).mono ?_); rintro e w' ⟨rfl, ⟨nd, rfl⟩⟩))
 go_ret
 exact ⟨zE, zB3⟩

/-! ### spec_l18DrawRun: function 31 -/
mutual
def spec_l18DrawRun.l0 : Nat → Int → List Int → List (S80) → Int → List Int → Int → Int → Option (List Int × (List (S80)) × List Int × Int × Int)
 | 0, _, _, _, _, _, _, _ => none
 | k + 1, x1, x7, x8, x9, x1000, x1001, x1002 => (spec_l1Below.f x1000 x1001 x1002 3).bind fun bt277 => (if x9 < (wrap64 (1 + bt277.1)) then ((spec_l9DrawHart.f k x1000 bt277.2.1 bt277.2.2).bind fun bt280 => ((spec_HartOk.f k bt280.1 bt280.2.1 bt280.2.2.1).bind fun t288 => (if t288 = true then (if x8.length < 3518437208883 then (spec_l18DrawRun.l0 k x1 x7 (x8 ++ [(⟨bt280.1, bt280.2.1, bt280.2.2.1⟩ : S80)]) (wrap64 (x9 + 1)) x1000 bt280.2.2.2.1 bt280.2.2.2.2) else (none)) else ((spec_l1Below.f x1000 bt280.2.2.2.1 bt280.2.2.2.2 20).bind fun bt292 => ((spec_HartNew.f bt292.1).bind fun bt295 => (if x8.length < 3518437208883 then (spec_l18DrawRun.l0 k x1 x7 (x8 ++ [(⟨bt295.1, bt295.2.1, bt295.2.2⟩ : S80)]) (wrap64 (x9 + 1)) x1000 bt292.2.1 bt292.2.2) else (none))))))) else (spec_l18DrawRun.l1 k x1 x7 x8 (([] : List Int)) 0 x1000 bt277.2.1 bt277.2.2))
def spec_l18DrawRun.l1 : Nat → Int → List Int → List (S80) → List Int → Int → List Int → Int → Int → Option (List Int × (List (S80)) × List Int × Int × Int)
 | 0, _, _, _, _, _, _, _, _ => none
 | k + 1, x1, x7, x8, x11, x12, x1000, x1001, x1002 => (spec_l1Below.f x1000 x1001 x1002 x1).bind fun bt306 => (if x12 < bt306.1 then ((spec_l1Below.f x1000 bt306.2.1 bt306.2.2 (x8.length : Int)).bind fun bt309 => (if x11.length < 17592186044416 then (spec_l18DrawRun.l1 k x1 x7 x8 (x11 ++ [bt309.1]) (wrap64 (x12 + 1)) x1000 bt309.2.1 bt309.2.2) else (none))) else (some (x7, x8, x11, bt306.2.1, bt306.2.2)))
end
def spec_l18DrawRun.f (k : Nat) (s0_0 : List Int) (s0_1 : Int) (s0_2 : Int) (a1 : Int) : Option (List Int × (List (S80)) × List Int × Int × Int) := (spec_l9DrawMem.f k s0_0 s0_1 s0_2).bind fun bt269 => (spec_l18DrawRun.l0 k a1 bt269.1 (([] : List (S80))) 0 s0_0 bt269.2.1 bt269.2.2)
theorem spec_l18DrawRun.mono_l : ∀ k, (∀ y0 y1 y2 y3 y4 y5 y6, LeO (spec_l18DrawRun.l0 k y0 y1 y2 y3 y4 y5 y6) (spec_l18DrawRun.l0 (k + 1) y0 y1 y2 y3 y4 y5 y6)) ∧ (∀ y0 y1 y2 y3 y4 y5 y6 y7, LeO (spec_l18DrawRun.l1 k y0 y1 y2 y3 y4 y5 y6 y7) (spec_l18DrawRun.l1 (k + 1) y0 y1 y2 y3 y4 y5 y6 y7))
 | 0 => ⟨fun _ _ _ _ _ _ _ r h => by simp [spec_l18DrawRun.l0] at h, fun _ _ _ _ _ _ _ _ r h => by simp [spec_l18DrawRun.l1] at h⟩
 | k + 1 => by
  obtain ⟨ih0, ih1⟩ := spec_l18DrawRun.mono_l k
  refine ⟨?_, ?_⟩
  ·intros
   unfold spec_l18DrawRun.l0
   have mo0 := @spec_HartOk.mono
   have mo1 := @spec_l9DrawHart.mono
   have mo2 := @spec_l9DrawMem.mono
   exact zL
  ·intros
   unfold spec_l18DrawRun.l1
   have mo0 := @spec_HartOk.mono
   have mo1 := @spec_l9DrawHart.mono
   have mo2 := @spec_l9DrawMem.mono
   exact zL
theorem spec_l18DrawRun.mono : ∀ a0 a1 a2 a3 k, LeO (spec_l18DrawRun.f k a0 a1 a2 a3) (spec_l18DrawRun.f (k + 1) a0 a1 a2 a3) := by
 intro a0 a1 a2 a3 k
 obtain ⟨ih0, ih1⟩ := spec_l18DrawRun.mono_l k
 unfold spec_l18DrawRun.f
 have mo0 := @spec_HartOk.mono
 have mo1 := @spec_l9DrawHart.mono
 have mo2 := @spec_l9DrawMem.mono
 exact zL
theorem l1Words_len {n : Int} : ∀ (k : Nat) (r : List Int) (x : Int), spec_l1Words.l0 k r n x = some true → (r.length : Int) = n
 | 0, r, x, h => by simp [spec_l1Words.l0] at h
 | k + 1, r, x, h => by
  unfold spec_l1Words.l0 at h
  by_cases c : x < (r.length : Int)
  rotate_left
  ·rw [if_neg c] at h; simpa using h
  rw [if_pos c] at h
  by_cases c2 : 0 ≤ x
  rotate_left
  ·rw [if_neg c2] at h; cases h
  rw [if_pos c2] at h
  obtain ⟨b, hb, h⟩ := Option.bind_eq_some_iff.1 h
  cases b with
  | true => exact l1Words_len k r _ (by simpa using h)
  | false => simp at h
theorem hartOk_len {k : Nat} {r : List Int} {p s : Int} (h : spec_HartOk.f k r p s = some true) : r.length = 4 := by
 unfold spec_HartOk.f at h
 obtain ⟨b, hb, h⟩ := Option.bind_eq_some_iff.1 h
 cases b with
 | false => simp at h
 | true =>
  have := l1Words_len k r 0 (show spec_l1Words.l0 k r 4 0 = some true from hb)
  omega
theorem spec_l18DrawRun.calls (k : Nat) (g : Nat) (s0_0 : List Int) (s0_1 : Int) (s0_2 : Int) (a1 : Int) (r1 : List Int) (r2 : List (S80)) (r3 : List Int) (r4 : Int) (r5 : Int) (w0 w : World) (hI : IsS64 w0 w g s0_0 s0_1 s0_2) (hB : Below w0.heap.size w0 w) (h : spec_l18DrawRun.f k s0_0 s0_1 s0_2 a1 = some (r1, r2, r3, r4, r5)) :
  Calls Tryd.prog 31 #[.pointer (some ⟨g, 0, none⟩), .int .i64 a1] w fun e w' => ∃ v0_ v1_ v2_ : Value, e = .returned (.tuple #[v0_, v1_, v2_]) ∧ Kd.R (Kd.int .i64) 3 w' w.heap.size (fun k_ => some k_ ≠ (v2_ : Value).ownBlock) v0_ r1 ∧ Kd.S k80 80 w' w.heap.size (fun k_ => some k_ ≠ (v0_ : Value).ownBlock ∧ some k_ ≠ (v2_ : Value).ownBlock) v1_ r2 ∧ Kd.R (Kd.int .i64) 3 w' w.heap.size (fun k_ => some k_ ≠ (v0_ : Value).ownBlock) v2_ r3 ∧ IsS64 w0 w' g s0_0 r4 r5 ∧ Below w0.heap.size w0 w' ∧ KeepBut w w' g none := by
 have hu80 := Tryd.underlying80
 have HI0 := zM hI
 have HK := zM (KeepBut.refl w g none)
 have HL := zM hB.size
 clear hI
 have HW0 := zM hB.size
 have HB := zM hB
 clear hB
 unfold spec_l18DrawRun.f at h
 have H := h
 clear h
 replace H := zO H
 obtain ⟨⟨t269, t272, t273⟩, A3, H⟩ := H
 try dsimp only at H
 generalize hy274 : ((([] : List (S80))) : List (S80)) = y274 at H
 have Ny274 := zM hy274.symm
 clear hy274
 have H' := zM H
 clear H
 go_enter Tryd.func31, Tryd.ntmps31
 go_wp2_with (first | ((with_reducible refine gate_callee (f := 45) rfl ?_); refine goesL_ (some 14) rfl rfl Tryd.func45 (by kernel_rfl) rfl #[.pointer (some ⟨g, 0, none⟩)] rfl zT ?_; (with_reducible refine (spec_l9DrawMem.calls k g s0_0 s0_1 s0_2 t269 t272 t273 w0 _ ?side1 ?side2 A3.1).mono ?_); (case side1 => exact zB0); (case side2 => exact zB1); rintro e w4 ⟨v270, rfl, ho0, hi, hb, hk⟩; refine ⟨_, rfl, ?_⟩; have HO271 := zM (Kd.R_lower ho0 (keep_size (w := w) (g := g) (row := none) zB2)); replace HK := zM (KeepBut.trans zB2 hk (.inl rfl)); replace HB := zM hb; replace HI0 := zM hi; clear hb hk hi ho0) | ((with_reducible refine gate_dst (N := 15) rfl ?_); refine Kd.S_lit k80 _ 80 ?hg (N := 15) ?hd (xs := ([] : List (S80))) (inner := []) (ok := fun _ => True) (okp := fun _ => True) ?hr ?hp (fun _ hk => hk) trivial (Below.refl _ _) (Nat.le_refl _) (by simp) ?_; (case hd => rfl); (case hg => rfl); (case hr => exact zHH); (case hp => exact (Reps.none _ _)); intro v275 w5 ho6 hb hg_ hnew_; clear hg_ hnew_; (first | rw [← Ny274.1] at ho6 | (simp only [Int.reduceToNat] at ho6; rw [← Ny274.1] at ho6)); have HO276 := zM (Kd.S_lower (Kd.S_new' ho6 (Kd.R_lt (zR HO271.1))) (keep_size (w := w) (g := g) (row := none) zB2)); replace HO271 := zM (Kd.R_below (zR HO271.1) hb); replace HK := zM (KeepBut.trans zB2 (KeepBut.of_below hb g none) (.inl rfl)); replace HB := zM (below_step zB1 hb); replace HI0 := zM (IsS64.below zB0 hb); clear hb ho6))
 go_loopg [8, 9] k (fun kq v8 v9 w' => ∃ (x8_1 : List (S80)) (x9_1 : Int) (x1001_1 : Int) (x1002_1 : Int), v9 = .int .i64 x9_1 ∧ Aside0 (spec_l18DrawRun.l0 kq a1 t269 x8_1 x9_1 s0_0 x1001_1 x1002_1 = some (r1, r2, r3, r4, r5)) ∧ Aside0 (kq ≤ k) ∧ Aside0 (Kd.R (Kd.int .i64) 3 w' w.heap.size (fun _ => True) v270 t269) ∧ Aside0 (Kd.S k80 80 w' w.heap.size (fun k_ => some k_ ≠ (v270 : Value).ownBlock) v8 x8_1) ∧ Aside0 (IsS64 w0 w' g s0_0 x1001_1 x1002_1) ∧ Aside0 (KeepBut w w' g none) ∧ Aside0 (Below w0.heap.size w0 w'))
 case atStart => exact ⟨(y274), (0), (t272), (t273), zJJ, H', ⟨Nat.le_refl _⟩, ⟨zR HO271.1⟩, ⟨by refine zrS ?_; exact Kd.S_mono HO276.1 (fun _ hk => hk.2)⟩, ⟨zB0⟩, ⟨zB2⟩, ⟨zB1⟩⟩
 case round =>
  clear H'
  obtain ⟨x8_1, x9_1, x1001_1, x1002_1, rfl, HA, HK1, HO_7, HO_8, HI0, HK, HB⟩ := hrel
  cases gk with
  | zero => exact absurd HA.1 (by simp [spec_l18DrawRun.l0])
  | succ k1 =>
   have H := HA.1
   clear HA
   simp only [spec_l18DrawRun.l0] at H
   replace H := zO H
   obtain ⟨⟨t277, t278, t279⟩, A7, H⟩ := H
   try dsimp only at H
   by_cases c8 : x9_1 < (wrap64 (1 + t277))
   rotate_left
   ·rw [if_neg c8] at H
    have c8b0 := decide_eq_false c8
    clear c8
    generalize hy303 : ((([] : List Int)) : List Int) = y303 at H
    have Ny303 := zM hy303.symm
    clear hy303
    have H' := zM H
    clear H
    go_wp2_with (first | ((with_reducible refine gate_callee (f := 18) rfl ?_); refine goesL_ (some 18) rfl rfl Tryd.func18 (by kernel_rfl) rfl #[.pointer (some ⟨g, 0, none⟩), .int .i64 3] rfl zT ?_; (with_reducible refine (spec_l1Below.calls g s0_0 x1001_1 x1002_1 3 t277 t278 t279 w0 _ ?side1 ?side2 A7.1).mono ?_); (case side1 => exact zB0); (case side2 => exact zB1); rintro e w39 ⟨rfl, hi, hb, hk⟩; refine ⟨_, rfl, ?_⟩; replace HO_7 := zM (Kd.R_mono (Kd.R_keep (IsS64.apart (show IsS64 w0 _ g s0_0 x1001_1 x1002_1 from zB0) (zR HO_7.1) (by decide)) hk (fun _ h => h.2)) (fun _ h => h.1)); replace HO_8 := zM (Kd.S_mono (Kd.S_keep (IsS64.apartS (show IsS64 w0 _ g s0_0 x1001_1 x1002_1 from zB0) (zS HO_8.1) (by decide)) hk (fun _ h => h.2)) (fun _ h => h.1)); replace HK := zM (KeepBut.trans zB2 hk (.inl rfl)); replace HB := zM hb; replace HI0 := zM hi; clear hb hk hi) | ((with_reducible refine gate_dst (N := 35) rfl ?_); refine Kd.R_lit (Kd.int .i64) _ 3 ?hg (N := 35) ?hd (xs := ([] : List Int)) (inner := []) (ok := fun _ => True) (okp := fun _ => True) ?hr ?hp (fun _ hk => hk) trivial (Below.refl _ _) (Nat.le_refl _) (by simp) ?_; (case hd => rfl); (case hg => rfl); (case hr => exact zHH); (case hp => exact (Reps.none _ _)); intro v304 w40 ho41 hb hg_ hnew_; clear hg_ hnew_; (first | rw [← Ny303.1] at ho41 | (simp only [Int.reduceToNat] at ho41; rw [← Ny303.1] at ho41)); replace HO_8 := zM (Kd.S_elder' (zS HO_8.1) (Kd.R_base ho41) hb); have HO305 := zM (Kd.R_lower (Kd.R_new' ho41 (Kd.R_lt (zR HO_7.1))) (keep_size (w := w) (g := g) (row := none) zB2)); replace HO_7 := zM (Kd.R_elder' (zR HO_7.1) (Kd.R_base ho41) hb); replace HK := zM (KeepBut.trans zB2 (KeepBut.of_below hb g none) (.inl rfl)); replace HB := zM (below_step zB1 hb); replace HI0 := zM (IsS64.below zB0 hb); clear hb ho41))
    go_loopg [11, 12] k1 (fun kq v11 v12 w' => ∃ (x11_2 : List Int) (x12_2 : Int) (x1001_2 : Int) (x1002_2 : Int), v12 = .int .i64 x12_2 ∧ Aside0 (spec_l18DrawRun.l1 kq a1 t269 x8_1 x11_2 x12_2 s0_0 x1001_2 x1002_2 = some (r1, r2, r3, r4, r5)) ∧ Aside0 (kq ≤ k1) ∧ Aside0 (Kd.R (Kd.int .i64) 3 w' w.heap.size (fun k_ => some k_ ≠ (v11 : Value).ownBlock) v270 t269) ∧ Aside0 (Kd.S k80 80 w' w.heap.size (fun k_ => some k_ ≠ (v270 : Value).ownBlock ∧ some k_ ≠ (v11 : Value).ownBlock) u8 x8_1) ∧ Aside0 (Kd.R (Kd.int .i64) 3 w' w.heap.size (fun k_ => some k_ ≠ (v270 : Value).ownBlock) v11 x11_2) ∧ Aside0 (IsS64 w0 w' g s0_0 x1001_2 x1002_2) ∧ Aside0 (KeepBut w w' g none) ∧ Aside0 (Below w0.heap.size w0 w'))
    case atStart => exact ⟨(y303), (0), (t278), (t279), zJJ, H', ⟨Nat.le_refl _⟩, ⟨by refine zrR ?_; exact Kd.R_mono HO_7.1 (fun _ hk => hk.2)⟩, ⟨zS HO_8.1⟩, ⟨by refine zrR ?_; exact Kd.R_mono HO305.1 (fun _ hk => hk.2)⟩, ⟨zB0⟩, ⟨zB2⟩, ⟨zB1⟩⟩
    case round =>
     clear H'
     obtain ⟨x11_2, x12_2, x1001_2, x1002_2, rfl, HA, HK2, HO_7, HO_8, HO_11, HI0, HK, HB⟩ := hrel
     cases gk with
     | zero => exact absurd HA.1 (by simp [spec_l18DrawRun.l1])
     | succ k2 =>
      have H := HA.1
      clear HA
      simp only [spec_l18DrawRun.l1] at H
      replace H := zO H
      obtain ⟨⟨t306, t307, t308⟩, A42, H⟩ := H
      try dsimp only at H
      by_cases c43 : x12_2 < t306
      rotate_left
      ·rw [if_neg c43] at H
       have c43b0 := decide_eq_false c43
       clear c43
       simp only [Option.some.injEq, Prod.mk.injEq] at H
       obtain ⟨rfl, rfl, rfl, rfl, rfl⟩ := H
       go_wp2_with (first | ((with_reducible refine gate_callee (f := 18) rfl ?_); refine goesL_ (some 39) rfl rfl Tryd.func18 (by kernel_rfl) rfl #[.pointer (some ⟨g, 0, none⟩), .int .i64 a1] rfl zT ?_; (with_reducible refine (spec_l1Below.calls g s0_0 x1001_2 x1002_2 a1 t306 t307 t308 w0 _ ?side1 ?side2 A42.1).mono ?_); (case side1 => exact zB0); (case side2 => exact zB1); rintro e w50 ⟨rfl, hi, hb, hk⟩; refine ⟨_, rfl, ?_⟩; replace HO_7 := zM (Kd.R_mono (Kd.R_keep (IsS64.apart (show IsS64 w0 _ g s0_0 x1001_2 x1002_2 from zB0) (zR HO_7.1) (by decide)) hk (fun _ h => h.2)) (fun _ h => h.1)); replace HO_8 := zM (Kd.S_mono (Kd.S_keep (IsS64.apartS (show IsS64 w0 _ g s0_0 x1001_2 x1002_2 from zB0) (zS HO_8.1) (by decide)) hk (fun _ h => h.2)) (fun _ h => h.1)); replace HO_11 := zM (Kd.R_mono (Kd.R_keep (IsS64.apart (show IsS64 w0 _ g s0_0 x1001_2 x1002_2 from zB0) (zR HO_11.1) (by decide)) hk (fun _ h => h.2)) (fun _ h => h.1)); replace HK := zM (KeepBut.trans zB2 hk (.inl rfl)); replace HB := zM hb; replace HI0 := zM hi; clear hb hk hi))
       go_ret3
       exact ⟨_, _, _, zE, zR HO_7.1, zS HO_8.1, zR HO_11.1, zB0, zB1, zB2⟩
      rw [if_pos c43] at H
      have c43b0 := decide_eq_true c43
      clear c43
      replace H := zO H
      obtain ⟨⟨t309, t310, t311⟩, A44, H⟩ := H
      try dsimp only at H
      replace H := zIn H
      obtain ⟨LMc45, H⟩ := H
      generalize hy312 : ((x11_2 ++ [t309]) : List Int) = y312 at H
      have Ny312 := zM hy312.symm
      clear hy312
      have H' := zM H
      clear H
      go_wp2_with (first | ((with_reducible refine gate_callee (f := 18) rfl ?_); refine goesL_ (some 39) rfl rfl Tryd.func18 (by kernel_rfl) rfl #[.pointer (some ⟨g, 0, none⟩), .int .i64 a1] rfl zT ?_; (with_reducible refine (spec_l1Below.calls g s0_0 x1001_2 x1002_2 a1 t306 t307 t308 w0 _ ?side1 ?side2 A42.1).mono ?_); (case side1 => exact zB0); (case side2 => exact zB1); rintro e w46 ⟨rfl, hi, hb, hk⟩; refine ⟨_, rfl, ?_⟩; replace HO_7 := zM (Kd.R_mono (Kd.R_keep (IsS64.apart (show IsS64 w0 _ g s0_0 x1001_2 x1002_2 from zB0) (zR HO_7.1) (by decide)) hk (fun _ h => h.2)) (fun _ h => h.1)); replace HO_8 := zM (Kd.S_mono (Kd.S_keep (IsS64.apartS (show IsS64 w0 _ g s0_0 x1001_2 x1002_2 from zB0) (zS HO_8.1) (by decide)) hk (fun _ h => h.2)) (fun _ h => h.1)); replace HO_11 := zM (Kd.R_mono (Kd.R_keep (IsS64.apart (show IsS64 w0 _ g s0_0 x1001_2 x1002_2 from zB0) (zR HO_11.1) (by decide)) hk (fun _ h => h.2)) (fun _ h => h.1)); replace HK := zM (KeepBut.trans zB2 hk (.inl rfl)); replace HB := zM hb; replace HI0 := zM hi; clear hb hk hi; obtain ⟨Ao47, co47, eo47⟩ := Kd.S_slice HO_8.1; subst eo47) | ((with_reducible refine gate_callee (f := 18) rfl ?_); refine goesL_ (some 47) rfl rfl Tryd.func18 (by kernel_rfl) rfl #[.pointer (some ⟨g, 0, none⟩), .int .i64 (x8_1.length : Int)] rfl zT ?_; (with_reducible refine (spec_l1Below.calls g s0_0 t307 t308 (x8_1.length : Int) t309 t310 t311 w0 _ ?side1 ?side2 A44.1).mono ?_); (case side1 => exact zB0); (case side2 => exact zB1); rintro e w48 ⟨rfl, hi, hb, hk⟩; refine ⟨_, rfl, ?_⟩; replace HO_7 := zM (Kd.R_mono (Kd.R_keep (IsS64.apart (show IsS64 w0 _ g s0_0 t307 t308 from zB0) (zR HO_7.1) (by decide)) hk (fun _ h => h.2)) (fun _ h => h.1)); replace HO_8 := zM (Kd.S_mono (Kd.S_keep (IsS64.apartS (show IsS64 w0 _ g s0_0 t307 t308 from zB0) (zS HO_8.1) (by decide)) hk (fun _ h => h.2)) (fun _ h => h.1)); replace HO_11 := zM (Kd.R_mono (Kd.R_keep (IsS64.apart (show IsS64 w0 _ g s0_0 t307 t308 from zB0) (zR HO_11.1) (by decide)) hk (fun _ h => h.2)) (fun _ h => h.1)); replace HK := zM (KeepBut.trans zB2 hk (.inl rfl)); replace HB := zM hb; replace HI0 := zM hi; clear hb hk hi) | ((with_reducible refine gate_builtin (b := .append) (xs := #[.tmp 43, .tmp 48]) rfl ?_); at_builtin; refine Kd.R_append (Kd.int .i64) w.heap.size rfl (.tmp 43) (.tmp 48) 36 3 (.int .i64 0) 8 rfl Tryd.underlying36 info3 rfl (by decide) (by omega) u11 x11_2 t309 [.int .i64 t309] (fun k_ => some k_ ≠ (v270 : Value).ownBlock) (fun _ => False) rfl rfl ?aP (fun _ hk => hk.elim) ?aF ?aO (Below.refl _ _) ?aS ?aL ?_; (case aP => exact rfl); (case aF => exact (fun k_ hk => Kd.fresh' (Kd.R_lt (zR HO_7.1)) k_ hk)); (case aO => exact (zR HO_11.1)); (case aS => exact (keep_size (w := w) (g := g) (row := none) zB2)); (case aL => have := LMc45.out; omega); intro v313 w49 ho hb hg hat; rw [← Ny312.1] at ho; replace HO_7 := zM (Kd.R_after (ok := (fun _ => True)) (by refine zrR ?_; exact Kd.R_mono HO_7.1 (fun _ hk => ⟨trivial, hk⟩)) hg hat); replace HO_8 := zM (Kd.S_after (ok := (fun k_ => some k_ ≠ (v270 : Value).ownBlock)) (zS HO_8.1) hg hat); replace HB := zM (below_weaken zB1 HL.1 hb); replace HI0 := zM (IsS64.grown (show IsS64 w0 _ g s0_0 t310 t311 from zB0) hg (IsS64.own_ne HI0.1 HO_11.1 (by decide))); replace HK := zM (KeepBut.trans zB2 (KeepBut.of_grown hg g) (Kd.R_base2 HO_11.1)); have HO314 := zM ho; clear HO_11; clear ho hb hg hat))
      go_roundg k2
      case measure => have := HK1.1; have := HK2.1; omega
      case rel => exact ⟨(y312), (wrap64 (x12_2 + 1)), (t310), (t311), zJJ, H', ⟨by have := HK1.1; have := HK2.1; omega⟩, ⟨by refine zrR ?_; exact Kd.R_mono HO_7.1 (fun _ hk => hk.2)⟩, ⟨zS HO_8.1⟩, ⟨zR HO314.1⟩, ⟨zB0⟩, ⟨zB2⟩, ⟨zB1⟩⟩
   rw [if_pos c8] at H
   have c8b0 := decide_eq_true c8
   clear c8
   replace H := zO H
   obtain ⟨⟨t280, t283, t284, t285, t286⟩, A9, H⟩ := H
   try dsimp only at H
   replace H := zO H
   obtain ⟨t288, A10, H⟩ := H
   by_cases c11 : t288 = true
   ·subst c11
    rw [if_pos rfl] at H
    replace H := zIn H
    obtain ⟨LMc12, H⟩ := H
    generalize hy289 : ((x8_1 ++ [(⟨t280, t283, t284⟩ : S80)]) : List (S80)) = y289 at H
    have Ny289 := zM hy289.symm
    clear hy289
    have H' := zM H
    clear H
    go_wp2_with (first | ((with_reducible refine gate_callee (f := 18) rfl ?_); refine goesL_ (some 18) rfl rfl Tryd.func18 (by kernel_rfl) rfl #[.pointer (some ⟨g, 0, none⟩), .int .i64 3] rfl zT ?_; (with_reducible refine (spec_l1Below.calls g s0_0 x1001_1 x1002_1 3 t277 t278 t279 w0 _ ?side1 ?side2 A7.1).mono ?_); (case side1 => exact zB0); (case side2 => exact zB1); rintro e w13 ⟨rfl, hi, hb, hk⟩; refine ⟨_, rfl, ?_⟩; replace HO_7 := zM (Kd.R_mono (Kd.R_keep (IsS64.apart (show IsS64 w0 _ g s0_0 x1001_1 x1002_1 from zB0) (zR HO_7.1) (by decide)) hk (fun _ h => h.2)) (fun _ h => h.1)); replace HO_8 := zM (Kd.S_mono (Kd.S_keep (IsS64.apartS (show IsS64 w0 _ g s0_0 x1001_1 x1002_1 from zB0) (zS HO_8.1) (by decide)) hk (fun _ h => h.2)) (fun _ h => h.1)); replace HK := zM (KeepBut.trans zB2 hk (.inl rfl)); replace HB := zM hb; replace HI0 := zM hi; clear hb hk hi) | ((with_reducible refine gate_callee (f := 46) rfl ?_); refine goesL_ (some 24) rfl rfl Tryd.func46 (by kernel_rfl) rfl #[.pointer (some ⟨g, 0, none⟩)] rfl zT ?_; (with_reducible refine (spec_l9DrawHart.calls k1 g s0_0 t278 t279 t280 t283 t284 t285 t286 w0 _ ?side1 ?side2 A9.1).mono ?_); (case side1 => exact zB0); (case side2 => exact zB1); rintro e w14 ⟨v281, rfl, hoq_, hi, hb, hk⟩; have ho0 := hoq_.2 (hartOk_len A10.1); clear hoq_; refine ⟨_, rfl, ?_⟩; replace HO_8 := zM (Kd.S_mono (Kd.S_told (Kd.S_oldK (IsS64.apartS (show IsS64 w0 _ g s0_0 t278 t279 from zB0) (zS HO_8.1) (by decide)) hk) (Kd.R_base ho0)) (fun _ h_ => h_.1)); have HO282 := zM (Kd.R_lower (Kd.R_new' ho0 (Kd.R_lt (zR HO_7.1))) (keep_size (w := w) (g := g) (row := none) zB2)); replace HO_7 := zM (Kd.R_mono (Kd.R_told (Kd.R_oldK (IsS64.apart (show IsS64 w0 _ g s0_0 t278 t279 from zB0) (zR HO_7.1) (by decide)) hk) (Kd.R_base ho0)) (fun _ h_ => h_.1)); replace HK := zM (KeepBut.trans zB2 hk (.inl rfl)); replace HB := zM hb; replace HI0 := zM hi; clear hb hk hi) | ((with_reducible refine zBx 10 80 #[.slice none 0 0, .int .i64 0, .int .i64 0] ?_); intro gb287 hg w15 hbox hb; replace HO_7 := zM (Kd.R_below (zR HO_7.1) hb); replace HO_8 := zM (Kd.S_below (Kd.S_elderB (zS HO_8.1) gb287 (Nat.le_of_eq hg.symm)) hb); replace HO282 := zM (Kd.R_below (zR HO282.1) hb); replace HB := zM (below_step zB1 hb); have BK287 := zM hbox; have GW287 := zM ((by rw [hg]; exact (keep_size (w := w) (g := g) (row := none) zB2) : w.heap.size ≤ gb287)); have GE287 := zM ((Nat.le_trans HW0.1 (by rw [hg]; exact (keep_size (w := w) (g := g) (row := none) zB2) : w.heap.size ≤ gb287) : w0.heap.size ≤ gb287)); replace HK := zM (KeepBut.trans zB2 (KeepBut.of_below hb g none) (.inl rfl)); have NB0_287 := zM ((by rw [hg]; exact Nat.ne_of_lt (IsS64.lt (show IsS64 w0 _ g s0_0 t285 t286 from zB0)) : g ≠ gb287)); have NB287_0 := zM ((by rw [hg]; exact Nat.ne_of_gt (IsS64.lt (show IsS64 w0 _ g s0_0 t285 t286 from zB0)) : gb287 ≠ g)); replace HI0 := zM (IsS64.below zB0 hb); clear hb hbox hg; obtain ⟨Ao16, co16, eo16⟩ := Kd.R_slice HO282.1; subst eo16; have hnb17 := NB287_0.1; have hnc17 := NB0_287.1; have hcz18 := zc_3 (w := w15) BK287.1) | ((with_reducible refine gate_callee (f := 47) rfl ?_); refine goesL_ (some 26) rfl rfl Tryd.func47 (by kernel_rfl) rfl #[.agg #[.slice Ao16 t280.length co16, .int .i64 t283, .int .i64 t284]] rfl zT ?_; (with_reducible refine (spec_HartOk.calls k1 _ _ t280 t283 t284 true _ ?side1 ?side2 A10.1).mono ?_); (case side1 => refine (Kd.R_reads' (e := 3) (base := w.heap.size) (ok := fun k_ => (True ∧ some k_ ≠ (v270 : Value).ownBlock)) (n := t280.length) (c := co16) ?_).2.2; exact (by refine zrR ?_; exact (Kd.R_mono (zfR (zfR (zfR (Kd.R_types HO282.1 BK287.1 (by decide))))) (fun _ h_ => h_.1)))); (case side2 => exact (Kd.R_reads' HO282.1).2.1); rintro e w19 ⟨rfl, hb⟩; refine ⟨_, rfl, ?_⟩; replace HO_7 := zM (Kd.R_below (by refine zrR ?_; exact (Kd.R_mono (zfR (zfR (zfR (Kd.R_types HO_7.1 BK287.1 (by decide))))) (fun _ h_ => h_.1))) hb); replace HO_8 := zM (Kd.S_below (by refine zrS ?_; exact (Kd.S_mono (zfS (zfS (zfS (Kd.S_mono HO_8.1 (fun k_ hk => (⟨hk, hk.2⟩ : _ ∧ k_ ≠ gb287)))))) (fun _ h_ => h_.1))) hb); replace HO282 := zM (Kd.R_below (by refine zrR ?_; exact (Kd.R_mono (zfR (zfR (zfR (Kd.R_types HO282.1 BK287.1 (by decide))))) (fun _ h_ => h_.1))) hb); replace BK287 := zM (blk_below (g := gb287) (o := .cells #[.slice Ao16 t280.length co16, .int .i64 t283, .int .i64 t284] 80 (0, 0)) (by exact zp3 (zK BK287.1)) hb); replace HK := zM (KeepBut.trans zB2 (KeepBut.of_below hb g none) (.inl rfl)); replace HB := zM (below_step zB1 hb); replace HI0 := zM (IsS64.below (show IsS64 w0 (((w15.setCell ⟨gb287, 0, none⟩ (.slice Ao16 t280.length co16)).setCell ⟨gb287, 1, none⟩ (.int .i64 t283)).setCell ⟨gb287, 2, none⟩ (.int .i64 t284)) g s0_0 t285 t286 from zB26) hb); clear hb; have hcz20 := zc_3 (w := w19) BK287.1) | ((with_reducible refine gate_builtin (b := .append) (xs := #[.tmp 31, .tmp 33]) rfl ?_); at_builtin; refine Kd.S_append k80 w.heap.size rfl (.tmp 31) (.tmp 33) 56 80 (.agg #[(.slice none 0 0), (.int .i64 0), (.int .i64 0)]) 40 rfl Tryd.underlying56 info80 rfl (by decide) (by omega) u8 x8_1 (⟨t280, t283, t284⟩ : S80) [.slice Ao16 t280.length co16, .int .i64 t283, .int .i64 t284] (fun k_ => some k_ ≠ (v270 : Value).ownBlock ∧ k_ ≠ gb287) (fun k_ => some k_ = (.slice Ao16 t280.length co16 : Value).ownBlock) rfl rfl ?aP (fun k_ hk_ => ((Kd.R_mono (ok' := fun k_ => ((fun k_ => some k_ ≠ (v270 : Value).ownBlock ∧ k_ ≠ gb287)) k_ ∧ some k_ ≠ (u8 : Value).ownBlock) (Kd.R_types (Kd.R_apart' (HO282.1) (Kd.S_typed HO_8.1) (by decide)) BK287.1 (by decide)) (fun k_ hk => ⟨⟨hk.1.1.2, hk.2⟩, hk.1.2⟩))).1 k_ hk_.symm) ?aF ?aO (Below.refl _ _) ?aS ?aL ?_; (case aP => exact k80_mkM _ _ _ (⟨t280, t283, t284⟩ : S80) (Kd.R_mono (Kd.R_tight rfl (Kd.R_mono (ok' := fun k_ => ((fun k_ => some k_ ≠ (v270 : Value).ownBlock ∧ k_ ≠ gb287)) k_ ∧ some k_ ≠ (u8 : Value).ownBlock) (Kd.R_types (Kd.R_apart' (HO282.1) (Kd.S_typed HO_8.1) (by decide)) BK287.1 (by decide)) (fun k_ hk => ⟨⟨hk.1.1.2, hk.2⟩, hk.1.2⟩))) (fun _ h_ => h_))); (case aF => exact (fun k_ hk => ⟨Kd.fresh' (Kd.R_lt (zR HO_7.1)) k_ hk, Kd.freshB (g := gb287) (o := .cells #[.slice Ao16 t280.length co16, .int .i64 t283, .int .i64 t284] 80 (0, 0)) (zK BK287.1) k_ hk⟩)); (case aO => exact (by refine zrS ?_; exact Kd.S_mono HO_8.1 (fun k_ hk => ⟨⟨hk.1.1, hk.2⟩, fun e_ => hk.1.2 e_⟩))); (case aS => exact (keep_size (w := w) (g := g) (row := none) zB2)); (case aL => have := LMc12.out; omega); intro v290 w21 ho hb hg hat; rw [← Ny289.1] at ho; replace HO_7 := zM (Kd.R_over' (zR HO_7.1) (Kd.S_typed (zS HO_8.1)) (by decide) hg); replace BK287 := zM (zg BK287.1 hg (Kd.S_away HO_8.1 (fun _ hk => hk.2))); replace HB := zM (below_weaken zB1 HL.1 hb); replace HI0 := zM (IsS64.grown (show IsS64 w0 _ g s0_0 t285 t286 from zB26) hg (IsS64.own_neS HI0.1 HO_8.1 (by decide))); replace HK := zM (KeepBut.trans zB2 (KeepBut.of_grown hg g) (Kd.S_base2 HO_8.1)); have HO291 := zM ho; clear HO_8 HO282; clear ho hb hg hat))
    go_roundg k1
    case measure => have := HK1.1; omega
    case rel => exact ⟨(y289), (wrap64 (x9_1 + 1)), (t285), (t286), zJJ, H', ⟨by have := HK1.1; omega⟩, ⟨by refine zrR ?_; exact Kd.R_mono HO_7.1 (fun _ hk => trivial)⟩, ⟨by refine zrS ?_; exact Kd.S_mono HO291.1 (fun _ hk => hk.1)⟩, ⟨zB26⟩, ⟨zB2⟩, ⟨zB1⟩⟩
   replace c11 := Bool.eq_false_iff.mpr c11
   subst c11
   rw [if_neg zF] at H
   replace H := zO H
   obtain ⟨⟨t292, t293, t294⟩, A22, H⟩ := H
   try dsimp only at H
   replace H := zO H
   obtain ⟨⟨t295, t298, t299⟩, A23, H⟩ := H
   try dsimp only at H
   replace H := zIn H
   obtain ⟨LMc24, H⟩ := H
   generalize hy300 : ((x8_1 ++ [(⟨t295, t298, t299⟩ : S80)]) : List (S80)) = y300 at H
   have Ny300 := zM hy300.symm
   clear hy300
   have H' := zM H
   clear H
   go_wp2_with (first | ((with_reducible refine gate_callee (f := 18) rfl ?_); refine goesL_ (some 18) rfl rfl Tryd.func18 (by kernel_rfl) rfl #[.pointer (some ⟨g, 0, none⟩), .int .i64 3] rfl zT ?_; (with_reducible refine (spec_l1Below.calls g s0_0 x1001_1 x1002_1 3 t277 t278 t279 w0 _ ?side1 ?side2 A7.1).mono ?_); (case side1 => exact zB0); (case side2 => exact zB1); rintro e w25 ⟨rfl, hi, hb, hk⟩; refine ⟨_, rfl, ?_⟩; replace HO_7 := zM (Kd.R_mono (Kd.R_keep (IsS64.apart (show IsS64 w0 _ g s0_0 x1001_1 x1002_1 from zB0) (zR HO_7.1) (by decide)) hk (fun _ h => h.2)) (fun _ h => h.1)); replace HO_8 := zM (Kd.S_mono (Kd.S_keep (IsS64.apartS (show IsS64 w0 _ g s0_0 x1001_1 x1002_1 from zB0) (zS HO_8.1) (by decide)) hk (fun _ h => h.2)) (fun _ h => h.1)); replace HK := zM (KeepBut.trans zB2 hk (.inl rfl)); replace HB := zM hb; replace HI0 := zM hi; clear hb hk hi) | ((with_reducible refine gate_callee (f := 46) rfl ?_); refine goesL_ (some 24) rfl rfl Tryd.func46 (by kernel_rfl) rfl #[.pointer (some ⟨g, 0, none⟩)] rfl zT ?_; (with_reducible refine (spec_l9DrawHart.calls k1 g s0_0 t278 t279 t280 t283 t284 t285 t286 w0 _ ?side1 ?side2 A9.1).mono ?_); (case side1 => exact zB0); (case side2 => exact zB1); rintro e w26 ⟨v281, rfl, hoq_, hi, hb, hk⟩; have ho0 := hoq_.1; clear hoq_; refine ⟨_, rfl, ?_⟩; replace HO_8 := zM (Kd.S_mono (Kd.S_told (Kd.S_oldK (IsS64.apartS (show IsS64 w0 _ g s0_0 t278 t279 from zB0) (zS HO_8.1) (by decide)) hk) (Kd.Q_base ho0)) (fun _ h_ => h_.1)); have HO282 := zM (Kd.Q_lower (Kd.Q_new' ho0 (Kd.R_lt (zR HO_7.1))) (keep_size (w := w) (g := g) (row := none) zB2)); replace HO_7 := zM (Kd.R_mono (Kd.R_told (Kd.R_oldK (IsS64.apart (show IsS64 w0 _ g s0_0 t278 t279 from zB0) (zR HO_7.1) (by decide)) hk) (Kd.Q_base ho0)) (fun _ h_ => h_.1)); replace HK := zM (KeepBut.trans zB2 hk (.inl rfl)); replace HB := zM hb; replace HI0 := zM hi; clear hb hk hi) | ((with_reducible refine zBx 10 80 #[.slice none 0 0, .int .i64 0, .int .i64 0] ?_); intro gb287 hg w27 hbox hb; replace HO_7 := zM (Kd.R_below (zR HO_7.1) hb); replace HO_8 := zM (Kd.S_below (Kd.S_elderB (zS HO_8.1) gb287 (Nat.le_of_eq hg.symm)) hb); replace HO282 := zM (Kd.Q_below (zQ HO282.1) hb); replace HB := zM (below_step zB1 hb); have BK287 := zM hbox; have GW287 := zM ((by rw [hg]; exact (keep_size (w := w) (g := g) (row := none) zB2) : w.heap.size ≤ gb287)); have GE287 := zM ((Nat.le_trans HW0.1 (by rw [hg]; exact (keep_size (w := w) (g := g) (row := none) zB2) : w.heap.size ≤ gb287) : w0.heap.size ≤ gb287)); replace HK := zM (KeepBut.trans zB2 (KeepBut.of_below hb g none) (.inl rfl)); have NB0_287 := zM ((by rw [hg]; exact Nat.ne_of_lt (IsS64.lt (show IsS64 w0 _ g s0_0 t285 t286 from zB0)) : g ≠ gb287)); have NB287_0 := zM ((by rw [hg]; exact Nat.ne_of_gt (IsS64.lt (show IsS64 w0 _ g s0_0 t285 t286 from zB0)) : gb287 ≠ g)); replace HI0 := zM (IsS64.below zB0 hb); clear hb hbox hg; obtain ⟨Ao28, co28, eo28, _⟩ := Kd.Q_slice HO282.1; subst eo28; have hnb29 := NB287_0.1; have hnc29 := NB0_287.1; have hcz30 := zc_3 (w := w27) BK287.1) | ((with_reducible refine gate_callee (f := 47) rfl ?_); refine goesL_ (some 26) rfl rfl Tryd.func47 (by kernel_rfl) rfl #[.agg #[.slice Ao28 t280.length co28, .int .i64 t283, .int .i64 t284]] rfl zT ?_; (with_reducible refine (spec_HartOk.calls k1 _ _ t280 t283 t284 false _ ?side1 ?side2 A10.1).mono ?_); (case side1 => refine (Kd.Q_reads' (e := 3) (base := w.heap.size) (ok := fun k_ => (True ∧ some k_ ≠ (v270 : Value).ownBlock)) (n := t280.length) (c := co28) ?_).2.2; exact (by refine zrQ ?_; exact (Kd.Q_mono (zfQ (zfQ (zfQ (Kd.Q_types HO282.1 BK287.1 (by decide))))) (fun _ h_ => h_.1)))); (case side2 => exact (Kd.Q_reads' HO282.1).2.1); rintro e w31 ⟨rfl, hb⟩; refine ⟨_, rfl, ?_⟩; replace HO_7 := zM (Kd.R_below (by refine zrR ?_; exact (Kd.R_mono (zfR (zfR (zfR (Kd.R_types HO_7.1 BK287.1 (by decide))))) (fun _ h_ => h_.1))) hb); replace HO_8 := zM (Kd.S_below (by refine zrS ?_; exact (Kd.S_mono (zfS (zfS (zfS (Kd.S_mono HO_8.1 (fun k_ hk => (⟨hk, hk.2⟩ : _ ∧ k_ ≠ gb287)))))) (fun _ h_ => h_.1))) hb); replace HO282 := zM (Kd.Q_below (by refine zrQ ?_; exact (Kd.Q_mono (zfQ (zfQ (zfQ (Kd.Q_types HO282.1 BK287.1 (by decide))))) (fun _ h_ => h_.1))) hb); replace BK287 := zM (blk_below (g := gb287) (o := .cells #[.slice Ao28 t280.length co28, .int .i64 t283, .int .i64 t284] 80 (0, 0)) (by exact zp3 (zK BK287.1)) hb); replace HK := zM (KeepBut.trans zB2 (KeepBut.of_below hb g none) (.inl rfl)); replace HB := zM (below_step zB1 hb); replace HI0 := zM (IsS64.below (show IsS64 w0 (((w27.setCell ⟨gb287, 0, none⟩ (.slice Ao28 t280.length co28)).setCell ⟨gb287, 1, none⟩ (.int .i64 t283)).setCell ⟨gb287, 2, none⟩ (.int .i64 t284)) g s0_0 t285 t286 from zB26) hb); clear hb) | ((with_reducible refine gate_callee (f := 18) rfl ?_); refine goesL_ (some 29) rfl rfl Tryd.func18 (by kernel_rfl) rfl #[.pointer (some ⟨g, 0, none⟩), .int .i64 20] rfl zT ?_; (with_reducible refine (spec_l1Below.calls g s0_0 t285 t286 20 t292 t293 t294 w0 _ ?side1 ?side2 A22.1).mono ?_); (case side1 => exact zB26); (case side2 => exact zB1); rintro e w32 ⟨rfl, hi, hb, hk⟩; refine ⟨_, rfl, ?_⟩; replace HO_7 := zM (Kd.R_mono (Kd.R_keep (IsS64.apart (show IsS64 w0 _ g s0_0 t285 t286 from zB26) (zR HO_7.1) (by decide)) hk (fun _ h => h.2)) (fun _ h => h.1)); replace HO_8 := zM (Kd.S_mono (Kd.S_keep (IsS64.apartS (show IsS64 w0 _ g s0_0 t285 t286 from zB26) (zS HO_8.1) (by decide)) hk (fun _ h => h.2)) (fun _ h => h.1)); replace HO282 := zM (Kd.Q_mono (Kd.Q_keep (IsS64.apartQ (show IsS64 w0 _ g s0_0 t285 t286 from zB26) (zQ HO282.1) (by decide)) hk (fun _ h => h.2)) (fun _ h => h.1)); replace BK287 := zM (zh hk BK287.1 NB287_0.1); replace HK := zM (KeepBut.trans zB2 hk (.inl rfl)); replace HB := zM hb; replace HI0 := zM hi; clear hb hk hi) | ((with_reducible refine gate_callee (f := 48) rfl ?_); refine goesL_ (some 30) rfl rfl Tryd.func48 (by kernel_rfl) rfl #[.int .i64 t292] rfl zT ?_; (with_reducible refine (spec_HartNew.calls t292 t295 t298 t299 _ A23.1).mono ?_); rintro e w33 ⟨v296, rfl, ho0, hb⟩; refine ⟨_, rfl, ?_⟩; replace HO_8 := zM (Kd.S_elder' (zS HO_8.1) (Kd.R_base ho0) hb); have HO297 := zM (Kd.R_lower (Kd.R_new' (Kd.R_new' ho0 (Kd.R_lt (zR HO_7.1))) (Kd.Q_lt (zQ HO282.1))) (keep_size (w := w) (g := g) (row := none) zB2)); replace HO_7 := zM (Kd.R_elder' (zR HO_7.1) (Kd.R_base ho0) hb); replace HO282 := zM (Kd.Q_elder' (zQ HO282.1) (Kd.R_base ho0) hb); replace BK287 := zM (zb BK287.1 hb); replace HK := zM (KeepBut.trans zB2 (KeepBut.of_below hb g none) (.inl rfl)); replace HB := zM (below_step zB1 hb); replace HI0 := zM (IsS64.below zB26 hb); clear hb ho0; obtain ⟨Ao34, co34, eo34⟩ := Kd.R_slice HO297.1; subst eo34; have hcz35 := zc_3 (w := w33) BK287.1) | ((with_reducible refine gate_store (t := 80) (p := 10) rfl ?_); refine store_event (t := 80) (p := 10) (v := ?vo_w36) (w1 := (((w33.setCell ⟨gb287, 0, none⟩ (.slice Ao34 t295.length co34)).setCell ⟨gb287, 1, none⟩ (.int .i64 t298)).setCell ⟨gb287, 2, none⟩ (.int .i64 t299))) ?hg ?ho ?hn ?hr ?_; (case ho => rfl); (case hg => rfl); (case hn => rfl); (case hr => exact zHH); intro w36 hw; have n0_ : Aside0 (Kd.R (Kd.int .i64) 3 w36 w.heap.size (fun k_ => some k_ ≠ (.slice Ao28 t280.length co28 : Value).ownBlock ∧ some k_ ≠ (.slice Ao34 t295.length co34 : Value).ownBlock) v270 t269) := ⟨(by rw [hw]; exact (by refine zrR ?_; exact Kd.R_mono (zfR (zfR (zfR (Kd.R_types HO_7.1 BK287.1 (by decide))))) (fun _ hk => ⟨hk.1.1.2, hk.1.2⟩)))⟩; have n1_ : Aside0 (Kd.S k80 80 w36 w.heap.size (fun k_ => some k_ ≠ (v270 : Value).ownBlock ∧ some k_ ≠ (.slice Ao28 t280.length co28 : Value).ownBlock ∧ some k_ ≠ (.slice Ao34 t295.length co34 : Value).ownBlock ∧ k_ ≠ gb287) u8 x8_1) := ⟨(by rw [hw]; exact (by refine zrS ?_; exact Kd.S_mono (zfS (zfS (zfS (Kd.S_mono HO_8.1 (fun k_ hk => (⟨hk, hk.1.2⟩ : _ ∧ k_ ≠ gb287)))))) (fun _ hk => ⟨hk.1.1.1.1, ⟨hk.1.1.1.2, ⟨hk.1.2, hk.1.1.2⟩⟩⟩)))⟩; have n2_ : Aside0 (Kd.Q (Kd.int .i64) 3 w36 w.heap.size (fun k_ => some k_ ≠ (v270 : Value).ownBlock ∧ some k_ ≠ (.slice Ao34 t295.length co34 : Value).ownBlock) (.slice Ao28 t280.length co28) t280) := ⟨(by rw [hw]; exact (by refine zrQ ?_; exact Kd.Q_mono (zfQ (zfQ (zfQ (Kd.Q_types HO282.1 BK287.1 (by decide))))) (fun _ hk => ⟨hk.1.1.2, hk.1.2⟩)))⟩; have n3_ : Aside0 (Kd.R (Kd.int .i64) 3 w36 w.heap.size (fun k_ => some k_ ≠ (v270 : Value).ownBlock ∧ some k_ ≠ (.slice Ao28 t280.length co28 : Value).ownBlock) (.slice Ao34 t295.length co34) t295) := ⟨(by rw [hw]; exact (by refine zrR ?_; exact Kd.R_mono (zfR (zfR (zfR (Kd.R_types HO297.1 BK287.1 (by decide))))) (fun _ hk => ⟨hk.1.1.2, hk.1.2⟩)))⟩; have n4_ : Aside0 (w36.heap[gb287]? = some (.cells #[.slice Ao34 t295.length co34, .int .i64 t298, .int .i64 t299] 80 (0, 0))) := ⟨(by rw [hw]; exact (by exact zp3 (zK BK287.1)))⟩; have n5_ : Aside0 (IsS64 w0 w36 g s0_0 t293 t294) := ⟨(by rw [hw]; exact zB26)⟩; have n6_ : Aside0 (KeepBut w w36 g none) := ⟨(by rw [hw]; exact zB2)⟩; have n7_ : Aside0 (Below w0.heap.size w0 w36) := ⟨(by rw [hw]; exact zB1)⟩; clear hw; clear HO_7; clear HO_8; clear HO282; clear HO297; clear BK287; clear HI0; clear HK; clear HB; have HO_7 := n0_; have HO_8 := n1_; have HO282 := n2_; have HO297 := n3_; have BK287 := n4_; have HI0 := n5_; have HK := n6_; have HB := n7_; clear n0_ n1_ n2_ n3_ n4_ n5_ n6_ n7_; have hcz37 := zc_3 (w := w36) BK287.1) | ((with_reducible refine gate_builtin (b := .append) (xs := #[.tmp 31, .tmp 33]) rfl ?_); at_builtin; refine Kd.S_append k80 w.heap.size rfl (.tmp 31) (.tmp 33) 56 80 (.agg #[(.slice none 0 0), (.int .i64 0), (.int .i64 0)]) 40 rfl Tryd.underlying56 info80 rfl (by decide) (by omega) u8 x8_1 (⟨t295, t298, t299⟩ : S80) [.slice Ao34 t295.length co34, .int .i64 t298, .int .i64 t299] (fun k_ => some k_ ≠ (v270 : Value).ownBlock ∧ some k_ ≠ (.slice Ao28 t280.length co28 : Value).ownBlock ∧ k_ ≠ gb287) (fun k_ => some k_ = (.slice Ao34 t295.length co34 : Value).ownBlock) rfl rfl ?aP (fun k_ hk_ => ((Kd.R_mono (ok' := fun k_ => ((fun k_ => some k_ ≠ (v270 : Value).ownBlock ∧ some k_ ≠ (.slice Ao28 t280.length co28 : Value).ownBlock ∧ k_ ≠ gb287)) k_ ∧ some k_ ≠ (u8 : Value).ownBlock) (Kd.R_types (Kd.R_apart' (HO297.1) (Kd.S_typed HO_8.1) (by decide)) BK287.1 (by decide)) (fun k_ hk => ⟨⟨hk.1.1.1, ⟨hk.1.1.2, hk.2⟩⟩, hk.1.2⟩))).1 k_ hk_.symm) ?aF ?aO (Below.refl _ _) ?aS ?aL ?_; (case aP => exact k80_mkM _ _ _ (⟨t295, t298, t299⟩ : S80) (Kd.R_mono (Kd.R_tight rfl (Kd.R_mono (ok' := fun k_ => ((fun k_ => some k_ ≠ (v270 : Value).ownBlock ∧ some k_ ≠ (.slice Ao28 t280.length co28 : Value).ownBlock ∧ k_ ≠ gb287)) k_ ∧ some k_ ≠ (u8 : Value).ownBlock) (Kd.R_types (Kd.R_apart' (HO297.1) (Kd.S_typed HO_8.1) (by decide)) BK287.1 (by decide)) (fun k_ hk => ⟨⟨hk.1.1.1, ⟨hk.1.1.2, hk.2⟩⟩, hk.1.2⟩))) (fun _ h_ => h_))); (case aF => exact (fun k_ hk => ⟨Kd.fresh' (Kd.R_lt (zR HO_7.1)) k_ hk, Kd.fresh' (Kd.Q_lt (zQ HO282.1)) k_ hk, Kd.freshB (g := gb287) (o := .cells #[.slice Ao34 t295.length co34, .int .i64 t298, .int .i64 t299] 80 (0, 0)) (zK BK287.1) k_ hk⟩)); (case aO => exact (by refine zrS ?_; exact Kd.S_mono HO_8.1 (fun k_ hk => ⟨⟨hk.1, ⟨hk.2.1, hk.2.2.2⟩⟩, fun e_ => hk.2.2.1 e_⟩))); (case aS => exact (keep_size (w := w) (g := g) (row := none) zB2)); (case aL => have := LMc24.out; omega); intro v301 w38 ho hb hg hat; rw [← Ny300.1] at ho; replace HO_7 := zM (Kd.R_over' (zR HO_7.1) (Kd.S_typed (zS HO_8.1)) (by decide) hg); replace HO282 := zM (Kd.Q_over' (zQ HO282.1) (Kd.S_typed (zS HO_8.1)) (by decide) hg); replace BK287 := zM (zg BK287.1 hg (Kd.S_away HO_8.1 (fun _ hk => hk.2.2.2))); replace HB := zM (below_weaken zB1 HL.1 hb); replace HI0 := zM (IsS64.grown (show IsS64 w0 _ g s0_0 t293 t294 from zB26) hg (IsS64.own_neS HI0.1 HO_8.1 (by decide))); replace HK := zM (KeepBut.trans zB2 (KeepBut.of_grown hg g) (Kd.S_base2 HO_8.1)); have HO302 := zM ho; clear HO_8 HO297; clear ho hb hg hat))
   go_roundg k1
   case measure => have := HK1.1; omega
   case rel => exact ⟨(y300), (wrap64 (x9_1 + 1)), (t293), (t294), zJJ, H', ⟨by have := HK1.1; omega⟩, ⟨by refine zrR ?_; exact Kd.R_mono HO_7.1 (fun _ hk => trivial)⟩, ⟨by refine zrS ?_; exact Kd.S_mono HO302.1 (fun _ hk => hk.1)⟩, ⟨zB26⟩, ⟨zB2⟩, ⟨zB1⟩⟩

/-! ### spec_Decode: function 61 -/
def spec_Decode.f (a0 : Int) : Option (Int × Int × Int × Int × Int × Bool) := (spec_l1In.f a0 0 65535).bind fun t316 => (if t316 = true then ((spec_InsOk.f (Int.tmod a0 16) (Int.tmod (wrap64 (Int.tdiv a0 16)) 4) (Int.tmod (wrap64 (Int.tdiv a0 64)) 4) (Int.tmod (wrap64 (Int.tdiv a0 256)) 4) (wrap64 (Int.tdiv a0 1024))).bind fun t318 => (if t318 = true then (some (Int.tmod a0 16, Int.tmod (wrap64 (Int.tdiv a0 16)) 4, Int.tmod (wrap64 (Int.tdiv a0 64)) 4, Int.tmod (wrap64 (Int.tdiv a0 256)) 4, wrap64 (Int.tdiv a0 1024), true)) else (some (0, 0, 0, 0, 0, false)))) else (some (0, 0, 0, 0, 0, false)))
theorem spec_Decode.calls (a0 : Int) (r1 : Int) (r2 : Int) (r3 : Int) (r4 : Int) (r5 : Int) (r6 : Bool) (w : World) (h : spec_Decode.f a0 = some (r1, r2, r3, r4, r5, r6)) :
  Calls Tryd.prog 61 #[.int .i64 a0] w fun e w' => e = .returned (.tuple #[.agg #[.int .i64 r1, .int .i64 r2, .int .i64 r3, .int .i64 r4, .int .i64 r5], .bool r6]) ∧ Below w.heap.size w w' := by
 have hu93 := Tryd.underlying93
 have HB := zM (Below.refl w.heap.size w)
 unfold spec_Decode.f at h
 have H := h
 clear h
 replace H := zO H
 obtain ⟨t316, A2, H⟩ := H
 by_cases c3 : t316 = true
 rotate_left
 ·replace c3 := Bool.eq_false_iff.mpr c3
  subst c3
  rw [if_neg zF] at H
  simp only [Option.some.injEq, Prod.mk.injEq] at H
  obtain ⟨rfl, rfl, rfl, rfl, rfl, rfl⟩ := H
  go_enter Tryd.func61, Tryd.ntmps61
  go_wp2_with (first | ((with_reducible refine zBx 2 93 #[.int .i64 0, .int .i64 0, .int .i64 0, .int .i64 0, .int .i64 0] ?_); intro gb315 hg w19 hbox hb; have BK315 := zM hbox; have GW315 := zM (zW hg (below_size zB3)); have GE315 := zM (zW hg (below_size zB3)); replace HB := zM (below_step zB3 hb); clear hb hbox hg) | ((with_reducible refine gate_callee (f := 28) rfl ?_); refine goesL_ (some 6) rfl rfl Tryd.func28 (by kernel_rfl) rfl #[.int .i64 a0, .int .i64 0, .int .i64 65535] rfl zT ?_; (with_reducible refine (spec_l1In.calls a0 0 65535 false _ A2.1).mono ?_); rintro e w' ⟨rfl, ⟨nd, rfl⟩⟩; refine ⟨_, rfl, ?_⟩; (try (rw [drewN_self w19]; generalize hq_ : World.drewN w19 _ = w19; have n0_ : Aside0 (w19.heap[gb315]? = some (.cells #[.int .i64 0, .int .i64 0, .int .i64 0, .int .i64 0, .int .i64 0] 93 (0, 0))) := ⟨by rw [← hq_]; exact (zK BK315.1)⟩; have n1_ : Aside0 (Below w.heap.size w w19) := ⟨by rw [← hq_]; exact zB3⟩; clear BK315 HB hq_; have BK315 := n0_; have HB := n1_; clear n0_ n1_)); have hcz20 := zc_5 (w := w19) BK315.1))
  refine bodyPost_ret (results_ct rfl _ _ gb315 93 #[.int .i64 0, .int .i64 0, .int .i64 0, .int .i64 0, .int .i64 0] (0, 0) _ rfl (by exact zp5 (zK BK315.1)) Tryd.underlying93 rfl (by kernel_rfl)) rfl ?_
  exact ⟨zE, zB3⟩
 subst c3
 rw [if_pos rfl] at H
 replace H := zO H
 obtain ⟨t318, A4, H⟩ := H
 by_cases c5 : t318 = true
 rotate_left
 ·replace c5 := Bool.eq_false_iff.mpr c5
  subst c5
  rw [if_neg zF] at H
  simp only [Option.some.injEq, Prod.mk.injEq] at H
  obtain ⟨rfl, rfl, rfl, rfl, rfl, rfl⟩ := H
  go_enter Tryd.func61, Tryd.ntmps61
  go_wp2_with (first | ((with_reducible refine zBx 2 93 #[.int .i64 0, .int .i64 0, .int .i64 0, .int .i64 0, .int .i64 0] ?_); intro gb315 hg w13 hbox hb; have BK315 := zM hbox; have GW315 := zM (zW hg (below_size zB3)); have GE315 := zM (zW hg (below_size zB3)); replace HB := zM (below_step zB3 hb); clear hb hbox hg) | ((with_reducible refine gate_callee (f := 28) rfl ?_); refine goesL_ (some 6) rfl rfl Tryd.func28 (by kernel_rfl) rfl #[.int .i64 a0, .int .i64 0, .int .i64 65535] rfl zT ?_; (with_reducible refine (spec_l1In.calls a0 0 65535 true _ A2.1).mono ?_); rintro e w' ⟨rfl, ⟨nd, rfl⟩⟩; refine ⟨_, rfl, ?_⟩; (try (rw [drewN_self w13]; generalize hq_ : World.drewN w13 _ = w13; have n0_ : Aside0 (w13.heap[gb315]? = some (.cells #[.int .i64 0, .int .i64 0, .int .i64 0, .int .i64 0, .int .i64 0] 93 (0, 0))) := ⟨by rw [← hq_]; exact (zK BK315.1)⟩; have n1_ : Aside0 (Below w.heap.size w w13) := ⟨by rw [← hq_]; exact zB3⟩; clear BK315 HB hq_; have BK315 := n0_; have HB := n1_; clear n0_ n1_))) | ((with_reducible refine zBx 4 93 #[.int .i64 0, .int .i64 0, .int .i64 0, .int .i64 0, .int .i64 0] ?_); intro gb317 hg w14 hbox hb; have BK317 := zM hbox; have GW317 := zM (zW hg (below_size zB3)); have GE317 := zM (zW hg (below_size zB3)); replace HB := zM (below_step zB3 hb); have NB315_317 := zM ((zn BK315.1 hg : gb315 ≠ gb317)); have NB317_315 := zM ((zm BK315.1 hg : gb317 ≠ gb315)); replace BK315 := zM (zb BK315.1 hb); clear hb hbox hg; have hnb15 := NB317_315.1; have hnc15 := NB315_317.1; have hcz16 := zc_5 (w := w14) BK317.1) | ((with_reducible refine gate_callee (f := 74) rfl ?_); refine goesL_ (some 24) rfl rfl Tryd.func74 (by kernel_rfl) rfl #[.agg #[.int .i64 (Int.tmod a0 16), .int .i64 (Int.tmod (wrap64 (Int.tdiv a0 16)) 4), .int .i64 (Int.tmod (wrap64 (Int.tdiv a0 64)) 4), .int .i64 (Int.tmod (wrap64 (Int.tdiv a0 256)) 4), .int .i64 (wrap64 (Int.tdiv a0 1024))]] rfl zT ?_; (with_reducible refine (spec_InsOk.calls (Int.tmod a0 16) (Int.tmod (wrap64 (Int.tdiv a0 16)) 4) (Int.tmod (wrap64 (Int.tdiv a0 64)) 4) (Int.tmod (wrap64 (Int.tdiv a0 256)) 4) (wrap64 (Int.tdiv a0 1024)) false _ A4.1).mono ?_); rintro e w17 ⟨rfl, hb⟩; refine ⟨_, rfl, ?_⟩; replace BK315 := zM (zf BK315.1 hb); replace BK317 := zM (blk_below (g := gb317) (o := .cells #[.int .i64 (Int.tmod a0 16), .int .i64 (Int.tmod (wrap64 (Int.tdiv a0 16)) 4), .int .i64 (Int.tmod (wrap64 (Int.tdiv a0 64)) 4), .int .i64 (Int.tmod (wrap64 (Int.tdiv a0 256)) 4), .int .i64 (wrap64 (Int.tdiv a0 1024))] 93 (0, 0)) (by exact zp5 (zK BK317.1)) hb); replace HB := zM (below_step zB3 hb); clear hb; have hcz18 := zc_5 (w := w17) BK315.1))
  refine bodyPost_ret (results_ct rfl _ _ gb315 93 #[.int .i64 0, .int .i64 0, .int .i64 0, .int .i64 0, .int .i64 0] (0, 0) _ rfl (by exact zp5 (zK BK315.1)) Tryd.underlying93 rfl (by kernel_rfl)) rfl ?_
  exact ⟨zE, zB3⟩
 subst c5
 rw [if_pos rfl] at H
 simp only [Option.some.injEq, Prod.mk.injEq] at H
 obtain ⟨rfl, rfl, rfl, rfl, rfl, rfl⟩ := H
 go_enter Tryd.func61, Tryd.ntmps61
 go_wp2_with (first | ((with_reducible refine zBx 2 93 #[.int .i64 0, .int .i64 0, .int .i64 0, .int .i64 0, .int .i64 0] ?_); intro gb315 hg w6 hbox hb; have BK315 := zM hbox; have GW315 := zM (zW hg (below_size zB3)); have GE315 := zM (zW hg (below_size zB3)); replace HB := zM (below_step zB3 hb); clear hb hbox hg) | ((with_reducible refine gate_callee (f := 28) rfl ?_); refine goesL_ (some 6) rfl rfl Tryd.func28 (by kernel_rfl) rfl #[.int .i64 a0, .int .i64 0, .int .i64 65535] rfl zT ?_; (with_reducible refine (spec_l1In.calls a0 0 65535 true _ A2.1).mono ?_); rintro e w' ⟨rfl, ⟨nd, rfl⟩⟩; refine ⟨_, rfl, ?_⟩; (try (rw [drewN_self w6]; generalize hq_ : World.drewN w6 _ = w6; have n0_ : Aside0 (w6.heap[gb315]? = some (.cells #[.int .i64 0, .int .i64 0, .int .i64 0, .int .i64 0, .int .i64 0] 93 (0, 0))) := ⟨by rw [← hq_]; exact (zK BK315.1)⟩; have n1_ : Aside0 (Below w.heap.size w w6) := ⟨by rw [← hq_]; exact zB3⟩; clear BK315 HB hq_; have BK315 := n0_; have HB := n1_; clear n0_ n1_))) | ((with_reducible refine zBx 4 93 #[.int .i64 0, .int .i64 0, .int .i64 0, .int .i64 0, .int .i64 0] ?_); intro gb317 hg w7 hbox hb; have BK317 := zM hbox; have GW317 := zM (zW hg (below_size zB3)); have GE317 := zM (zW hg (below_size zB3)); replace HB := zM (below_step zB3 hb); have NB315_317 := zM ((zn BK315.1 hg : gb315 ≠ gb317)); have NB317_315 := zM ((zm BK315.1 hg : gb317 ≠ gb315)); replace BK315 := zM (zb BK315.1 hb); clear hb hbox hg; have hnb8 := NB317_315.1; have hnc8 := NB315_317.1; have hcz9 := zc_5 (w := w7) BK317.1) | ((with_reducible refine gate_callee (f := 74) rfl ?_); refine goesL_ (some 24) rfl rfl Tryd.func74 (by kernel_rfl) rfl #[.agg #[.int .i64 (Int.tmod a0 16), .int .i64 (Int.tmod (wrap64 (Int.tdiv a0 16)) 4), .int .i64 (Int.tmod (wrap64 (Int.tdiv a0 64)) 4), .int .i64 (Int.tmod (wrap64 (Int.tdiv a0 256)) 4), .int .i64 (wrap64 (Int.tdiv a0 1024))]] rfl zT ?_; (with_reducible refine (spec_InsOk.calls (Int.tmod a0 16) (Int.tmod (wrap64 (Int.tdiv a0 16)) 4) (Int.tmod (wrap64 (Int.tdiv a0 64)) 4) (Int.tmod (wrap64 (Int.tdiv a0 256)) 4) (wrap64 (Int.tdiv a0 1024)) true _ A4.1).mono ?_); rintro e w10 ⟨rfl, hb⟩; refine ⟨_, rfl, ?_⟩; replace BK315 := zM (zf BK315.1 hb); replace BK317 := zM (blk_below (g := gb317) (o := .cells #[.int .i64 (Int.tmod a0 16), .int .i64 (Int.tmod (wrap64 (Int.tdiv a0 16)) 4), .int .i64 (Int.tmod (wrap64 (Int.tdiv a0 64)) 4), .int .i64 (Int.tmod (wrap64 (Int.tdiv a0 256)) 4), .int .i64 (wrap64 (Int.tdiv a0 1024))] 93 (0, 0)) (by exact zp5 (zK BK317.1)) hb); replace HB := zM (below_step zB3 hb); clear hb; have hcz11 := zc_5 (w := w10) BK317.1; have hcz12 := zc_5 (w := w10) BK315.1))
 refine bodyPost_ret (results_ct rfl _ _ gb315 93 #[.int .i64 (Int.tmod a0 16), .int .i64 (Int.tmod (wrap64 (Int.tdiv a0 16)) 4), .int .i64 (Int.tmod (wrap64 (Int.tdiv a0 64)) 4), .int .i64 (Int.tmod (wrap64 (Int.tdiv a0 256)) 4), .int .i64 (wrap64 (Int.tdiv a0 1024))] (0, 0) _ rfl (by exact zp5 (zK BK315.1)) Tryd.underlying93 rfl (by kernel_rfl)) rfl ?_
 exact ⟨zE, zB3⟩

/-! ### spec_Target: function 62 -/
def spec_Target.f (a0_0 : Int) (a0_1 : Int) (a0_2 : Int) (a0_3 : Int) (a0_4 : Int) (l1 : List Int) : Option (Int) := (spec_InsOk.f a0_0 a0_1 a0_2 a0_3 a0_4).bind fun t320 => (if t320 = true then (if (l1.length : Int) = 4 then (if a0_0 = 4 then (if 0 ≤ a0_2 then (if a0_2 < (l1.length : Int) then ((spec_l9Address.f (wrap64 ((rd l1 a0_2) + a0_4))).bind fun t322 => (some t322)) else (none)) else (none)) else (if a0_0 = 5 then (if 0 ≤ a0_2 then (if a0_2 < (l1.length : Int) then ((spec_l9Address.f (wrap64 ((rd l1 a0_2) + a0_4))).bind fun t324 => (some t324)) else (none)) else (none)) else (if a0_0 = 6 then (if 0 ≤ a0_2 then (if a0_2 < (l1.length : Int) then ((spec_l9Address.f (wrap64 ((rd l1 a0_2) + a0_4))).bind fun t326 => (some t326)) else (none)) else (none)) else (some (-1))))) else (some (-1))) else (some (-1)))
theorem spec_Target.calls (a0_0 : Int) (a0_1 : Int) (a0_2 : Int) (a0_3 : Int) (a0_4 : Int) (A1 : Option Addr) (c1 : Nat) (l1 : List Int) (r : Int) (w : World) (hr1 : Kd.C (Kd.int .i64) w A1 l1.length l1) (hc1 : l1.length ≤ c1) (h : spec_Target.f a0_0 a0_1 a0_2 a0_3 a0_4 l1 = some r) :
  Calls Tryd.prog 62 #[.agg #[.int .i64 a0_0, .int .i64 a0_1, .int .i64 a0_2, .int .i64 a0_3, .int .i64 a0_4], .slice A1 l1.length c1] w fun e w' => e = .returned (.int .i64 r) ∧ Below w.heap.size w w' := by
 have hu93 := Tryd.underlying93
 have HR1 := zM hr1
 have HC1 := zM hc1
 clear hr1 hc1
 have HB := zM (Below.refl w.heap.size w)
 unfold spec_Target.f at h
 have H := h
 clear h
 replace H := zO H
 obtain ⟨t320, A3, H⟩ := H
 by_cases c4 : t320 = true
 rotate_left
 ·replace c4 := Bool.eq_false_iff.mpr c4
  subst c4
  rw [if_neg zF] at H
  obtain rfl := Option.some.inj H
  go_enter Tryd.func62, Tryd.ntmps62
  go_wp2_with (first | ((with_reducible refine gate_dst (N := 2) rfl ?_); (try (refine gate_guard (by rfl) ?_; dsimp only)); (with_reducible refine zBx 2 93 #[.int .i64 a0_0, .int .i64 a0_1, .int .i64 a0_2, .int .i64 a0_3, .int .i64 a0_4] ?_); intro gb319 hg w37 hbox hb; have BK319 := zM hbox; have GW319 := zM (zW hg (below_size zB3)); have GE319 := zM (zW hg (below_size zB3)); replace HB := zM (below_step zB3 hb); clear hb hbox hg; have hcz38 := zc_5 (w := w37) BK319.1) | (go_at_call 74; (with_reducible refine (spec_InsOk.calls a0_0 a0_1 a0_2 a0_3 a0_4 false _ A3.1).mono ?_); rintro e w39 ⟨rfl, hb⟩; replace BK319 := zM (zb BK319.1 hb); replace HB := zM (below_step zB3 hb); clear hb))
  repeat (go_quiet (first | ((with_reducible refine gate_dst (N := 2) rfl ?_); (try (refine gate_guard (by rfl) ?_; dsimp only)); (with_reducible refine zBx 2 93 #[.int .i64 a0_0, .int .i64 a0_1, .int .i64 a0_2, .int .i64 a0_3, .int .i64 a0_4] ?_); intro gb319 hg w37 hbox hb; have BK319 := zM hbox; have GW319 := zM (zW hg (below_size zB3)); have GE319 := zM (zW hg (below_size zB3)); replace HB := zM (below_step zB3 hb); clear hb hbox hg; have hcz38 := zc_5 (w := w37) BK319.1) | (go_at_call 74; (with_reducible refine (spec_InsOk.calls a0_0 a0_1 a0_2 a0_3 a0_4 false _ A3.1).mono ?_); rintro e w39 ⟨rfl, hb⟩; replace BK319 := zM (zb BK319.1 hb); replace HB := zM (below_step zB3 hb); clear hb)); try go_wp2_with (first | ((with_reducible refine gate_dst (N := 2) rfl ?_); (try (refine gate_guard (by rfl) ?_; dsimp only)); (with_reducible refine zBx 2 93 #[.int .i64 a0_0, .int .i64 a0_1, .int .i64 a0_2, .int .i64 a0_3, .int .i64 a0_4] ?_); intro gb319 hg w37 hbox hb; have BK319 := zM hbox; have GW319 := zM (zW hg (below_size zB3)); have GE319 := zM (zW hg (below_size zB3)); replace HB := zM (below_step zB3 hb); clear hb hbox hg; have hcz38 := zc_5 (w := w37) BK319.1) | (go_at_call 74; (with_reducible refine (spec_InsOk.calls a0_0 a0_1 a0_2 a0_3 a0_4 false _ A3.1).mono ?_); rintro e w39 ⟨rfl, hb⟩; replace BK319 := zM (zb BK319.1 hb); replace HB := zM (below_step zB3 hb); clear hb)))
  go_ret
  exact ⟨zE, zB3⟩
 subst c4
 rw [if_pos rfl] at H
 by_cases c5 : (l1.length : Int) = 4
 rotate_left
 ·rw [if_neg c5] at H
  have c5b0 : ((l1.length : Int) == 4) = false := beq_eq_false_iff_ne.mpr c5
  have c5b1 : ((l1.length : Int) != 4) = true := bne_iff_ne.mpr c5
  obtain rfl := Option.some.inj H
  go_enter Tryd.func62, Tryd.ntmps62
  go_wp2_with (first | ((with_reducible refine gate_dst (N := 2) rfl ?_); (try (refine gate_guard (by rfl) ?_; dsimp only)); (with_reducible refine zBx 2 93 #[.int .i64 a0_0, .int .i64 a0_1, .int .i64 a0_2, .int .i64 a0_3, .int .i64 a0_4] ?_); intro gb319 hg w34 hbox hb; have BK319 := zM hbox; have GW319 := zM (zW hg (below_size zB3)); have GE319 := zM (zW hg (below_size zB3)); replace HB := zM (below_step zB3 hb); clear hb hbox hg; have hcz35 := zc_5 (w := w34) BK319.1) | (go_at_call 74; (with_reducible refine (spec_InsOk.calls a0_0 a0_1 a0_2 a0_3 a0_4 true _ A3.1).mono ?_); rintro e w36 ⟨rfl, hb⟩; replace BK319 := zM (zb BK319.1 hb); replace HB := zM (below_step zB3 hb); clear hb))
  repeat (go_quiet (first | ((with_reducible refine gate_dst (N := 2) rfl ?_); (try (refine gate_guard (by rfl) ?_; dsimp only)); (with_reducible refine zBx 2 93 #[.int .i64 a0_0, .int .i64 a0_1, .int .i64 a0_2, .int .i64 a0_3, .int .i64 a0_4] ?_); intro gb319 hg w34 hbox hb; have BK319 := zM hbox; have GW319 := zM (zW hg (below_size zB3)); have GE319 := zM (zW hg (below_size zB3)); replace HB := zM (below_step zB3 hb); clear hb hbox hg; have hcz35 := zc_5 (w := w34) BK319.1) | (go_at_call 74; (with_reducible refine (spec_InsOk.calls a0_0 a0_1 a0_2 a0_3 a0_4 true _ A3.1).mono ?_); rintro e w36 ⟨rfl, hb⟩; replace BK319 := zM (zb BK319.1 hb); replace HB := zM (below_step zB3 hb); clear hb)); try go_wp2_with (first | ((with_reducible refine gate_dst (N := 2) rfl ?_); (try (refine gate_guard (by rfl) ?_; dsimp only)); (with_reducible refine zBx 2 93 #[.int .i64 a0_0, .int .i64 a0_1, .int .i64 a0_2, .int .i64 a0_3, .int .i64 a0_4] ?_); intro gb319 hg w34 hbox hb; have BK319 := zM hbox; have GW319 := zM (zW hg (below_size zB3)); have GE319 := zM (zW hg (below_size zB3)); replace HB := zM (below_step zB3 hb); clear hb hbox hg; have hcz35 := zc_5 (w := w34) BK319.1) | (go_at_call 74; (with_reducible refine (spec_InsOk.calls a0_0 a0_1 a0_2 a0_3 a0_4 true _ A3.1).mono ?_); rintro e w36 ⟨rfl, hb⟩; replace BK319 := zM (zb BK319.1 hb); replace HB := zM (below_step zB3 hb); clear hb)))
  go_ret
  exact ⟨zE, zB3⟩
 rw [if_pos c5] at H
 have c5b0 : ((l1.length : Int) == 4) = true := beq_iff_eq.mpr c5
 have c5b1 : ((l1.length : Int) != 4) = false := bne_eq_false_iff_eq.mpr c5
 clear c5
 by_cases c6 : a0_0 = 4
 ·rw [if_pos c6] at H
  have c6b0 : (a0_0 == 4) = true := beq_iff_eq.mpr c6
  have c6b1 : (a0_0 != 4) = false := bne_eq_false_iff_eq.mpr c6
  clear c6
  replace H := zIt H
  obtain ⟨c7b0, H⟩ := H
  replace H := zIt H
  obtain ⟨c8b0, H⟩ := H
  replace H := zO H
  obtain ⟨t322, A9, H⟩ := H
  obtain rfl := Option.some.inj H
  go_enter Tryd.func62, Tryd.ntmps62
  go_wp2_with (first | ((with_reducible refine gate_dst (N := 2) rfl ?_); (try (refine gate_guard (by rfl) ?_; dsimp only)); (with_reducible refine zBx 2 93 #[.int .i64 a0_0, .int .i64 a0_1, .int .i64 a0_2, .int .i64 a0_3, .int .i64 a0_4] ?_); intro gb319 hg w10 hbox hb; have BK319 := zM hbox; have GW319 := zM (zW hg (below_size zB3)); have GE319 := zM (zW hg (below_size zB3)); replace HB := zM (below_step zB3 hb); clear hb hbox hg; have hcz11 := zc_5 (w := w10) BK319.1) | (go_at_call 74; (with_reducible refine (spec_InsOk.calls a0_0 a0_1 a0_2 a0_3 a0_4 true _ A3.1).mono ?_); rintro e w12 ⟨rfl, hb⟩; replace BK319 := zM (zb BK319.1 hb); replace HB := zM (below_step zB3 hb); clear hb; have hcz13 := zc_5 (w := w12) BK319.1; obtain ⟨p321, q321, ad321, e321, hx321_0⟩ := zRd (Kd.at_int HR1.1 a0_2); cases e321; replace hx321_0 := zHx HB.1 hx321_0) | (go_at_call 60; (with_reducible refine (spec_l9Address.calls (wrap64 ((rd l1 a0_2) + a0_4)) t322 _ A9.1).mono ?_); rintro e w' ⟨rfl, ⟨nd, rfl⟩⟩; (try first | exact ⟨rfl, _, World.drewN_drewN _ _ _⟩ | exact ⟨rfl, _, Eq.trans (World.drewN_drewN _ _ _) (congrArg (World.drewN _) (Nat.add_assoc _ _ _))⟩)))
  repeat (go_quiet (first | ((with_reducible refine gate_dst (N := 2) rfl ?_); (try (refine gate_guard (by rfl) ?_; dsimp only)); (with_reducible refine zBx 2 93 #[.int .i64 a0_0, .int .i64 a0_1, .int .i64 a0_2, .int .i64 a0_3, .int .i64 a0_4] ?_); intro gb319 hg w10 hbox hb; have BK319 := zM hbox; have GW319 := zM (zW hg (below_size zB3)); have GE319 := zM (zW hg (below_size zB3)); replace HB := zM (below_step zB3 hb); clear hb hbox hg; have hcz11 := zc_5 (w := w10) BK319.1) | (go_at_call 74; (with_reducible refine (spec_InsOk.calls a0_0 a0_1 a0_2 a0_3 a0_4 true _ A3.1).mono ?_); rintro e w12 ⟨rfl, hb⟩; replace BK319 := zM (zb BK319.1 hb); replace HB := zM (below_step zB3 hb); clear hb; have hcz13 := zc_5 (w := w12) BK319.1; obtain ⟨p321, q321, ad321, e321, hx321_0⟩ := zRd (Kd.at_int HR1.1 a0_2); cases e321; replace hx321_0 := zHx HB.1 hx321_0) | (go_at_call 60; (with_reducible refine (spec_l9Address.calls (wrap64 ((rd l1 a0_2) + a0_4)) t322 _ A9.1).mono ?_); rintro e w' ⟨rfl, ⟨nd, rfl⟩⟩; (try first | exact ⟨rfl, _, World.drewN_drewN _ _ _⟩ | exact ⟨rfl, _, Eq.trans (World.drewN_drewN _ _ _) (congrArg (World.drewN _) (Nat.add_assoc _ _ _))⟩))); try go_wp2_with (first | ((with_reducible refine gate_dst (N := 2) rfl ?_); (try (refine gate_guard (by rfl) ?_; dsimp only)); (with_reducible refine zBx 2 93 #[.int .i64 a0_0, .int .i64 a0_1, .int .i64 a0_2, .int .i64 a0_3, .int .i64 a0_4] ?_); intro gb319 hg w10 hbox hb; have BK319 := zM hbox; have GW319 := zM (zW hg (below_size zB3)); have GE319 := zM (zW hg (below_size zB3)); replace HB := zM (below_step zB3 hb); clear hb hbox hg; have hcz11 := zc_5 (w := w10) BK319.1) | (go_at_call 74; (with_reducible refine (spec_InsOk.calls a0_0 a0_1 a0_2 a0_3 a0_4 true _ A3.1).mono ?_); rintro e w12 ⟨rfl, hb⟩; replace BK319 := zM (zb BK319.1 hb); replace HB := zM (below_step zB3 hb); clear hb; have hcz13 := zc_5 (w := w12) BK319.1; obtain ⟨p321, q321, ad321, e321, hx321_0⟩ := zRd (Kd.at_int HR1.1 a0_2); cases e321; replace hx321_0 := zHx HB.1 hx321_0) | (go_at_call 60; (with_reducible refine (spec_l9Address.calls (wrap64 ((rd l1 a0_2) + a0_4)) t322 _ A9.1).mono ?_); rintro e w' ⟨rfl, ⟨nd, rfl⟩⟩; (try first | exact ⟨rfl, _, World.drewN_drewN _ _ _⟩ | exact ⟨rfl, _, Eq.trans (World.drewN_drewN _ _ _) (congrArg (World.drewN _) (Nat.add_assoc _ _ _))⟩))))
  go_ret
  exact ⟨zE, zB3⟩
 rw [if_neg c6] at H
 have c6b0 : (a0_0 == 4) = false := beq_eq_false_iff_ne.mpr c6
 have c6b1 : (a0_0 != 4) = true := bne_iff_ne.mpr c6
 by_cases c14 : a0_0 = 5
 ·rw [if_pos c14] at H
  have c14b0 : (a0_0 == 5) = true := beq_iff_eq.mpr c14
  have c14b1 : (a0_0 != 5) = false := bne_eq_false_iff_eq.mpr c14
  clear c14
  replace H := zIt H
  obtain ⟨c15b0, H⟩ := H
  replace H := zIt H
  obtain ⟨c16b0, H⟩ := H
  replace H := zO H
  obtain ⟨t324, A17, H⟩ := H
  obtain rfl := Option.some.inj H
  go_enter Tryd.func62, Tryd.ntmps62
  go_wp2_with (first | ((with_reducible refine gate_dst (N := 2) rfl ?_); (try (refine gate_guard (by rfl) ?_; dsimp only)); (with_reducible refine zBx 2 93 #[.int .i64 a0_0, .int .i64 a0_1, .int .i64 a0_2, .int .i64 a0_3, .int .i64 a0_4] ?_); intro gb319 hg w18 hbox hb; have BK319 := zM hbox; have GW319 := zM (zW hg (below_size zB3)); have GE319 := zM (zW hg (below_size zB3)); replace HB := zM (below_step zB3 hb); clear hb hbox hg; have hcz19 := zc_5 (w := w18) BK319.1) | (go_at_call 74; (with_reducible refine (spec_InsOk.calls a0_0 a0_1 a0_2 a0_3 a0_4 true _ A3.1).mono ?_); rintro e w20 ⟨rfl, hb⟩; replace BK319 := zM (zb BK319.1 hb); replace HB := zM (below_step zB3 hb); clear hb; have hcz21 := zc_5 (w := w20) BK319.1; obtain ⟨p323, q323, ad323, e323, hx323_0⟩ := zRd (Kd.at_int HR1.1 a0_2); cases e323; replace hx323_0 := zHx HB.1 hx323_0) | (go_at_call 60; (with_reducible refine (spec_l9Address.calls (wrap64 ((rd l1 a0_2) + a0_4)) t324 _ A17.1).mono ?_); rintro e w' ⟨rfl, ⟨nd, rfl⟩⟩; (try first | exact ⟨rfl, _, World.drewN_drewN _ _ _⟩ | exact ⟨rfl, _, Eq.trans (World.drewN_drewN _ _ _) (congrArg (World.drewN _) (Nat.add_assoc _ _ _))⟩)))
  repeat (go_quiet (first | ((with_reducible refine gate_dst (N := 2) rfl ?_); (try (refine gate_guard (by rfl) ?_; dsimp only)); (with_reducible refine zBx 2 93 #[.int .i64 a0_0, .int .i64 a0_1, .int .i64 a0_2, .int .i64 a0_3, .int .i64 a0_4] ?_); intro gb319 hg w18 hbox hb; have BK319 := zM hbox; have GW319 := zM (zW hg (below_size zB3)); have GE319 := zM (zW hg (below_size zB3)); replace HB := zM (below_step zB3 hb); clear hb hbox hg; have hcz19 := zc_5 (w := w18) BK319.1) | (go_at_call 74; (with_reducible refine (spec_InsOk.calls a0_0 a0_1 a0_2 a0_3 a0_4 true _ A3.1).mono ?_); rintro e w20 ⟨rfl, hb⟩; replace BK319 := zM (zb BK319.1 hb); replace HB := zM (below_step zB3 hb); clear hb; have hcz21 := zc_5 (w := w20) BK319.1; obtain ⟨p323, q323, ad323, e323, hx323_0⟩ := zRd (Kd.at_int HR1.1 a0_2); cases e323; replace hx323_0 := zHx HB.1 hx323_0) | (go_at_call 60; (with_reducible refine (spec_l9Address.calls (wrap64 ((rd l1 a0_2) + a0_4)) t324 _ A17.1).mono ?_); rintro e w' ⟨rfl, ⟨nd, rfl⟩⟩; (try first | exact ⟨rfl, _, World.drewN_drewN _ _ _⟩ | exact ⟨rfl, _, Eq.trans (World.drewN_drewN _ _ _) (congrArg (World.drewN _) (Nat.add_assoc _ _ _))⟩))); try go_wp2_with (first | ((with_reducible refine gate_dst (N := 2) rfl ?_); (try (refine gate_guard (by rfl) ?_; dsimp only)); (with_reducible refine zBx 2 93 #[.int .i64 a0_0, .int .i64 a0_1, .int .i64 a0_2, .int .i64 a0_3, .int .i64 a0_4] ?_); intro gb319 hg w18 hbox hb; have BK319 := zM hbox; have GW319 := zM (zW hg (below_size zB3)); have GE319 := zM (zW hg (below_size zB3)); replace HB := zM (below_step zB3 hb); clear hb hbox hg; have hcz19 := zc_5 (w := w18) BK319.1) | (go_at_call 74; (with_reducible refine (spec_InsOk.calls a0_0 a0_1 a0_2 a0_3 a0_4 true _ A3.1).mono ?_); rintro e w20 ⟨rfl, hb⟩; replace BK319 := zM (zb BK319.1 hb); replace HB := zM (below_step zB3 hb); clear hb; have hcz21 := zc_5 (w := w20) BK319.1; obtain ⟨p323, q323, ad323, e323, hx323_0⟩ := zRd (Kd.at_int HR1.1 a0_2); cases e323; replace hx323_0 := zHx HB.1 hx323_0) | (go_at_call 60; (with_reducible refine (spec_l9Address.calls (wrap64 ((rd l1 a0_2) + a0_4)) t324 _ A17.1).mono ?_); rintro e w' ⟨rfl, ⟨nd, rfl⟩⟩; (try first | exact ⟨rfl, _, World.drewN_drewN _ _ _⟩ | exact ⟨rfl, _, Eq.trans (World.drewN_drewN _ _ _) (congrArg (World.drewN _) (Nat.add_assoc _ _ _))⟩))))
  go_ret
  exact ⟨zE, zB3⟩
 rw [if_neg c14] at H
 have c14b0 : (a0_0 == 5) = false := beq_eq_false_iff_ne.mpr c14
 have c14b1 : (a0_0 != 5) = true := bne_iff_ne.mpr c14
 by_cases c22 : a0_0 = 6
 rotate_left
 ·rw [if_neg c22] at H
  have c22b0 : (a0_0 == 6) = false := beq_eq_false_iff_ne.mpr c22
  have c22b1 : (a0_0 != 6) = true := bne_iff_ne.mpr c22
  obtain rfl := Option.some.inj H
  go_enter Tryd.func62, Tryd.ntmps62
  go_wp2_with (first | ((with_reducible refine gate_dst (N := 2) rfl ?_); (try (refine gate_guard (by rfl) ?_; dsimp only)); (with_reducible refine zBx 2 93 #[.int .i64 a0_0, .int .i64 a0_1, .int .i64 a0_2, .int .i64 a0_3, .int .i64 a0_4] ?_); intro gb319 hg w30 hbox hb; have BK319 := zM hbox; have GW319 := zM (zW hg (below_size zB3)); have GE319 := zM (zW hg (below_size zB3)); replace HB := zM (below_step zB3 hb); clear hb hbox hg; have hcz31 := zc_5 (w := w30) BK319.1) | (go_at_call 74; (with_reducible refine (spec_InsOk.calls a0_0 a0_1 a0_2 a0_3 a0_4 true _ A3.1).mono ?_); rintro e w32 ⟨rfl, hb⟩; replace BK319 := zM (zb BK319.1 hb); replace HB := zM (below_step zB3 hb); clear hb; have hcz33 := zc_5 (w := w32) BK319.1))
  repeat (go_quiet (first | ((with_reducible refine gate_dst (N := 2) rfl ?_); (try (refine gate_guard (by rfl) ?_; dsimp only)); (with_reducible refine zBx 2 93 #[.int .i64 a0_0, .int .i64 a0_1, .int .i64 a0_2, .int .i64 a0_3, .int .i64 a0_4] ?_); intro gb319 hg w30 hbox hb; have BK319 := zM hbox; have GW319 := zM (zW hg (below_size zB3)); have GE319 := zM (zW hg (below_size zB3)); replace HB := zM (below_step zB3 hb); clear hb hbox hg; have hcz31 := zc_5 (w := w30) BK319.1) | (go_at_call 74; (with_reducible refine (spec_InsOk.calls a0_0 a0_1 a0_2 a0_3 a0_4 true _ A3.1).mono ?_); rintro e w32 ⟨rfl, hb⟩; replace BK319 := zM (zb BK319.1 hb); replace HB := zM (below_step zB3 hb); clear hb; have hcz33 := zc_5 (w := w32) BK319.1)); try go_wp2_with (first | ((with_reducible refine gate_dst (N := 2) rfl ?_); (try (refine gate_guard (by rfl) ?_; dsimp only)); (with_reducible refine zBx 2 93 #[.int .i64 a0_0, .int .i64 a0_1, .int .i64 a0_2, .int .i64 a0_3, .int .i64 a0_4] ?_); intro gb319 hg w30 hbox hb; have BK319 := zM hbox; have GW319 := zM (zW hg (below_size zB3)); have GE319 := zM (zW hg (below_size zB3)); replace HB := zM (below_step zB3 hb); clear hb hbox hg; have hcz31 := zc_5 (w := w30) BK319.1) | (go_at_call 74; (with_reducible refine (spec_InsOk.calls a0_0 a0_1 a0_2 a0_3 a0_4 true _ A3.1).mono ?_); rintro e w32 ⟨rfl, hb⟩; replace BK319 := zM (zb BK319.1 hb); replace HB := zM (below_step zB3 hb); clear hb; have hcz33 := zc_5 (w := w32) BK319.1)))
  go_ret
  exact ⟨zE, zB3⟩
 rw [if_pos c22] at H
 have c22b0 : (a0_0 == 6) = true := beq_iff_eq.mpr c22
 have c22b1 : (a0_0 != 6) = false := bne_eq_false_iff_eq.mpr c22
 clear c22
 replace H := zIt H
 obtain ⟨c23b0, H⟩ := H
 replace H := zIt H
 obtain ⟨c24b0, H⟩ := H
 replace H := zO H
 obtain ⟨t326, A25, H⟩ := H
 obtain rfl := Option.some.inj H
 go_enter Tryd.func62, Tryd.ntmps62
 go_wp2_with (first | ((with_reducible refine gate_dst (N := 2) rfl ?_); (try (refine gate_guard (by rfl) ?_; dsimp only)); (with_reducible refine zBx 2 93 #[.int .i64 a0_0, .int .i64 a0_1, .int .i64 a0_2, .int .i64 a0_3, .int .i64 a0_4] ?_); intro gb319 hg w26 hbox hb; have BK319 := zM hbox; have GW319 := zM (zW hg (below_size zB3)); have GE319 := zM (zW hg (below_size zB3)); replace HB := zM (below_step zB3 hb); clear hb hbox hg; have hcz27 := zc_5 (w := w26) BK319.1) | (go_at_call 74; (with_reducible refine (spec_InsOk.calls a0_0 a0_1 a0_2 a0_3 a0_4 true _ A3.1).mono ?_); rintro e w28 ⟨rfl, hb⟩; replace BK319 := zM (zb BK319.1 hb); replace HB := zM (below_step zB3 hb); clear hb; have hcz29 := zc_5 (w := w28) BK319.1; obtain ⟨p325, q325, ad325, e325, hx325_0⟩ := zRd (Kd.at_int HR1.1 a0_2); cases e325; replace hx325_0 := zHx HB.1 hx325_0) | (go_at_call 60; (with_reducible refine (spec_l9Address.calls (wrap64 ((rd l1 a0_2) + a0_4)) t326 _ A25.1).mono ?_); rintro e w' ⟨rfl, ⟨nd, rfl⟩⟩; (try first | exact ⟨rfl, _, World.drewN_drewN _ _ _⟩ | exact ⟨rfl, _, Eq.trans (World.drewN_drewN _ _ _) (congrArg (World.drewN _) (Nat.add_assoc _ _ _))⟩)))
 repeat (go_quiet (first | ((with_reducible refine gate_dst (N := 2) rfl ?_); (try (refine gate_guard (by rfl) ?_; dsimp only)); (with_reducible refine zBx 2 93 #[.int .i64 a0_0, .int .i64 a0_1, .int .i64 a0_2, .int .i64 a0_3, .int .i64 a0_4] ?_); intro gb319 hg w26 hbox hb; have BK319 := zM hbox; have GW319 := zM (zW hg (below_size zB3)); have GE319 := zM (zW hg (below_size zB3)); replace HB := zM (below_step zB3 hb); clear hb hbox hg; have hcz27 := zc_5 (w := w26) BK319.1) | (go_at_call 74; (with_reducible refine (spec_InsOk.calls a0_0 a0_1 a0_2 a0_3 a0_4 true _ A3.1).mono ?_); rintro e w28 ⟨rfl, hb⟩; replace BK319 := zM (zb BK319.1 hb); replace HB := zM (below_step zB3 hb); clear hb; have hcz29 := zc_5 (w := w28) BK319.1; obtain ⟨p325, q325, ad325, e325, hx325_0⟩ := zRd (Kd.at_int HR1.1 a0_2); cases e325; replace hx325_0 := zHx HB.1 hx325_0) | (go_at_call 60; (with_reducible refine (spec_l9Address.calls (wrap64 ((rd l1 a0_2) + a0_4)) t326 _ A25.1).mono ?_); rintro e w' ⟨rfl, ⟨nd, rfl⟩⟩; (try first | exact ⟨rfl, _, World.drewN_drewN _ _ _⟩ | exact ⟨rfl, _, Eq.trans (World.drewN_drewN _ _ _) (congrArg (World.drewN _) (Nat.add_assoc _ _ _))⟩))); try go_wp2_with (first | ((with_reducible refine gate_dst (N := 2) rfl ?_); (try (refine gate_guard (by rfl) ?_; dsimp only)); (with_reducible refine zBx 2 93 #[.int .i64 a0_0, .int .i64 a0_1, .int .i64 a0_2, .int .i64 a0_3, .int .i64 a0_4] ?_); intro gb319 hg w26 hbox hb; have BK319 := zM hbox; have GW319 := zM (zW hg (below_size zB3)); have GE319 := zM (zW hg (below_size zB3)); replace HB := zM (below_step zB3 hb); clear hb hbox hg; have hcz27 := zc_5 (w := w26) BK319.1) | (go_at_call 74; (with_reducible refine (spec_InsOk.calls a0_0 a0_1 a0_2 a0_3 a0_4 true _ A3.1).mono ?_); rintro e w28 ⟨rfl, hb⟩; replace BK319 := zM (zb BK319.1 hb); replace HB := zM (below_step zB3 hb); clear hb; have hcz29 := zc_5 (w := w28) BK319.1; obtain ⟨p325, q325, ad325, e325, hx325_0⟩ := zRd (Kd.at_int HR1.1 a0_2); cases e325; replace hx325_0 := zHx HB.1 hx325_0) | (go_at_call 60; (with_reducible refine (spec_l9Address.calls (wrap64 ((rd l1 a0_2) + a0_4)) t326 _ A25.1).mono ?_); rintro e w' ⟨rfl, ⟨nd, rfl⟩⟩; (try first | exact ⟨rfl, _, World.drewN_drewN _ _ _⟩ | exact ⟨rfl, _, Eq.trans (World.drewN_drewN _ _ _) (congrArg (World.drewN _) (Nat.add_assoc _ _ _))⟩))))
 go_ret
 exact ⟨zE, zB3⟩

/-! ### spec_l9Copy: function 64 -/
def spec_l9Copy.f (l0_0 : List Int) (a0_1 : Int) (a0_2 : Int) : Option (List Int × Int × Int) := (some (([] : List Int) : List Int)).bind fun y329 => (if y329.length + l0_0.length < 17592186044416 then (some ((y329 ++ l0_0), a0_1, a0_2)) else (none))
theorem spec_l9Copy.calls (A0_0 : Option Addr) (c0_0 : Nat) (l0_0 : List Int) (a0_1 : Int) (a0_2 : Int) (r1 : List Int) (r2 : Int) (r3 : Int) (w : World) (hr0_0 : Kd.C (Kd.int .i64) w A0_0 l0_0.length l0_0) (hc0_0 : l0_0.length ≤ c0_0) (h : spec_l9Copy.f l0_0 a0_1 a0_2 = some (r1, r2, r3)) :
  Calls Tryd.prog 64 #[.agg #[.slice A0_0 l0_0.length c0_0, .int .i64 a0_1, .int .i64 a0_2]] w fun e w' => ∃ v0_ : Value, e = .returned (.agg #[v0_, .int .i64 r2, .int .i64 r3]) ∧ Kd.R (Kd.int .i64) 3 w' w.heap.size (fun _ => True) v0_ r1 ∧ Below w.heap.size w w' := by
 have hu80 := Tryd.underlying80
 have HR0_0 := zM hr0_0
 have HC0_0 := zM hc0_0
 clear hr0_0 hc0_0
 have HB := zM (Below.refl w.heap.size w)
 unfold spec_l9Copy.f at h
 have H := h
 clear h
 replace H := zY H
 obtain ⟨y329, Ny329, H⟩ := H
 replace H := zIn H
 obtain ⟨LMc2, H⟩ := H
 generalize hy332 : ((y329 ++ l0_0) : List Int) = y332 at H
 have Ny332 := zM hy332.symm
 clear hy332
 simp only [Option.some.injEq, Prod.mk.injEq] at H
 obtain ⟨rfl, rfl, rfl⟩ := H
 go_enter Tryd.func64, Tryd.ntmps64
 go_wp2_with (first | ((with_reducible refine zBx 1 80 #[.slice A0_0 l0_0.length c0_0, .int .i64 a0_1, .int .i64 a0_2] ?_); intro gb327 hg w3 hbox hb; have BK327 := zM hbox; have GW327 := zM (zW hg (below_size zB3)); have GE327 := zM (zW hg (below_size zB3)); replace HB := zM (below_step zB3 hb); clear hb hbox hg) | ((with_reducible refine zBx 2 80 #[.slice none 0 0, .int .i64 0, .int .i64 0] ?_); intro gb328 hg w4 hbox hb; have BK328 := zM hbox; have GW328 := zM (zW hg (below_size zB3)); have GE328 := zM (zW hg (below_size zB3)); replace HB := zM (below_step zB3 hb); have NB327_328 := zM ((zn BK327.1 hg : gb327 ≠ gb328)); have NB328_327 := zM ((zm BK327.1 hg : gb328 ≠ gb327)); replace BK327 := zM (zb BK327.1 hb); clear hb hbox hg) | ((with_reducible refine gate_dst (N := 3) rfl ?_); refine Kd.R_lit (Kd.int .i64) _ 3 ?hg (N := 3) ?hd (xs := ([] : List Int)) (inner := []) (ok := fun _ => True) (okp := fun _ => True) ?hr ?hp (fun _ hk => hk) trivial (Below.refl _ _) (Nat.le_refl _) (by simp) ?_; (case hd => rfl); (case hg => rfl); (case hr => exact zHH); (case hp => exact (Reps.none _ _)); intro v330 w5 ho6 hb hg_ hnew_; clear hg_ hnew_; (first | rw [← Ny329.1] at ho6 | (simp only [Int.reduceToNat] at ho6; rw [← Ny329.1] at ho6)); have HO331 := zM (Kd.R_lower ho6 (below_size zB3)); replace BK327 := zM (zb BK327.1 hb); replace BK328 := zM (zb BK328.1 hb); replace HB := zM (below_step zB3 hb); clear hb ho6; have hnb7 := NB327_328.1; have hnc7 := NB328_327.1; have hcz8 := zc_3 (w := w5) BK327.1) | ((with_reducible refine gate_builtin (b := .append) (xs := #[.tmp 3, .tmp 5]) rfl ?_); at_builtin; refine Kd.R_append_rows (Kd.int .i64) (w0 := w) w.heap.size rfl (.tmp 3) (.tmp 5) 36 3 (.int .i64 0) 8 rfl Tryd.underlying36 info3 rfl (by decide) (by omega) v330 y329 l0_0 _ _ _ (fun _ => True) (fun _ => False) rfl rfl ?aO ?aR (fun _ _ h => h) (fun _ h => h.elim) ?aF ?aB ?aS ?aL ?_; (case aR => exact zC (Kd.C_below HR0_0.1 HB.1)); (case aB => exact zB3); (case aF => exact (fun _ _ => trivial)); (case aO => exact (zR HO331.1)); (case aS => exact (below_size zB3)); (case aL => have := LMc2.out; omega); intro v333 w9 ho hb hg hat; rw [← Ny332.1] at ho; replace BK327 := zM (zg BK327.1 hg (Kd.R_ne HO331.1 BK327.1 (by decide))); replace BK328 := zM (zg BK328.1 hg (Kd.R_ne HO331.1 BK328.1 (by decide))); replace HB := zM hb; have HO334 := zM ho; clear HO331; clear ho hb hg hat; obtain ⟨Ao10, co10, eo10⟩ := Kd.R_slice HO334.1; subst eo10; have hcz11 := zc_3 (w := w9) BK327.1; have hcz12 := zc_3 (w := w9) BK328.1))
 refine bodyPost_ret (results_cell_row rfl _ _ gb328 80 #[.slice Ao10 y332.length co10, .int .i64 a0_1, .int .i64 a0_2] (0, 0) _ rfl zPq Tryd.underlying80 rfl (by kernel_rfl)) rfl ?_
 exact ⟨_, zE, by refine zrR ?_; exact Kd.R_mono (zfR (zfR (zfR (zgR (Kd.R_types (Kd.R_types HO334.1 BK327.1 (by decide)) BK328.1 (by decide)))))) (fun _ hk => trivial), zB3⟩

/-! ### spec_l9Word: function 76 -/
def spec_l9Word.f (a0 : Int) : Option (Int) := some (Go.bits .and .i64 a0 65535)
theorem spec_l9Word.calls (a0 : Int) (r : Int) (w : World) (h : spec_l9Word.f a0 = some r) :
  Calls Tryd.prog 76 #[.int .i64 a0] w fun e w' => e = .returned (.int .i64 r) ∧ Drawn0 w w' := by
 unfold spec_l9Word.f at h
 have H := h
 clear h
 obtain rfl := Option.some.inj H
 go_enter Tryd.func76, Tryd.ntmps76
 go_wp2
 go_ret
 exact ⟨zJJ, zDD⟩

end Go.Proofs.YtaakcbgpmabaaaaDoor.PFnStories
