-- made by wip/tools/myprint.py out of the seat's translation
import Derived.Test.YtaakcbgpmabaaaaPFnLinkedx0
import Derived.Test.YtaakcbgpmabaaaaPFnLinkedx1
import Derived.Test.YtaakcbgpmabaaaaPFnLinkedx2
import Derived.Test.YtaakcbgpmabaaaaPFnLinkedx4
namespace Go.Proofs.Ytaakcbgpmabaaaa.PFnLinked
open Go.RowKit Go.Proofs.YtaakcbgpmabaaaaW.PrintWords Go.Proofs.YtaakcbgpmabaaaaW.PrintLast Go.Proofs.YtaakcbgpmabaaaaW.PrintMore
attribute [local go_sem] max2_int min2_int max_two min_two max_three min_three max_four min_four   -- for this text's walks alone
set_option linter.unusedVariables false
set_option linter.unusedSimpArgs false
set_option maxHeartbeats 8000000
set_option maxRecDepth 100000

attribute [local go_sem high] eqA57
/-! ### spec_l27DrawList: function 53 -/
def spec_l27DrawList.l0 : Nat → List (S49) → List ByteArray → Int → List Int → Int → Int → Option ((List (S49)) × Int × Int)
  | 0, _, _, _, _, _, _ => none
  | k + 1, x3, x4, x5, x1000, x1001, x1002 => (spec_l1Below.f x1000 x1001 x1002 5).bind fun bt269 => (if x5 < bt269.1 then ((spec_l27DrawPart.f k x1000 bt269.2.1 bt269.2.2).bind fun bt272 => ((spec_l1Once.f x1000 bt272.2.2.2.1 bt272.2.2.2.2 8).bind fun bt282 => (if bt282.1 = true then (if x3.length < 2199023255552 then (spec_l27DrawList.l0 k (x3 ++ [(⟨bt272.1, bt272.2.1, bt272.2.2.1⟩ : S49)]) x4 (wrap64 (x5 + 1)) x1000 bt282.2.1 bt282.2.2) else (none)) else (if 0 ≤ x5 then (if x5 < (x4.length : Int) then (if x3.length < 2199023255552 then (spec_l27DrawList.l0 k (x3 ++ [(⟨rdOf ByteArray.empty x4 x5, bt272.2.1, bt272.2.2.1⟩ : S49)]) x4 (wrap64 (x5 + 1)) x1000 bt282.2.1 bt282.2.2) else (none)) else (none)) else (none))))) else (some (x3, bt269.2.1, bt269.2.2)))
def spec_l27DrawList.f (k : Nat) (s0_0 : List Int) (s0_1 : Int) (s0_2 : Int) : Option ((List (S49)) × Int × Int) := spec_l27DrawList.l0 k (([] : List (S49))) (([(⟨#[109, 97, 105, 110]⟩ : ByteArray), (⟨#[108, 111, 111, 112]⟩ : ByteArray), (⟨#[101, 110, 100]⟩ : ByteArray), (⟨#[103, 101, 116]⟩ : ByteArray), (⟨#[112, 117, 116]⟩ : ByteArray)] : List ByteArray)) 0 s0_0 s0_1 s0_2
theorem spec_l27DrawList.mono_l : ∀ k, (∀ y0 y1 y2 y3 y4 y5, LeO (spec_l27DrawList.l0 k y0 y1 y2 y3 y4 y5) (spec_l27DrawList.l0 (k + 1) y0 y1 y2 y3 y4 y5))
  | 0 => fun _ _ _ _ _ _ r h => by simp [spec_l27DrawList.l0] at h
  | k + 1 => by
    have ih0 := spec_l27DrawList.mono_l k
    · intro y0 y1 y2 y3 y4 y5
      unfold spec_l27DrawList.l0
      have mo0 := @spec_l27DrawPart.mono
      exact zL
theorem spec_l27DrawList.mono : ∀ a0 a1 a2 k, LeO (spec_l27DrawList.f k a0 a1 a2) (spec_l27DrawList.f (k + 1) a0 a1 a2) := by
  intro a0 a1 a2 k
  have ih0 := spec_l27DrawList.mono_l k
  unfold spec_l27DrawList.f
  have mo0 := @spec_l27DrawPart.mono
  exact zL
theorem spec_l27DrawList.calls (k : Nat) (g : Nat) (s0_0 : List Int) (s0_1 : Int) (s0_2 : Int) (r1 : List (S49)) (r2 : Int) (r3 : Int) (w0 w : World) (hI : IsS104 w0 w g s0_0 s0_1 s0_2) (hB : Below w0.heap.size w0 w) (h : spec_l27DrawList.f k s0_0 s0_1 s0_2 = some (r1, r2, r3)) :
    Calls Try.prog 53 #[.pointer (some ⟨g, 0, none⟩)] w fun e w' => ∃ v0_ : Value, e = .returned (v0_) ∧ Kd.S k49 49 w' w.heap.size (fun _ => True) v0_ r1 ∧ IsS104 w0 w' g s0_0 r2 r3 ∧ Below w0.heap.size w0 w' ∧ KeepBut w w' g none := by
  have hu49 := Try.underlying49
  have HI0 := zM hI
  have HK := zM (KeepBut.refl w g none)
  have HL := zM hB.size
  clear hI
  have HW0 := zM hB.size
  have HB := zM hB
  clear hB
  unfold spec_l27DrawList.f at h
  have H := h
  clear h
  generalize hy263 : ((([] : List (S49))) : List (S49)) = y263 at H
  have Ny263 := zM hy263.symm
  clear hy263
  generalize hy266 : ((([(⟨#[109, 97, 105, 110]⟩ : ByteArray), (⟨#[108, 111, 111, 112]⟩ : ByteArray), (⟨#[101, 110, 100]⟩ : ByteArray), (⟨#[103, 101, 116]⟩ : ByteArray), (⟨#[112, 117, 116]⟩ : ByteArray)] : List ByteArray)) : List ByteArray) = y266 at H
  have Ny266 := zM hy266.symm
  clear hy266
  have H' := zM H
  clear H
  go_enter Try.func53, Try.ntmps53
  go_wp2_with (first | ((with_reducible refine gate_dst (N := 7) rfl ?_); refine Kd.S_lit k49 _ 49 ?hg (N := 7) ?hd (xs := ([] : List (S49))) (inner := []) (ok := fun _ => True) (okp := fun _ => True) ?hr ?hp (fun _ hk => hk) trivial (Below.refl _ _) (Nat.le_refl _) (by simp) ?_; (case hd => rfl); (case hg => rfl); (case hr => exact zHH); (case hp => exact (Reps.none _ _)); intro v264 w2 ho3 hb hg_ hnew_; clear hg_ hnew_; (first | rw [← Ny263.1] at ho3 | (simp only [Int.reduceToNat] at ho3; rw [← Ny263.1] at ho3)); have HO265 := zM (Kd.S_lower ho3 (keep_size (w := w) (g := g) (row := none) zB8)); replace HK := zM (KeepBut.trans zB8 (KeepBut.of_below hb g none) (.inl rfl)); replace HB := zM (below_step zB7 hb); replace HI0 := zM (IsS104.below zB6 hb); clear hb ho3) | ((with_reducible refine gate_dst (N := 8) rfl ?_); refine Kd.R_lit Kd.string _ 9 ?hg (N := 8) ?hd (xs := ([(⟨#[109, 97, 105, 110]⟩ : ByteArray), (⟨#[108, 111, 111, 112]⟩ : ByteArray), (⟨#[101, 110, 100]⟩ : ByteArray), (⟨#[103, 101, 116]⟩ : ByteArray), (⟨#[112, 117, 116]⟩ : ByteArray)] : List ByteArray)) (inner := [.string (⟨#[109, 97, 105, 110]⟩ : ByteArray), .string (⟨#[108, 111, 111, 112]⟩ : ByteArray), .string (⟨#[101, 110, 100]⟩ : ByteArray), .string (⟨#[103, 101, 116]⟩ : ByteArray), .string (⟨#[112, 117, 116]⟩ : ByteArray)]) (ok := fun _ => True) (okp := fun _ => True) ?hr ?hp (fun _ hk => hk) trivial (Below.refl _ _) (Nat.le_refl _) (by simp) ?_; (case hd => rfl); (case hg => rfl); (case hr => exact zHH); (case hp => exact (Reps.one (show Kd.M Kd.string _ _ _ (⟨#[109, 97, 105, 110]⟩ : ByteArray) [.string (⟨#[109, 97, 105, 110]⟩ : ByteArray)] from rfl) (Reps.one (show Kd.M Kd.string _ _ _ (⟨#[108, 111, 111, 112]⟩ : ByteArray) [.string (⟨#[108, 111, 111, 112]⟩ : ByteArray)] from rfl) (Reps.one (show Kd.M Kd.string _ _ _ (⟨#[101, 110, 100]⟩ : ByteArray) [.string (⟨#[101, 110, 100]⟩ : ByteArray)] from rfl) (Reps.one (show Kd.M Kd.string _ _ _ (⟨#[103, 101, 116]⟩ : ByteArray) [.string (⟨#[103, 101, 116]⟩ : ByteArray)] from rfl) (Reps.one (show Kd.M Kd.string _ _ _ (⟨#[112, 117, 116]⟩ : ByteArray) [.string (⟨#[112, 117, 116]⟩ : ByteArray)] from rfl) (Reps.none _ _))))))); intro v267 w4 ho5 hb hg_ hnew_; clear hg_ hnew_; (first | rw [← Ny266.1] at ho5 | (simp only [Int.reduceToNat] at ho5; rw [← Ny266.1] at ho5)); replace HO265 := zM (Kd.S_below (zS HO265.1) hb); have HO268 := zM (Kd.R_lower ho5 (keep_size (w := w) (g := g) (row := none) zB8)); replace HK := zM (KeepBut.trans zB8 (KeepBut.of_below hb g none) (.inl rfl)); replace HB := zM (below_step zB7 hb); replace HI0 := zM (IsS104.below zB6 hb); clear hb ho5))
  go_loopg [3, 5] k (fun kq v3 v5 w' => ∃ (x3_1 : List (S49)) (x5_1 : Int) (x1001_1 : Int) (x1002_1 : Int), v5 = .int .i64 x5_1 ∧ Aside0 (spec_l27DrawList.l0 kq x3_1 y266 x5_1 s0_0 x1001_1 x1002_1 = some (r1, r2, r3)) ∧ Aside0 (kq ≤ k) ∧ Aside0 (Kd.S k49 49 w' w.heap.size (fun _ => True) v3 x3_1) ∧ Aside0 (Kd.R Kd.string 9 w' w.heap.size (fun _ => True) v267 y266) ∧ Aside0 (IsS104 w0 w' g s0_0 x1001_1 x1002_1) ∧ Aside0 (KeepBut w w' g none) ∧ Aside0 (Below w0.heap.size w0 w'))
  case atStart => exact ⟨(y263), (0), (s0_1), (s0_2), zJJ, H', ⟨Nat.le_refl _⟩, ⟨zS HO265.1⟩, ⟨zR HO268.1⟩, ⟨zB6⟩, ⟨zB8⟩, ⟨zB7⟩⟩
  case round =>
    clear H'
    obtain ⟨x3_1, x5_1, x1001_1, x1002_1, rfl, HA, HK1, HO_3, HO_4, HI0, HK, HB⟩ := hrel
    cases gk with
    | zero => exact absurd HA.1 (by simp [spec_l27DrawList.l0])
    | succ k1 =>
      have H := HA.1
      clear HA
      simp only [spec_l27DrawList.l0] at H
      replace H := zO H
      obtain ⟨⟨t269, t270, t271⟩, A6, H⟩ := H
      try dsimp only at H
      by_cases c7 : x5_1 < t269
      rotate_left
      · rw [if_neg c7] at H
        have c7b0 := decide_eq_false c7
        clear c7
        simp only [Option.some.injEq, Prod.mk.injEq] at H
        obtain ⟨rfl, rfl, rfl⟩ := H
        go_wp2_with (first | ((with_reducible refine zG Try.func43 11 #[.pointer (some ⟨g, 0, none⟩), .int .i64 5] ?_); (with_reducible refine (spec_l1Below.calls g s0_0 x1001_1 x1002_1 5 t269 t270 t271 w0 _ ?side1 ?side2 A6.1).mono ?_); (case side1 => exact zB6); (case side2 => exact zB7); rintro e w38 ⟨rfl, hi, hb, hk⟩; refine ⟨_, rfl, ?_⟩; replace HO_3 := zM (Kd.S_mono (Kd.S_keep (IsS104.apartS (show IsS104 w0 _ g s0_0 x1001_1 x1002_1 from zB6) (zS HO_3.1) (by decide)) hk (fun _ h => h.2)) (fun _ h => h.1)); replace HO_4 := zM (Kd.R_mono (Kd.R_keep (IsS104.apart (show IsS104 w0 _ g s0_0 x1001_1 x1002_1 from zB6) (zR HO_4.1) (by decide)) hk (fun _ h => h.2)) (fun _ h => h.1)); replace HK := zM (KeepBut.trans zB8 hk (.inl rfl)); replace HB := zM hb; replace HI0 := zM hi; clear hb hk hi))
        go_ret
        exact ⟨_, zE, zS HO_3.1, zB6, zB7, zB8⟩
      rw [if_pos c7] at H
      have c7b0 := decide_eq_true c7
      clear c7
      replace H := zO H
      obtain ⟨⟨t272, t273, t276, t279, t280⟩, A8, H⟩ := H
      try dsimp only at H
      replace H := zO H
      obtain ⟨⟨t282, t283, t284⟩, A9, H⟩ := H
      try dsimp only at H
      by_cases c10 : t282 = true
      · subst c10
        rw [if_pos rfl] at H
        by_cases c11 : x3_1.length < 2199023255552
        rotate_left
        · rw [if_neg c11] at H
          exact absurd H (by simp)
        rw [if_pos c11] at H
        have LMc11 := zM c11
        clear c11
        generalize hy285 : ((x3_1 ++ [(⟨t272, t273, t276⟩ : S49)]) : List (S49)) = y285 at H
        have Ny285 := zM hy285.symm
        clear hy285
        have H' := zM H
        clear H
        go_wp2_with (first | ((with_reducible refine zG Try.func43 11 #[.pointer (some ⟨g, 0, none⟩), .int .i64 5] ?_); (with_reducible refine (spec_l1Below.calls g s0_0 x1001_1 x1002_1 5 t269 t270 t271 w0 _ ?side1 ?side2 A6.1).mono ?_); (case side1 => exact zB6); (case side2 => exact zB7); rintro e w12 ⟨rfl, hi, hb, hk⟩; refine ⟨_, rfl, ?_⟩; replace HO_3 := zM (Kd.S_mono (Kd.S_keep (IsS104.apartS (show IsS104 w0 _ g s0_0 x1001_1 x1002_1 from zB6) (zS HO_3.1) (by decide)) hk (fun _ h => h.2)) (fun _ h => h.1)); replace HO_4 := zM (Kd.R_mono (Kd.R_keep (IsS104.apart (show IsS104 w0 _ g s0_0 x1001_1 x1002_1 from zB6) (zR HO_4.1) (by decide)) hk (fun _ h => h.2)) (fun _ h => h.1)); replace HK := zM (KeepBut.trans zB8 hk (.inl rfl)); replace HB := zM hb; replace HI0 := zM hi; clear hb hk hi) | ((with_reducible refine zG Try.func58 16 #[.pointer (some ⟨g, 0, none⟩)] ?_); (with_reducible refine (spec_l27DrawPart.calls k1 g s0_0 t270 t271 t272 t273 t276 t279 t280 w0 _ ?side1 ?side2 A8.1).mono ?_); (case side1 => exact zB6); (case side2 => exact zB7); rintro e w13 ⟨v274, v277, rfl, ho0, ho1, hi, hb, hk⟩; refine ⟨_, rfl, ?_⟩; replace HO_3 := zM (Kd.S_mono (Kd.S_told (Kd.S_told (Kd.S_oldK (IsS104.apartS (show IsS104 w0 _ g s0_0 t270 t271 from zB6) (zS HO_3.1) (by decide)) hk) (Kd.R_base ho0)) (Kd.R_base ho1)) (fun _ h_ => h_.1)); replace HO_4 := zM (Kd.R_mono (Kd.R_keep (IsS104.apart (show IsS104 w0 _ g s0_0 t270 t271 from zB6) (zR HO_4.1) (by decide)) hk (fun _ h => h.2)) (fun _ h => h.1)); have HO275 := zM (Kd.R_lower ho0 (keep_size (w := w) (g := g) (row := none) zB8)); have HO278 := zM (Kd.R_lower ho1 (keep_size (w := w) (g := g) (row := none) zB8)); replace HK := zM (KeepBut.trans zB8 hk (.inl rfl)); replace HB := zM hb; replace HI0 := zM hi; clear hb hk hi ho0 ho1) | ((with_reducible refine zBx 6 49 #[.string (⟨#[]⟩ : ByteArray), .slice none 0 0, .slice none 0 0] ?_); intro gb281 hg w14 hbox hb; replace HO_3 := zM (Kd.S_below (Kd.S_elderB (zS HO_3.1) gb281 (Nat.le_of_eq hg.symm)) hb); replace HO_4 := zM (Kd.R_below (zR HO_4.1) hb); replace HO275 := zM (Kd.R_below (zR HO275.1) hb); replace HO278 := zM (Kd.R_below (zR HO278.1) hb); replace HB := zM (below_step zB7 hb); have BK281 := zM hbox; have GW281 := zM ((by rw [hg]; exact (keep_size (w := w) (g := g) (row := none) zB8) : w.heap.size ≤ gb281)); have GE281 := zM ((Nat.le_trans HW0.1 (by rw [hg]; exact (keep_size (w := w) (g := g) (row := none) zB8) : w.heap.size ≤ gb281) : w0.heap.size ≤ gb281)); replace HK := zM (KeepBut.trans zB8 (KeepBut.of_below hb g none) (.inl rfl)); have NB0_281 := zM ((by rw [hg]; exact Nat.ne_of_lt (IsS104.lt (show IsS104 w0 _ g s0_0 t279 t280 from zB6)) : g ≠ gb281)); have NB281_0 := zM ((by rw [hg]; exact Nat.ne_of_gt (IsS104.lt (show IsS104 w0 _ g s0_0 t279 t280 from zB6)) : gb281 ≠ g)); replace HI0 := zM (IsS104.below zB6 hb); clear hb hbox hg; have hnb15 := NB281_0.1; have hnc15 := NB0_281.1; have hcz16 := zc_3 (w := w14) BK281.1; obtain ⟨Ao17, co17, eo17⟩ := Kd.R_slice HO275.1; subst eo17; obtain ⟨Ao18, co18, eo18⟩ := Kd.R_slice HO278.1; subst eo18) | ((with_reducible refine zG Try.func41 18 #[.pointer (some ⟨g, 0, none⟩), .int .i64 8] ?_); (with_reducible refine (spec_l1Once.calls g s0_0 t279 t280 8 true t283 t284 w0 _ ?side1 ?side2 A9.1).mono ?_); (case side1 => exact zB33); (case side2 => exact zB7); rintro e w19 ⟨rfl, hi, hb, hk⟩; refine ⟨_, rfl, ?_⟩; replace HO_3 := zM (Kd.S_mono (Kd.S_keep (IsS104.apartS (show IsS104 w0 _ g s0_0 t279 t280 from zB33) (by refine zrS ?_; exact (Kd.S_mono (zfS (zfS (zfS (Kd.S_mono HO_3.1 (fun k_ hk => (⟨hk, hk.2⟩ : _ ∧ k_ ≠ gb281)))))) (fun _ h_ => h_.1))) (by decide)) hk (fun _ h => h.2)) (fun _ h => h.1)); replace HO_4 := zM (Kd.R_mono (Kd.R_keep (IsS104.apart (show IsS104 w0 _ g s0_0 t279 t280 from zB33) (by refine zrR ?_; exact (Kd.R_mono (zfR (zfR (zfR (Kd.R_types HO_4.1 BK281.1 (by decide))))) (fun _ h_ => h_.1))) (by decide)) hk (fun _ h => h.2)) (fun _ h => h.1)); replace HO275 := zM (Kd.R_mono (Kd.R_keep (IsS104.apart (show IsS104 w0 _ g s0_0 t279 t280 from zB33) (by refine zrR ?_; exact (Kd.R_mono (zfR (zfR (zfR (Kd.R_types HO275.1 BK281.1 (by decide))))) (fun _ h_ => h_.1))) (by decide)) hk (fun _ h => h.2)) (fun _ h => h.1)); replace HO278 := zM (Kd.R_mono (Kd.R_keep (IsS104.apart (show IsS104 w0 _ g s0_0 t279 t280 from zB33) (by refine zrR ?_; exact (Kd.R_mono (zfR (zfR (zfR (Kd.R_types HO278.1 BK281.1 (by decide))))) (fun _ h_ => h_.1))) (by decide)) hk (fun _ h => h.2)) (fun _ h => h.1)); replace BK281 := zM (KeepBut.blk hk (g' := gb281) (o := .cells #[.string t272, .slice Ao17 t273.length co17, .slice Ao18 t276.length co18] 49 (0, 0)) (by exact zp3 (zK BK281.1)) NB281_0.1 (by simp)); replace HK := zM (KeepBut.trans zB8 hk (.inl rfl)); replace HB := zM hb; replace HI0 := zM hi; clear hb hk hi; have hcz20 := zc_3 (w := w19) BK281.1) | ((with_reducible refine gate_builtin (b := .append) (xs := #[.tmp 25, .tmp 27]) rfl ?_); at_builtin; refine Kd.S_append k49 w.heap.size rfl (.tmp 25) (.tmp 27) 42 49 (.agg #[(.string ⟨#[]⟩), (.slice none 0 0), (.slice none 0 0)]) 64 rfl Try.underlying42 info49 rfl (by decide) (by omega) u3 x3_1 (⟨t272, t273, t276⟩ : S49) [.string t272, .slice Ao17 t273.length co17, .slice Ao18 t276.length co18] (fun k_ => k_ ≠ gb281) (fun k_ => some k_ = (.slice Ao17 t273.length co17 : Value).ownBlock ∨ some k_ = (.slice Ao18 t276.length co18 : Value).ownBlock) rfl rfl ?aP (fun k_ hk_ => hk_.elim (fun h_ => ((Kd.R_mono (ok' := fun k_ => ((fun k_ => k_ ≠ gb281)) k_ ∧ some k_ ≠ (u3 : Value).ownBlock) (Kd.R_types (Kd.R_apart' (HO275.1) (Kd.S_typed HO_3.1) (by decide)) BK281.1 (by decide)) (fun k_ hk => ⟨hk.2, hk.1.2⟩))).1 k_ h_.symm) (fun h_ => ((Kd.R_mono (ok' := fun k_ => ((fun k_ => k_ ≠ gb281)) k_ ∧ some k_ ≠ (u3 : Value).ownBlock) (Kd.R_types (Kd.R_apart' (HO278.1) (Kd.S_typed HO_3.1) (by decide)) BK281.1 (by decide)) (fun k_ hk => ⟨hk.2, hk.1.2⟩))).1 k_ h_.symm)) ?aF ?aO (Below.refl _ _) ?aS ?aL ?_; (case aP => exact k49_mkM _ _ _ (⟨t272, t273, t276⟩ : S49) (Kd.R_mono (Kd.R_tight rfl (Kd.R_mono (ok' := fun k_ => ((fun k_ => k_ ≠ gb281)) k_ ∧ some k_ ≠ (u3 : Value).ownBlock) (Kd.R_types (Kd.R_apart' (HO275.1) (Kd.S_typed HO_3.1) (by decide)) BK281.1 (by decide)) (fun k_ hk => ⟨hk.2, hk.1.2⟩))) (fun _ h_ => Or.inl h_)) (Kd.R_mono (Kd.R_tight rfl (Kd.R_mono (ok' := fun k_ => ((fun k_ => k_ ≠ gb281)) k_ ∧ some k_ ≠ (u3 : Value).ownBlock) (Kd.R_types (Kd.R_apart' (HO278.1) (Kd.S_typed HO_3.1) (by decide)) BK281.1 (by decide)) (fun k_ hk => ⟨hk.2, hk.1.2⟩))) (fun _ h_ => Or.inr (h_)))); (case aF => exact (fun k_ hk => Kd.freshB (g := gb281) (o := .cells #[.string t272, .slice Ao17 t273.length co17, .slice Ao18 t276.length co18] 49 (0, 0)) (zK BK281.1) k_ hk)); (case aO => exact (by refine zrS ?_; exact Kd.S_mono HO_3.1 (fun k_ hk => ⟨hk.2, fun e_ => e_.elim (fun h_ => hk.1.1.2 h_) (fun h_ => hk.1.2 h_)⟩))); (case aS => exact (keep_size (w := w) (g := g) (row := none) zB8)); (case aL => have := LMc11.out; omega); intro v286 w21 ho hb hg hat; rw [← Ny285.1] at ho; replace HO_4 := zM (Kd.R_over' (zR HO_4.1) (Kd.S_typed (zS HO_3.1)) (by decide) hg); replace BK281 := zM (zg BK281.1 hg (Kd.S_away HO_3.1 (fun _ hk => hk.2))); replace HB := zM (below_weaken zB7 HL.1 hb); replace HI0 := zM (IsS104.grown (show IsS104 w0 _ g s0_0 t283 t284 from zB33) hg (IsS104.own_neS HI0.1 HO_3.1 (by decide))); replace HK := zM (KeepBut.trans zB8 (KeepBut.of_grown hg g) (Kd.S_base2 HO_3.1)); have HO287 := zM ho; clear HO_3 HO275 HO278; clear ho hb hg hat))
        go_roundg k1
        case measure => have := HK1.1; omega
        case rel => exact ⟨(y285), (wrap64 (x5_1 + 1)), (t283), (t284), zJJ, H', ⟨by have := HK1.1; omega⟩, ⟨by refine zrS ?_; exact Kd.S_mono HO287.1 (fun _ hk => trivial)⟩, ⟨zR HO_4.1⟩, ⟨zB33⟩, ⟨zB8⟩, ⟨zB7⟩⟩
      replace c10 := Bool.eq_false_iff.mpr c10
      subst c10
      rw [if_neg zF] at H
      by_cases c22 : 0 ≤ x5_1
      rotate_left
      · rw [if_neg c22] at H
        exact absurd H (by simp)
      rw [if_pos c22] at H
      have c22b0 := decide_eq_true c22
      clear c22
      by_cases c23 : x5_1 < (y266.length : Int)
      rotate_left
      · rw [if_neg c23] at H
        exact absurd H (by simp)
      rw [if_pos c23] at H
      have c23b0 := decide_eq_true c23
      clear c23
      by_cases c24 : x3_1.length < 2199023255552
      rotate_left
      · rw [if_neg c24] at H
        exact absurd H (by simp)
      rw [if_pos c24] at H
      have LMc24 := zM c24
      clear c24
      generalize hy289 : ((x3_1 ++ [(⟨rdOf ByteArray.empty y266 x5_1, t273, t276⟩ : S49)]) : List (S49)) = y289 at H
      have Ny289 := zM hy289.symm
      clear hy289
      have H' := zM H
      clear H
      go_wp2_with (first | ((with_reducible refine zG Try.func43 11 #[.pointer (some ⟨g, 0, none⟩), .int .i64 5] ?_); (with_reducible refine (spec_l1Below.calls g s0_0 x1001_1 x1002_1 5 t269 t270 t271 w0 _ ?side1 ?side2 A6.1).mono ?_); (case side1 => exact zB6); (case side2 => exact zB7); rintro e w25 ⟨rfl, hi, hb, hk⟩; refine ⟨_, rfl, ?_⟩; replace HO_3 := zM (Kd.S_mono (Kd.S_keep (IsS104.apartS (show IsS104 w0 _ g s0_0 x1001_1 x1002_1 from zB6) (zS HO_3.1) (by decide)) hk (fun _ h => h.2)) (fun _ h => h.1)); replace HO_4 := zM (Kd.R_mono (Kd.R_keep (IsS104.apart (show IsS104 w0 _ g s0_0 x1001_1 x1002_1 from zB6) (zR HO_4.1) (by decide)) hk (fun _ h => h.2)) (fun _ h => h.1)); replace HK := zM (KeepBut.trans zB8 hk (.inl rfl)); replace HB := zM hb; replace HI0 := zM hi; clear hb hk hi) | ((with_reducible refine zG Try.func58 16 #[.pointer (some ⟨g, 0, none⟩)] ?_); (with_reducible refine (spec_l27DrawPart.calls k1 g s0_0 t270 t271 t272 t273 t276 t279 t280 w0 _ ?side1 ?side2 A8.1).mono ?_); (case side1 => exact zB6); (case side2 => exact zB7); rintro e w26 ⟨v274, v277, rfl, ho0, ho1, hi, hb, hk⟩; refine ⟨_, rfl, ?_⟩; replace HO_3 := zM (Kd.S_mono (Kd.S_told (Kd.S_told (Kd.S_oldK (IsS104.apartS (show IsS104 w0 _ g s0_0 t270 t271 from zB6) (zS HO_3.1) (by decide)) hk) (Kd.R_base ho0)) (Kd.R_base ho1)) (fun _ h_ => h_.1)); replace HO_4 := zM (Kd.R_mono (Kd.R_keep (IsS104.apart (show IsS104 w0 _ g s0_0 t270 t271 from zB6) (zR HO_4.1) (by decide)) hk (fun _ h => h.2)) (fun _ h => h.1)); have HO275 := zM (Kd.R_lower ho0 (keep_size (w := w) (g := g) (row := none) zB8)); have HO278 := zM (Kd.R_lower ho1 (keep_size (w := w) (g := g) (row := none) zB8)); replace HK := zM (KeepBut.trans zB8 hk (.inl rfl)); replace HB := zM hb; replace HI0 := zM hi; clear hb hk hi ho0 ho1) | ((with_reducible refine zBx 6 49 #[.string (⟨#[]⟩ : ByteArray), .slice none 0 0, .slice none 0 0] ?_); intro gb281 hg w27 hbox hb; replace HO_3 := zM (Kd.S_below (Kd.S_elderB (zS HO_3.1) gb281 (Nat.le_of_eq hg.symm)) hb); replace HO_4 := zM (Kd.R_below (zR HO_4.1) hb); replace HO275 := zM (Kd.R_below (zR HO275.1) hb); replace HO278 := zM (Kd.R_below (zR HO278.1) hb); replace HB := zM (below_step zB7 hb); have BK281 := zM hbox; have GW281 := zM ((by rw [hg]; exact (keep_size (w := w) (g := g) (row := none) zB8) : w.heap.size ≤ gb281)); have GE281 := zM ((Nat.le_trans HW0.1 (by rw [hg]; exact (keep_size (w := w) (g := g) (row := none) zB8) : w.heap.size ≤ gb281) : w0.heap.size ≤ gb281)); replace HK := zM (KeepBut.trans zB8 (KeepBut.of_below hb g none) (.inl rfl)); have NB0_281 := zM ((by rw [hg]; exact Nat.ne_of_lt (IsS104.lt (show IsS104 w0 _ g s0_0 t279 t280 from zB6)) : g ≠ gb281)); have NB281_0 := zM ((by rw [hg]; exact Nat.ne_of_gt (IsS104.lt (show IsS104 w0 _ g s0_0 t279 t280 from zB6)) : gb281 ≠ g)); replace HI0 := zM (IsS104.below zB6 hb); clear hb hbox hg; have hnb28 := NB281_0.1; have hnc28 := NB0_281.1; have hcz29 := zc_3 (w := w27) BK281.1; obtain ⟨Ao30, co30, eo30⟩ := Kd.R_slice HO275.1; subst eo30; obtain ⟨Ao31, co31, eo31⟩ := Kd.R_slice HO278.1; subst eo31) | ((with_reducible refine zG Try.func41 18 #[.pointer (some ⟨g, 0, none⟩), .int .i64 8] ?_); (with_reducible refine (spec_l1Once.calls g s0_0 t279 t280 8 false t283 t284 w0 _ ?side1 ?side2 A9.1).mono ?_); (case side1 => exact zB33); (case side2 => exact zB7); rintro e w32 ⟨rfl, hi, hb, hk⟩; refine ⟨_, rfl, ?_⟩; replace HO_3 := zM (Kd.S_mono (Kd.S_keep (IsS104.apartS (show IsS104 w0 _ g s0_0 t279 t280 from zB33) (by refine zrS ?_; exact (Kd.S_mono (zfS (zfS (zfS (Kd.S_mono HO_3.1 (fun k_ hk => (⟨hk, hk.2⟩ : _ ∧ k_ ≠ gb281)))))) (fun _ h_ => h_.1))) (by decide)) hk (fun _ h => h.2)) (fun _ h => h.1)); replace HO_4 := zM (Kd.R_mono (Kd.R_keep (IsS104.apart (show IsS104 w0 _ g s0_0 t279 t280 from zB33) (by refine zrR ?_; exact (Kd.R_mono (zfR (zfR (zfR (Kd.R_types HO_4.1 BK281.1 (by decide))))) (fun _ h_ => h_.1))) (by decide)) hk (fun _ h => h.2)) (fun _ h => h.1)); replace HO275 := zM (Kd.R_mono (Kd.R_keep (IsS104.apart (show IsS104 w0 _ g s0_0 t279 t280 from zB33) (by refine zrR ?_; exact (Kd.R_mono (zfR (zfR (zfR (Kd.R_types HO275.1 BK281.1 (by decide))))) (fun _ h_ => h_.1))) (by decide)) hk (fun _ h => h.2)) (fun _ h => h.1)); replace HO278 := zM (Kd.R_mono (Kd.R_keep (IsS104.apart (show IsS104 w0 _ g s0_0 t279 t280 from zB33) (by refine zrR ?_; exact (Kd.R_mono (zfR (zfR (zfR (Kd.R_types HO278.1 BK281.1 (by decide))))) (fun _ h_ => h_.1))) (by decide)) hk (fun _ h => h.2)) (fun _ h => h.1)); replace BK281 := zM (KeepBut.blk hk (g' := gb281) (o := .cells #[.string t272, .slice Ao30 t273.length co30, .slice Ao31 t276.length co31] 49 (0, 0)) (by exact zp3 (zK BK281.1)) NB281_0.1 (by simp)); replace HK := zM (KeepBut.trans zB8 hk (.inl rfl)); replace HB := zM hb; replace HI0 := zM hi; clear hb hk hi; obtain ⟨Ao33, co33, eo33⟩ := Kd.R_slice HO_4.1; subst eo33; obtain ⟨p288, q288, ad288, e288, hx288_0⟩ := zRd (Kd.at_string (Kd.R_reads' HO_4.1).2.2 x5_1); cases e288; have hcz34 := zc_3 (w := w32) BK281.1) | ((with_reducible refine gate_store (t := 9) (p := 24) rfl ?_); refine store_event (t := 9) (p := 24) (v := ?vo_w35) (w1 := (w32.setCell ⟨gb281, 0, none⟩ (.string (rdOf ByteArray.empty y266 x5_1)))) ?hg ?ho ?hn ?hr ?_; (case ho => rfl); (case hg => rfl); (case hn => rfl); (case hr => exact zHH); intro w35 hw; have n0_ : Aside0 (Kd.S k49 49 w35 w.heap.size (fun k_ => some k_ ≠ (.slice Ao30 t273.length co30 : Value).ownBlock ∧ some k_ ≠ (.slice Ao31 t276.length co31 : Value).ownBlock ∧ k_ ≠ gb281) u3 x3_1) := ⟨(by rw [hw]; exact (by refine zrS ?_; exact Kd.S_mono (zfS (Kd.S_mono HO_3.1 (fun k_ hk => (⟨hk, hk.2⟩ : _ ∧ k_ ≠ gb281)))) (fun _ hk => ⟨hk.1.1.1.2, ⟨hk.1.1.2, hk.1.2⟩⟩)))⟩; have n1_ : Aside0 (Kd.R Kd.string 9 w35 w.heap.size (fun _ => True) (.slice (some ad288) y266.length co33) y266) := ⟨(by rw [hw]; exact (by refine zrR ?_; exact Kd.R_mono (zfR (Kd.R_types HO_4.1 BK281.1 (by decide))) (fun _ hk => trivial)))⟩; have n2_ : Aside0 (Kd.R k57 57 w35 w.heap.size (fun _ => True) (.slice Ao30 t273.length co30) t273) := ⟨(by rw [hw]; exact (by refine zrR ?_; exact Kd.R_mono (zfR (Kd.R_types HO275.1 BK281.1 (by decide))) (fun _ hk => trivial)))⟩; have n3_ : Aside0 (Kd.R k61 61 w35 w.heap.size (fun _ => True) (.slice Ao31 t276.length co31) t276) := ⟨(by rw [hw]; exact (by refine zrR ?_; exact Kd.R_mono (zfR (Kd.R_types HO278.1 BK281.1 (by decide))) (fun _ hk => trivial)))⟩; have n4_ : Aside0 (w35.heap[gb281]? = some (.cells #[.string (rdOf ByteArray.empty y266 x5_1), .slice Ao30 t273.length co30, .slice Ao31 t276.length co31] 49 (0, 0))) := ⟨(by rw [hw]; exact zPq)⟩; have n5_ : Aside0 (IsS104 w0 w35 g s0_0 t283 t284) := ⟨(by rw [hw]; exact zB33)⟩; have n6_ : Aside0 (KeepBut w w35 g none) := ⟨(by rw [hw]; exact zB8)⟩; have n7_ : Aside0 (Below w0.heap.size w0 w35) := ⟨(by rw [hw]; exact zB7)⟩; clear hw; clear HO_3; clear HO_4; clear HO275; clear HO278; clear BK281; clear HI0; clear HK; clear HB; have HO_3 := n0_; have HO_4 := n1_; have HO275 := n2_; have HO278 := n3_; have BK281 := n4_; have HI0 := n5_; have HK := n6_; have HB := n7_; clear n0_ n1_ n2_ n3_ n4_ n5_ n6_ n7_; have hcz36 := zc_3 (w := w35) BK281.1) | ((with_reducible refine gate_builtin (b := .append) (xs := #[.tmp 25, .tmp 27]) rfl ?_); at_builtin; refine Kd.S_append k49 w.heap.size rfl (.tmp 25) (.tmp 27) 42 49 (.agg #[(.string ⟨#[]⟩), (.slice none 0 0), (.slice none 0 0)]) 64 rfl Try.underlying42 info49 rfl (by decide) (by omega) u3 x3_1 (⟨rdOf ByteArray.empty y266 x5_1, t273, t276⟩ : S49) [.string (rdOf ByteArray.empty y266 x5_1), .slice Ao30 t273.length co30, .slice Ao31 t276.length co31] (fun k_ => k_ ≠ gb281) (fun k_ => some k_ = (.slice Ao30 t273.length co30 : Value).ownBlock ∨ some k_ = (.slice Ao31 t276.length co31 : Value).ownBlock) rfl rfl ?aP (fun k_ hk_ => hk_.elim (fun h_ => ((Kd.R_mono (ok' := fun k_ => ((fun k_ => k_ ≠ gb281)) k_ ∧ some k_ ≠ (u3 : Value).ownBlock) (Kd.R_types (Kd.R_apart' (HO275.1) (Kd.S_typed HO_3.1) (by decide)) BK281.1 (by decide)) (fun k_ hk => ⟨hk.2, hk.1.2⟩))).1 k_ h_.symm) (fun h_ => ((Kd.R_mono (ok' := fun k_ => ((fun k_ => k_ ≠ gb281)) k_ ∧ some k_ ≠ (u3 : Value).ownBlock) (Kd.R_types (Kd.R_apart' (HO278.1) (Kd.S_typed HO_3.1) (by decide)) BK281.1 (by decide)) (fun k_ hk => ⟨hk.2, hk.1.2⟩))).1 k_ h_.symm)) ?aF ?aO (Below.refl _ _) ?aS ?aL ?_; (case aP => exact k49_mkM _ _ _ (⟨rdOf ByteArray.empty y266 x5_1, t273, t276⟩ : S49) (Kd.R_mono (Kd.R_tight rfl (Kd.R_mono (ok' := fun k_ => ((fun k_ => k_ ≠ gb281)) k_ ∧ some k_ ≠ (u3 : Value).ownBlock) (Kd.R_types (Kd.R_apart' (HO275.1) (Kd.S_typed HO_3.1) (by decide)) BK281.1 (by decide)) (fun k_ hk => ⟨hk.2, hk.1.2⟩))) (fun _ h_ => Or.inl h_)) (Kd.R_mono (Kd.R_tight rfl (Kd.R_mono (ok' := fun k_ => ((fun k_ => k_ ≠ gb281)) k_ ∧ some k_ ≠ (u3 : Value).ownBlock) (Kd.R_types (Kd.R_apart' (HO278.1) (Kd.S_typed HO_3.1) (by decide)) BK281.1 (by decide)) (fun k_ hk => ⟨hk.2, hk.1.2⟩))) (fun _ h_ => Or.inr (h_)))); (case aF => exact (fun k_ hk => Kd.freshB (g := gb281) (o := .cells #[.string (rdOf ByteArray.empty y266 x5_1), .slice Ao30 t273.length co30, .slice Ao31 t276.length co31] 49 (0, 0)) (zK BK281.1) k_ hk)); (case aO => exact (by refine zrS ?_; exact Kd.S_mono HO_3.1 (fun k_ hk => ⟨hk.2.2, fun e_ => e_.elim (fun h_ => hk.1 h_) (fun h_ => hk.2.1 h_)⟩))); (case aS => exact (keep_size (w := w) (g := g) (row := none) zB8)); (case aL => have := LMc24.out; omega); intro v290 w37 ho hb hg hat; rw [← Ny289.1] at ho; replace HO_4 := zM (Kd.R_over' (zR HO_4.1) (Kd.S_typed (zS HO_3.1)) (by decide) hg); replace BK281 := zM (zg BK281.1 hg (Kd.S_away HO_3.1 (fun _ hk => hk.2.2))); replace HB := zM (below_weaken zB7 HL.1 hb); replace HI0 := zM (IsS104.grown (show IsS104 w0 _ g s0_0 t283 t284 from zB33) hg (IsS104.own_neS HI0.1 HO_3.1 (by decide))); replace HK := zM (KeepBut.trans zB8 (KeepBut.of_grown hg g) (Kd.S_base2 HO_3.1)); have HO291 := zM ho; clear HO_3 HO275 HO278; clear ho hb hg hat))
      go_roundg k1
      case measure => have := HK1.1; omega
      case rel => exact ⟨(y289), (wrap64 (x5_1 + 1)), (t283), (t284), zJJ, H', ⟨by have := HK1.1; omega⟩, ⟨by refine zrS ?_; exact Kd.S_mono HO291.1 (fun _ hk => trivial)⟩, ⟨zR HO_4.1⟩, ⟨zB33⟩, ⟨zB8⟩, ⟨zB7⟩⟩

/-! ### spec_DrawLink: function 17 -/
def spec_DrawLink.f (k : Nat) (l0 : List Int) : Option ((List (S49))) := (spec_l1New.f k l0).bind fun bt292 => ((spec_l27DrawList.f k bt292.1 bt292.2.1 bt292.2.2).bind fun bt296 => (some bt296.1))
theorem spec_DrawLink.mono : ∀ a0 k, LeO (spec_DrawLink.f k a0) (spec_DrawLink.f (k + 1) a0) := by
  intro a0 k
  unfold spec_DrawLink.f
  have mo0 := @spec_l1New.mono
  have mo1 := @spec_l27DrawList.mono
  exact zL
theorem spec_DrawLink.calls (k : Nat) (A0 : Option Addr) (c0 : Nat) (l0 : List Int) (r : List (S49)) (w : World) (hr0 : Kd.C (Kd.int .u8) w A0 l0.length l0) (hc0 : l0.length ≤ c0) (h : spec_DrawLink.f k l0 = some r) :
    Calls Try.prog 17 #[.slice A0 l0.length c0] w fun e w' => ∃ v0_ : Value, e = .returned (v0_) ∧ Kd.S k49 49 w' w.heap.size (fun _ => True) v0_ r ∧ Below w.heap.size w w' := by
  have HR0 := zM hr0
  have HC0 := zM hc0
  clear hr0 hc0
  have HB := zM (Below.refl w.heap.size w)
  unfold spec_DrawLink.f at h
  have H := h
  clear h
  replace H := zO H
  obtain ⟨⟨t292, t293, t294⟩, A2, H⟩ := H
  try dsimp only at H
  replace H := zO H
  obtain ⟨⟨t296, t299, t300⟩, A3, H⟩ := H
  try dsimp only at H
  obtain rfl := Option.some.inj H
  go_enter Try.func17, Try.ntmps17
  go_wp2_with (first | ((with_reducible refine zG Try.func32 4 #[.slice A0 l0.length c0] ?_); (with_reducible refine (spec_l1New.calls k _ _ l0 t292 t293 t294 w _ ?side1 ?side2 ?side3 A2.1).mono ?_); (case side1 => exact zB0); (case side2 => exact HR0.1); (case side3 => exact HC0.1); rintro e w4 ⟨g295, rfl, hi, hb, hb2⟩; refine ⟨_, rfl, ?_⟩; replace HB := zM hb; have HI295 := zM hi; clear hb hb2 hi) | ((with_reducible refine zG Try.func53 5 #[.pointer (some ⟨g295, 0, none⟩)] ?_); (with_reducible refine (spec_l27DrawList.calls k g295 t292 t293 t294 t296 t299 t300 w _ ?side1 ?side2 A3.1).mono ?_); (case side1 => exact zB36); (case side2 => exact zB37); rintro e w5 ⟨v297, rfl, ho0, hi, hb, hk⟩; refine ⟨_, rfl, ?_⟩; have HO298 := zM (Kd.S_lower ho0 (below_size zB37)); replace HB := zM hb; replace HI295 := zM hi; clear hb hk hi ho0))
  go_ret
  exact ⟨_, zE, zS HO298.1, zB37⟩

/-! ### impl_from: function 37 -/
def impl_from.f (a0 : Int) (a1 : Int) (a2 : Int) : Option (Bool) := if a0 ≥ a1 then (some (decide (a0 ≤ a2))) else (some false)
theorem impl_from.calls (a0 : Int) (a1 : Int) (a2 : Int) (r : Bool) (w : World) (h : impl_from.f a0 a1 a2 = some r) :
    Calls Try.prog 37 #[.int .i64 a0, .int .i64 a1, .int .i64 a2] w fun e w' => e = .returned (.bool r) ∧ Drawn0 w w' := by
  unfold impl_from.f at h
  have H := h
  clear h
  by_cases c4 : a0 ≥ a1
  · rw [if_pos c4] at H
    have c4b0 := decide_eq_true c4
    clear c4
    obtain rfl := Option.some.inj H
    go_enter Try.func37, Try.ntmps37
    go_wp2
    go_ret
    exact ⟨zJJ, zDD⟩
  rw [if_neg c4] at H
  have c4b0 := decide_eq_false c4
  clear c4
  obtain rfl := Option.some.inj H
  go_enter Try.func37, Try.ntmps37
  go_wp2
  go_ret
  exact ⟨zJJ, zDD⟩

/-! ### impl_nameOk: function 60 -/
def impl_nameOk.l0 : Nat → ByteArray → Int → Int → Option (Bool)
  | 0, _, _, _ => none
  | k + 1, x0, x5, x6 => if x6 < x5 then (if 0 ≤ x6 then (if x6 < (x0.size : Int) then (if (bt x0 x6) < 97 then (some false) else (if (bt x0 x6) > 122 then (some false) else (impl_nameOk.l0 k x0 x5 (wrap64 (x6 + 1))))) else (none)) else (none)) else ((impl_from.f (x0.size : Int) 1 8).bind fun t301 => (some t301))
def impl_nameOk.f (k : Nat) (a0 : ByteArray) : Option (Bool) := impl_nameOk.l0 k a0 (a0.size : Int) 0
theorem impl_nameOk.mono_l : ∀ k, (∀ y0 y1 y2, LeO (impl_nameOk.l0 k y0 y1 y2) (impl_nameOk.l0 (k + 1) y0 y1 y2))
  | 0 => fun _ _ _ r h => by simp [impl_nameOk.l0] at h
  | k + 1 => by
    have ih0 := impl_nameOk.mono_l k
    · intro y0 y1 y2
      unfold impl_nameOk.l0
      exact zL
theorem impl_nameOk.mono : ∀ a0 k, LeO (impl_nameOk.f k a0) (impl_nameOk.f (k + 1) a0) := by
  intro a0 k
  have ih0 := impl_nameOk.mono_l k
  unfold impl_nameOk.f
  exact zL
theorem impl_nameOk.calls (k : Nat) (a0 : ByteArray) (r : Bool) (w : World) (h : impl_nameOk.f k a0 = some r) :
    Calls Try.prog 60 #[.string a0] w fun e w' => e = .returned (.bool r) ∧ Drawn0 w w' := by
  unfold impl_nameOk.f at h
  have H := h
  clear h
  have H' := zM H
  clear H
  go_enter Try.func60, Try.ntmps60
  go_wp2
  go_loopg [6] k (fun kq v6 w' => ∃ (x6_1 : Int), v6 = .int .i64 x6_1 ∧ Aside0 (impl_nameOk.l0 kq a0 (a0.size : Int) x6_1 = some r) ∧ Aside0 (kq ≤ k) ∧ Drawn0 w w')
  case atStart => exact ⟨(0), zJJ, H', ⟨Nat.le_refl _⟩, zDD⟩
  case round =>
    clear H'
    obtain ⟨x6_1, rfl, HA, HK1, ⟨m1, rfl⟩⟩ := hrel
    cases gk with
    | zero => exact absurd HA.1 (by simp [impl_nameOk.l0])
    | succ k1 =>
      have H := HA.1
      clear HA
      simp only [impl_nameOk.l0] at H
      by_cases c2 : x6_1 < (a0.size : Int)
      rotate_left
      · rw [if_neg c2] at H
        have c2b0 := decide_eq_false c2
        clear c2
        replace H := zO H
        obtain ⟨t301, A9, H⟩ := H
        obtain rfl := Option.some.inj H
        go_wp2_with (first | ((with_reducible refine zG Try.func37 22 #[.int .i64 (a0.size : Int), .int .i64 1, .int .i64 8] ?_); (with_reducible refine (impl_from.calls (a0.size : Int) 1 8 t301 _ A9.1).mono ?_); rintro e w' ⟨rfl, ⟨nd, rfl⟩⟩; refine ⟨_, rfl, ?_⟩))
        go_ret
        exact ⟨zJJ, zDD⟩
      rw [if_pos c2] at H
      have c2b0 := decide_eq_true c2
      clear c2
      by_cases c3 : 0 ≤ x6_1
      rotate_left
      · rw [if_neg c3] at H
        exact absurd H (by simp)
      rw [if_pos c3] at H
      have c3b0 := decide_eq_true c3
      clear c3
      by_cases c4 : x6_1 < (a0.size : Int)
      rotate_left
      · rw [if_neg c4] at H
        exact absurd H (by simp)
      rw [if_pos c4] at H
      have c4b0 := decide_eq_true c4
      clear c4
      by_cases c6 : (bt a0 x6_1) < 97
      · rw [if_pos c6] at H
        have c6b0 := decide_eq_true c6
        clear c6
        obtain rfl := Option.some.inj H
        have p5 : 0 ≤ (x6_1 : Int) := zA
        have q5 : x6_1 < (a0.size : Int) := zA
        have hx5 := bt_at a0 x6_1
        replace p5 := eq_true p5
        replace q5 := eq_true q5
        go_wp2
        go_ret
        exact ⟨zJJ, zDD⟩
      rw [if_neg c6] at H
      have c6b0 := decide_eq_false c6
      clear c6
      by_cases c8 : (bt a0 x6_1) > 122
      · rw [if_pos c8] at H
        have c8b0 := decide_eq_true c8
        clear c8
        obtain rfl := Option.some.inj H
        have p5 : 0 ≤ (x6_1 : Int) := zA
        have q5 : x6_1 < (a0.size : Int) := zA
        have hx5 := bt_at a0 x6_1
        replace p5 := eq_true p5
        replace q5 := eq_true q5
        have p7 : 0 ≤ (x6_1 : Int) := zA
        have q7 : x6_1 < (a0.size : Int) := zA
        have hx7 := bt_at a0 x6_1
        replace p7 := eq_true p7
        replace q7 := eq_true q7
        go_wp2
        go_ret
        exact ⟨zJJ, zDD⟩
      rw [if_neg c8] at H
      have c8b0 := decide_eq_false c8
      clear c8
      have H' := zM H
      clear H
      have p5 : 0 ≤ (x6_1 : Int) := zA
      have q5 : x6_1 < (a0.size : Int) := zA
      have hx5 := bt_at a0 x6_1
      replace p5 := eq_true p5
      replace q5 := eq_true q5
      have p7 : 0 ≤ (x6_1 : Int) := zA
      have q7 : x6_1 < (a0.size : Int) := zA
      have hx7 := bt_at a0 x6_1
      replace p7 := eq_true p7
      replace q7 := eq_true q7
      go_wp2
      go_roundg k1
      case measure => have := HK1.1; omega
      case rel => exact ⟨(wrap64 (x6_1 + 1)), zJJ, H', ⟨by have := HK1.1; omega⟩, zDD⟩

-- NOT PRINTED: function 95 (impl_Ins_95)

-- NOT PRINTED: function 61 (impl_Ins_61)

/-! ### impl_form: function 96 -/
mutual
def impl_form.j0 : Nat → Int → Bool → Option (ByteArray × Bool)
  | 0, _, _ => none
  | k + 1, x4, x7 => if x7 = true then (some ((⟨#[82, 65, 66]⟩ : ByteArray), true)) else (if x4 = 3 then (impl_form.j1 k x4 (x4 == 3)) else (impl_form.j1 k x4 (x4 == 4)))
def impl_form.j1 : Nat → Int → Bool → Option (ByteArray × Bool)
  | 0, _, _ => none
  | k + 1, x4, x10 => if x10 = true then (some ((⟨#[82, 65, 78]⟩ : ByteArray), true)) else (if x4 = 5 then (some ((⟨#[65, 66, 78]⟩ : ByteArray), true)) else (if x4 = 6 then (some ((⟨#[82, 65, 66, 78]⟩ : ByteArray), true)) else (if x4 = 7 then (some ((⟨#[65, 78]⟩ : ByteArray), true)) else (if x4 = 8 then (some ((⟨#[78]⟩ : ByteArray), true)) else (if x4 = 9 then (some ((⟨#[]⟩ : ByteArray), true)) else (some ((⟨#[]⟩ : ByteArray), false)))))))
end
def impl_form.f (k : Nat) (a0 : Int) : Option (ByteArray × Bool) := if a0 = 1 then (some ((⟨#[82, 78]⟩ : ByteArray), true)) else (if a0 = 2 then (impl_form.j0 k a0 (a0 == 2)) else (impl_form.j0 k a0 (a0 == 10)))
theorem impl_form.mono_l : ∀ k, (∀ y0 y1, LeO (impl_form.j0 k y0 y1) (impl_form.j0 (k + 1) y0 y1)) ∧ (∀ y0 y1, LeO (impl_form.j1 k y0 y1) (impl_form.j1 (k + 1) y0 y1))
  | 0 => ⟨fun _ _ r h => by simp [impl_form.j0] at h, fun _ _ r h => by simp [impl_form.j1] at h⟩
  | k + 1 => by
    obtain ⟨ih0, ih1⟩ := impl_form.mono_l k
    refine ⟨?_, ?_⟩
    · intro y0 y1
      unfold impl_form.j0
      exact zL
    · intro y0 y1
      unfold impl_form.j1
      exact zL
theorem impl_form.mono : ∀ a0 k, LeO (impl_form.f k a0) (impl_form.f (k + 1) a0) := by
  intro a0 k
  obtain ⟨ih0, ih1⟩ := impl_form.mono_l k
  unfold impl_form.f
  exact zL
theorem impl_form.calls (k : Nat) (a0 : Int) (r1 : ByteArray) (r2 : Bool) (w : World) (h : impl_form.f k a0 = some (r1, r2)) :
    Calls Try.prog 96 #[.int .i64 a0] w fun e w' => e = .returned (.tuple #[.string r1, .bool r2]) ∧ Drawn0 w w' := by
  unfold impl_form.f at h
  have H := h
  clear h
  by_cases c2 : a0 = 1
  · rw [if_pos c2] at H
    have c2b0 : (a0 == 1) = true := beq_iff_eq.mpr c2
    have c2b1 : (a0 != 1) = false := bne_eq_false_iff_eq.mpr c2
    clear c2
    simp only [Option.some.injEq, Prod.mk.injEq] at H
    obtain ⟨rfl, rfl⟩ := H
    go_enter Try.func96, Try.ntmps96
    go_wp2
    go_ret2
    exact ⟨zJJ, zDD⟩
  rw [if_neg c2] at H
  have c2b0 : (a0 == 1) = false := beq_eq_false_iff_ne.mpr c2
  have c2b1 : (a0 != 1) = true := bne_iff_ne.mpr c2
  have HC3 := zM H
  clear H
  go_enter Try.func96, Try.ntmps96
  go_upto_if 7 with (fail)
  go_cut [7] (fun v7 wc => ∃ (kq : Nat) (x7_2 : Bool), v7 = .bool x7_2 ∧ Aside0 (impl_form.j0 kq a0 x7_2 = some (r1, r2)) ∧ Aside0 (kq ≤ k) ∧ Drawn0 w wc)
  case first =>
    have H := HC3.1
    clear HC3
    by_cases c4 : a0 = 2
    rotate_left
    · rw [if_neg c4] at H
      have c4b0 : (a0 == 2) = false := beq_eq_false_iff_ne.mpr c4
      have c4b1 : (a0 != 2) = true := bne_iff_ne.mpr c4
      (first | rw [c4b0] | (simp only [i64_w, i32_w]; rw [c4b0]) | skip)
      have H' := zM H
      clear H
      go_wp2
      go_meet
      case rel => exact ⟨_, ((a0 == 10)), zJJ, H', ⟨by first | omega | exact Nat.le_refl _⟩, zDD⟩
    rw [if_pos c4] at H
    have c4b0 : (a0 == 2) = true := beq_iff_eq.mpr c4
    have c4b1 : (a0 != 2) = false := bne_eq_false_iff_eq.mpr c4
    clear c4
    (first | rw [c4b0] | (simp only [i64_w, i32_w]; rw [c4b0]) | skip)
    have H' := zM H
    clear H
    go_wp2
    go_meet
    case rel => exact ⟨_, ((a0 == 2)), zJJ, H', ⟨by first | omega | exact Nat.le_refl _⟩, zDD⟩
  case rest =>
    clear HC3
    obtain ⟨kq, x7_2, rfl, HA, HJ2, ⟨mc2, rfl⟩⟩ := hcut
    cases kq with
    | zero => exact absurd HA.1 (by simp [impl_form.j0])
    | succ kj2 =>
      have H := HA.1
      clear HA
      simp only [impl_form.j0] at H
      by_cases c5 : x7_2 = true
      · subst c5
        rw [if_pos rfl] at H
        simp only [Option.some.injEq, Prod.mk.injEq] at H
        obtain ⟨rfl, rfl⟩ := H
        go_wp2
        go_ret2
        exact ⟨zJJ, zDD⟩
      replace c5 := Bool.eq_false_iff.mpr c5
      subst c5
      rw [if_neg zF] at H
      have HC6 := zM H
      clear H
      go_upto_if 10 with (fail)
      go_cut [10] (fun v10 wc => ∃ (kq : Nat) (x10_5 : Bool), v10 = .bool x10_5 ∧ Aside0 (impl_form.j1 kq a0 x10_5 = some (r1, r2)) ∧ Aside0 (kq ≤ kj2) ∧ Drawn0 w wc)
      case first =>
        have H := HC6.1
        clear HC6
        by_cases c7 : a0 = 3
        rotate_left
        · rw [if_neg c7] at H
          have c7b0 : (a0 == 3) = false := beq_eq_false_iff_ne.mpr c7
          have c7b1 : (a0 != 3) = true := bne_iff_ne.mpr c7
          (first | rw [c7b0] | (simp only [i64_w, i32_w]; rw [c7b0]) | skip)
          have H' := zM H
          clear H
          go_wp2
          go_meet
          case rel => exact ⟨_, ((a0 == 4)), zJJ, H', ⟨by have := HJ2.1; first | omega | exact Nat.le_refl _⟩, zDD⟩
        rw [if_pos c7] at H
        have c7b0 : (a0 == 3) = true := beq_iff_eq.mpr c7
        have c7b1 : (a0 != 3) = false := bne_eq_false_iff_eq.mpr c7
        clear c7
        (first | rw [c7b0] | (simp only [i64_w, i32_w]; rw [c7b0]) | skip)
        have H' := zM H
        clear H
        go_wp2
        go_meet
        case rel => exact ⟨_, ((a0 == 3)), zJJ, H', ⟨by have := HJ2.1; first | omega | exact Nat.le_refl _⟩, zDD⟩
      case rest =>
        clear HC6
        obtain ⟨kq, x10_5, rfl, HA, HJ5, ⟨mc5, rfl⟩⟩ := hcut
        cases kq with
        | zero => exact absurd HA.1 (by simp [impl_form.j1])
        | succ kj5 =>
          have H := HA.1
          clear HA
          simp only [impl_form.j1] at H
          by_cases c8 : x10_5 = true
          · subst c8
            rw [if_pos rfl] at H
            simp only [Option.some.injEq, Prod.mk.injEq] at H
            obtain ⟨rfl, rfl⟩ := H
            go_wp2
            go_ret2
            exact ⟨zJJ, zDD⟩
          replace c8 := Bool.eq_false_iff.mpr c8
          subst c8
          rw [if_neg zF] at H
          by_cases c9 : a0 = 5
          · rw [if_pos c9] at H
            have c9b0 : (a0 == 5) = true := beq_iff_eq.mpr c9
            have c9b1 : (a0 != 5) = false := bne_eq_false_iff_eq.mpr c9
            clear c9
            simp only [Option.some.injEq, Prod.mk.injEq] at H
            obtain ⟨rfl, rfl⟩ := H
            go_wp2
            go_ret2
            exact ⟨zJJ, zDD⟩
          rw [if_neg c9] at H
          have c9b0 : (a0 == 5) = false := beq_eq_false_iff_ne.mpr c9
          have c9b1 : (a0 != 5) = true := bne_iff_ne.mpr c9
          by_cases c10 : a0 = 6
          · rw [if_pos c10] at H
            have c10b0 : (a0 == 6) = true := beq_iff_eq.mpr c10
            have c10b1 : (a0 != 6) = false := bne_eq_false_iff_eq.mpr c10
            clear c10
            simp only [Option.some.injEq, Prod.mk.injEq] at H
            obtain ⟨rfl, rfl⟩ := H
            go_wp2
            go_ret2
            exact ⟨zJJ, zDD⟩
          rw [if_neg c10] at H
          have c10b0 : (a0 == 6) = false := beq_eq_false_iff_ne.mpr c10
          have c10b1 : (a0 != 6) = true := bne_iff_ne.mpr c10
          by_cases c11 : a0 = 7
          · rw [if_pos c11] at H
            have c11b0 : (a0 == 7) = true := beq_iff_eq.mpr c11
            have c11b1 : (a0 != 7) = false := bne_eq_false_iff_eq.mpr c11
            clear c11
            simp only [Option.some.injEq, Prod.mk.injEq] at H
            obtain ⟨rfl, rfl⟩ := H
            go_wp2
            go_ret2
            exact ⟨zJJ, zDD⟩
          rw [if_neg c11] at H
          have c11b0 : (a0 == 7) = false := beq_eq_false_iff_ne.mpr c11
          have c11b1 : (a0 != 7) = true := bne_iff_ne.mpr c11
          by_cases c12 : a0 = 8
          · rw [if_pos c12] at H
            have c12b0 : (a0 == 8) = true := beq_iff_eq.mpr c12
            have c12b1 : (a0 != 8) = false := bne_eq_false_iff_eq.mpr c12
            clear c12
            simp only [Option.some.injEq, Prod.mk.injEq] at H
            obtain ⟨rfl, rfl⟩ := H
            go_wp2
            go_ret2
            exact ⟨zJJ, zDD⟩
          rw [if_neg c12] at H
          have c12b0 : (a0 == 8) = false := beq_eq_false_iff_ne.mpr c12
          have c12b1 : (a0 != 8) = true := bne_iff_ne.mpr c12
          by_cases c13 : a0 = 9
          rotate_left
          · rw [if_neg c13] at H
            have c13b0 : (a0 == 9) = false := beq_eq_false_iff_ne.mpr c13
            have c13b1 : (a0 != 9) = true := bne_iff_ne.mpr c13
            simp only [Option.some.injEq, Prod.mk.injEq] at H
            obtain ⟨rfl, rfl⟩ := H
            go_wp2
            go_ret2
            exact ⟨zJJ, zDD⟩
          rw [if_pos c13] at H
          have c13b0 : (a0 == 9) = true := beq_iff_eq.mpr c13
          have c13b1 : (a0 != 9) = false := bne_eq_false_iff_eq.mpr c13
          clear c13
          simp only [Option.some.injEq, Prod.mk.injEq] at H
          obtain ⟨rfl, rfl⟩ := H
          go_wp2
          go_ret2
          exact ⟨zJJ, zDD⟩

-- NOT PRINTED: function 97 (impl_Ins_place)

/-! ### impl_InsOk: function 63 -/
def placeOff (c : Int) : Nat := if c = 82 then 1 else if c = 65 then 2 else if c = 66 then 3 else 4
theorem place_calls (g : Nat) (c : Int) (w : World) :
    Calls Try.prog 97 #[.pointer (some ⟨g, 0, none⟩), .int .u8 c] w fun e w' => e = .returned (.pointer (some ⟨g, placeOff c, none⟩)) ∧ w' = w := by
  by_cases c1 : c = 82
  · have e1 : (c == 82) = true := beq_iff_eq.mpr c1
    have ho : placeOff c = 1 := by simp [placeOff, c1]
    have Ho := zM ho
    clear c1 ho
    go_enter Try.func97, Try.ntmps97
    go_wp2
    go_ret
    exact ⟨congrArg (fun o => Ending.returned (Value.pointer (some ⟨g, o, none⟩))) Ho.out.symm, rfl⟩
  have e1 : (c == 82) = false := beq_eq_false_iff_ne.mpr c1
  by_cases c2 : c = 65
  · have e2 : (c == 65) = true := beq_iff_eq.mpr c2
    have ho : placeOff c = 2 := by simp [placeOff, c2]
    have Ho := zM ho
    clear c1 c2 ho
    go_enter Try.func97, Try.ntmps97
    go_wp2
    go_ret
    exact ⟨congrArg (fun o => Ending.returned (Value.pointer (some ⟨g, o, none⟩))) Ho.out.symm, rfl⟩
  have e2 : (c == 65) = false := beq_eq_false_iff_ne.mpr c2
  by_cases c3 : c = 66
  · have e3 : (c == 66) = true := beq_iff_eq.mpr c3
    have ho : placeOff c = 3 := by simp [placeOff, c3]
    have Ho := zM ho
    clear c1 c2 c3 ho
    go_enter Try.func97, Try.ntmps97
    go_wp2
    go_ret
    exact ⟨congrArg (fun o => Ending.returned (Value.pointer (some ⟨g, o, none⟩))) Ho.out.symm, rfl⟩
  have e3 : (c == 66) = false := beq_eq_false_iff_ne.mpr c3
  have ho : placeOff c = 4 := by simp [placeOff, c1, c2, c3]
  have Ho := zM ho
  clear c1 c2 c3 ho
  go_enter Try.func97, Try.ntmps97
  go_wp2
  go_ret
  exact ⟨congrArg (fun o => Ending.returned (Value.pointer (some ⟨g, o, none⟩))) Ho.out.symm, rfl⟩

/-- The five numbers, one of them put. -/
def insPut (c : Int) (x s : Int × Int × Int × Int × Int) : Int × Int × Int × Int × Int :=
  if c = 82 then (s.1, x.2.1, s.2.2.1, s.2.2.2.1, s.2.2.2.2) else if c = 65 then (s.1, s.2.1, x.2.2.1, s.2.2.2.1, s.2.2.2.2) else if c = 66 then (s.1, s.2.1, s.2.2.1, x.2.2.2.1, s.2.2.2.2) else (s.1, s.2.1, s.2.2.1, s.2.2.2.1, x.2.2.2.2)
def insCells (s : Int × Int × Int × Int × Int) : Array Value := #[.int .i64 s.1, .int .i64 s.2.1, .int .i64 s.2.2.1, .int .i64 s.2.2.2.1, .int .i64 s.2.2.2.2]
def insPick (x : Int × Int × Int × Int × Int) (c : Int) : Int := if c = 82 then x.2.1 else if c = 65 then x.2.2.1 else if c = 66 then x.2.2.2.1 else x.2.2.2.2
theorem insCells_get (x : Int × Int × Int × Int × Int) (c : Int) : (insCells x)[placeOff c]? = some (.int .i64 (insPick x c)) := by
  unfold insCells placeOff insPick; split <;> (try split) <;> (try split) <;> rfl
theorem insCells_put (x s : Int × Int × Int × Int × Int) (c : Int) : (insCells s).setIfInBounds (placeOff c) (.int .i64 (insPick x c)) = insCells (insPut c x s) := by
  unfold insCells placeOff insPick insPut; split <;> (try split) <;> (try split) <;> rfl
def insFold (s : ByteArray) (x : Int × Int × Int × Int × Int) (n : Nat) : Int × Int × Int × Int × Int := (List.range n).foldl (fun a (i : Nat) => insPut (bt s (i : Int)) x a) (x.1, 0, 0, 0, 0)

theorem insFold_succ (s : ByteArray) (x : Int × Int × Int × Int × Int) (n : Nat) : insFold s x (n + 1) = insPut (bt s (n : Int)) x (insFold s x n) := by
  unfold insFold; rw [List.range_succ, List.foldl_append]; rfl
theorem insOk_calls (k : Nat) (x0 x1 x2 x3 x4 : Int) (s : ByteArray) (ok : Bool) (w : World) (hs : s.size ≤ 4) (hf : impl_form.f k x0 = some (s, ok)) (y0 y1 y2 y3 y4 : Int) (hy : insFold s (x0, x1, x2, x3, x4) s.size = (y0, y1, y2, y3, y4)) (b1 b2 b3 b4 : Bool) (h1 : impl_from.f x1 0 3 = some b1) (h2 : impl_from.f x2 0 3 = some b2) (h3 : impl_from.f x3 0 3 = some b3) (h4 : impl_from.f x4 0 63 = some b4) :
    Calls Try.prog 63 #[.agg #[.int .i64 x0, .int .i64 x1, .int .i64 x2, .int .i64 x3, .int .i64 x4]] w fun e w' => e = .returned (.bool (ok && ((y0 == x0 && (y1 == x1 && (y2 == x2 && (y3 == x3 && (y4 == x4))))) && (b1 && (b2 && (b3 && b4)))))) ∧ Below w.heap.size w w' := by
  have hu57 := Try.underlying56
  have HF := zM hf
  have HY := zM hy
  have F1 := zM h1
  have F2 := zM h2
  have F3 := zM h3
  have F4 := zM h4
  clear hf hy h1 h2 h3 h4
  have HB := zM (Below.refl w.heap.size w)
  go_enter Try.func63, Try.ntmps63
  go_wp2_with (first
    | ((with_reducible refine zBx 1 57 #[.int .i64 x0, .int .i64 x1, .int .i64 x2, .int .i64 x3, .int .i64 x4] ?_); intro g1 hg w1 hbox hb; have BK1 := zM hbox; have HB1 := zM (below_step HB.1 hb); have GE1 := zM (by rw [hg]; exact Nat.le_refl _ : w.heap.size ≤ g1); clear hb hbox hg; have hcz0 : w1.cell? ⟨g1, 0, none⟩ = some (.int .i64 x0) := (blk_cell BK1.1 0).trans rfl)
    | ((with_reducible refine zBx 5 57 #[.int .i64 0, .int .i64 0, .int .i64 0, .int .i64 0, .int .i64 0] ?_); intro g2 hg w2 hbox hb; have hne := zM (by rw [hg]; exact Nat.ne_of_lt (blk_lt (blk_drewN BK1.1 _)) : g1 ≠ g2); have BK2 := zM hbox; have HB2 := zM (below_step zB38 hb); have BK1' := zM (blk_below (zJ BK1.1) hb); have GE2 := zM (by rw [hg]; exact below_size zB38 : w.heap.size ≤ g2); clear hb hbox hg BK1 HB1 HB; have hcy0 := (blk_cell BK2.1 0).trans rfl; have hcy1 := (blk_cell BK2.1 1).trans rfl; have hcy2 := (blk_cell BK2.1 2).trans rfl; have hcy3 := (blk_cell BK2.1 3).trans rfl; have hcy4 := (blk_cell BK2.1 4).trans rfl; have hfy0 := blk_frozen BK2.1 0; have hfy1 := blk_frozen BK2.1 1; have hfy2 := blk_frozen BK2.1 2; have hfy3 := blk_frozen BK2.1 3; have hfy4 := blk_frozen BK2.1 4)
    | (go_at_call 96; refine (impl_form.calls k x0 s ok _ HF.out).mono ?_; rintro e w' ⟨rfl, ⟨nd, rfl⟩⟩))
  clear hcz0 hcy0 hcy1 hcy2 hcy3 hcy4 hfy0 hfy1 hfy2 hfy3 hfy4
  go_loopw [18] (fun v wr => ∃ i : Nat, Aside0 (i ≤ s.size) ∧ v = .int .i64 i ∧ Aside0 (wr.heap[g1]? = some (.cells (insCells (x0, x1, x2, x3, x4)) 57 (0, 0))) ∧ Aside0 (wr.heap[g2]? = some (.cells (insCells (insFold s (x0, x1, x2, x3, x4) i)) 57 (0, 0))) ∧ Aside0 (Below w.heap.size w wr)) (fun v _ => s.size - (intOf v).toNat)
  case atStart =>
    refine ⟨0, ⟨Nat.zero_le _⟩, rfl, ⟨?_⟩, ⟨?_⟩, ⟨?_⟩⟩
    · refine blk_far (blk_far (blk_far (blk_far (blk_far BK1'.out ?_ _) ?_ _) ?_ _) ?_ _) ?_ _ <;> exact hne.out
    · exact blk_set (blk_set (blk_set (blk_set (blk_set BK2.1 0 _) 1 _) 2 _) 3 _) 4 _
    · exact below_set (below_set (below_set (below_set (below_set HB2.1 GE2.1) GE2.1) GE2.1) GE2.1) GE2.1
  case round =>
    obtain ⟨i, hi, rfl, BK1, BK2, HB⟩ := hrel
    by_cases hlt : i < s.size
    · have hbt : bt s (i : Int) = ((s[i].toNat : Nat) : Int) := (bt_at s (i : Int) (by simpa using hlt)).symm
      have HBT := zM hbt
      clear hbt
      have hld : wr.cell? ⟨g1, placeOff ((s[i].toNat : Nat) : Int), none⟩ = some (.int .i64 (insPick (x0, x1, x2, x3, x4) ((s[i].toNat : Nat) : Int))) := (blk_cell BK1.1 _).trans (insCells_get _ _)
      have hst : wr.cell? ⟨g2, placeOff ((s[i].toNat : Nat) : Int), none⟩ = some (.int .i64 (insPick (insFold s (x0, x1, x2, x3, x4) i) ((s[i].toNat : Nat) : Int))) := (blk_cell BK2.1 _).trans (insCells_get _ _)
      have hfz := blk_frozen BK2.1 (placeOff ((s[i].toNat : Nat) : Int))
      have H1 := zM hst
      have H2 := zM hfz
      clear hst hfz
      go_wp2_with fail
      go_still_tail 11, (by kernel_rfl)
      still_call (place_calls _ _ _)
      repeat still_step
      still_call (place_calls _ _ _)
      repeat still_step
      refine wpStill_nil ?_
      change wpList _ _ _ _ _ wr.drew
      have hst := H1.out
      have hfz := H2.out
      go_wp2
      go_roundw
      case rel =>
        refine ⟨i + 1, ⟨hlt⟩, by go_num, ⟨?_⟩, ⟨?_⟩, ⟨?_⟩⟩
        · exact blk_far (blk_drew BK1.1) hne.out _
        · rw [insFold_succ, HBT.out, ← insCells_put]; exact blk_set (blk_drew BK2.1) _ _
        · exact below_set (below_drew1 HB.1) GE2.1
      case measure => simp [intOf]; omega
    have HN := zM hlt
    have hi' : i = s.size := by have := hi.out; omega
    subst hi'
    have BK2' : wr.heap[g2]? = some (.cells #[.int .i64 y0, .int .i64 y1, .int .i64 y2, .int .i64 y3, .int .i64 y4] 57 (0, 0)) := by have h_ := BK2.1; rw [HY.out] at h_; exact h_
    clear BK2
    have hcx0 : wr.cell? ⟨g1, 0, none⟩ = some (.int .i64 x0) := (blk_cell BK1.1 0).trans rfl
    have hcx1 : wr.cell? ⟨g1, 1, none⟩ = some (.int .i64 x1) := (blk_cell BK1.1 1).trans rfl
    have hcx2 : wr.cell? ⟨g1, 2, none⟩ = some (.int .i64 x2) := (blk_cell BK1.1 2).trans rfl
    have hcx3 : wr.cell? ⟨g1, 3, none⟩ = some (.int .i64 x3) := (blk_cell BK1.1 3).trans rfl
    have hcx4 : wr.cell? ⟨g1, 4, none⟩ = some (.int .i64 x4) := (blk_cell BK1.1 4).trans rfl
    have hcy0 : wr.cell? ⟨g2, 0, none⟩ = some (.int .i64 y0) := (blk_cell BK2' 0).trans rfl
    have hcy1 : wr.cell? ⟨g2, 1, none⟩ = some (.int .i64 y1) := (blk_cell BK2' 1).trans rfl
    have hcy2 : wr.cell? ⟨g2, 2, none⟩ = some (.int .i64 y2) := (blk_cell BK2' 2).trans rfl
    have hcy3 : wr.cell? ⟨g2, 3, none⟩ = some (.int .i64 y3) := (blk_cell BK2' 3).trans rfl
    have hcy4 : wr.cell? ⟨g2, 4, none⟩ = some (.int .i64 y4) := (blk_cell BK2' 4).trans rfl
    clear BK1 BK2'
    cases ok
    · go_wp2_with (first | (go_at_call 37; with_reducible refine (impl_from.calls x1 0 3 _ _ F1.out).mono ?_; rintro e w' ⟨rfl, ⟨nd, rfl⟩⟩) | (go_at_call 37; with_reducible refine (impl_from.calls x2 0 3 _ _ F2.out).mono ?_; rintro e w' ⟨rfl, ⟨nd, rfl⟩⟩) | (go_at_call 37; with_reducible refine (impl_from.calls x3 0 3 _ _ F3.out).mono ?_; rintro e w' ⟨rfl, ⟨nd, rfl⟩⟩) | (go_at_call 37; with_reducible refine (impl_from.calls x4 0 63 _ _ F4.out).mono ?_; rintro e w' ⟨rfl, ⟨nd, rfl⟩⟩))
      go_ret
      exact ⟨rfl, by repeat (first | exact HB.1 | apply pw_below_drewN | apply below_drew1)⟩
    generalize hE : (y0 == x0 && (y1 == x1 && (y2 == x2 && (y3 == x3 && (y4 == x4))))) = E
    cases E
    · go_wp2_with (first | (go_at_call 37; with_reducible refine (impl_from.calls x1 0 3 _ _ F1.out).mono ?_; rintro e w' ⟨rfl, ⟨nd, rfl⟩⟩) | (go_at_call 37; with_reducible refine (impl_from.calls x2 0 3 _ _ F2.out).mono ?_; rintro e w' ⟨rfl, ⟨nd, rfl⟩⟩) | (go_at_call 37; with_reducible refine (impl_from.calls x3 0 3 _ _ F3.out).mono ?_; rintro e w' ⟨rfl, ⟨nd, rfl⟩⟩) | (go_at_call 37; with_reducible refine (impl_from.calls x4 0 63 _ _ F4.out).mono ?_; rintro e w' ⟨rfl, ⟨nd, rfl⟩⟩))
      go_ret
      exact ⟨by rw [hE]; rfl, by repeat (first | exact HB.1 | apply pw_below_drewN | apply below_drew1)⟩
    cases b1
    · go_wp2_with (first | (go_at_call 37; with_reducible refine (impl_from.calls x1 0 3 _ _ F1.out).mono ?_; rintro e w' ⟨rfl, ⟨nd, rfl⟩⟩) | (go_at_call 37; with_reducible refine (impl_from.calls x2 0 3 _ _ F2.out).mono ?_; rintro e w' ⟨rfl, ⟨nd, rfl⟩⟩) | (go_at_call 37; with_reducible refine (impl_from.calls x3 0 3 _ _ F3.out).mono ?_; rintro e w' ⟨rfl, ⟨nd, rfl⟩⟩) | (go_at_call 37; with_reducible refine (impl_from.calls x4 0 63 _ _ F4.out).mono ?_; rintro e w' ⟨rfl, ⟨nd, rfl⟩⟩))
      go_ret
      exact ⟨by rw [hE]; rfl, by repeat (first | exact HB.1 | apply pw_below_drewN | apply below_drew1)⟩
    cases b2
    · go_wp2_with (first | (go_at_call 37; with_reducible refine (impl_from.calls x1 0 3 _ _ F1.out).mono ?_; rintro e w' ⟨rfl, ⟨nd, rfl⟩⟩) | (go_at_call 37; with_reducible refine (impl_from.calls x2 0 3 _ _ F2.out).mono ?_; rintro e w' ⟨rfl, ⟨nd, rfl⟩⟩) | (go_at_call 37; with_reducible refine (impl_from.calls x3 0 3 _ _ F3.out).mono ?_; rintro e w' ⟨rfl, ⟨nd, rfl⟩⟩) | (go_at_call 37; with_reducible refine (impl_from.calls x4 0 63 _ _ F4.out).mono ?_; rintro e w' ⟨rfl, ⟨nd, rfl⟩⟩))
      go_ret
      exact ⟨by rw [hE]; rfl, by repeat (first | exact HB.1 | apply pw_below_drewN | apply below_drew1)⟩
    cases b3
    · go_wp2_with (first | (go_at_call 37; with_reducible refine (impl_from.calls x1 0 3 _ _ F1.out).mono ?_; rintro e w' ⟨rfl, ⟨nd, rfl⟩⟩) | (go_at_call 37; with_reducible refine (impl_from.calls x2 0 3 _ _ F2.out).mono ?_; rintro e w' ⟨rfl, ⟨nd, rfl⟩⟩) | (go_at_call 37; with_reducible refine (impl_from.calls x3 0 3 _ _ F3.out).mono ?_; rintro e w' ⟨rfl, ⟨nd, rfl⟩⟩) | (go_at_call 37; with_reducible refine (impl_from.calls x4 0 63 _ _ F4.out).mono ?_; rintro e w' ⟨rfl, ⟨nd, rfl⟩⟩))
      go_ret
      exact ⟨by rw [hE]; rfl, by repeat (first | exact HB.1 | apply pw_below_drewN | apply below_drew1)⟩
    go_wp2_with (first | (go_at_call 37; with_reducible refine (impl_from.calls x1 0 3 _ _ F1.out).mono ?_; rintro e w' ⟨rfl, ⟨nd, rfl⟩⟩) | (go_at_call 37; with_reducible refine (impl_from.calls x2 0 3 _ _ F2.out).mono ?_; rintro e w' ⟨rfl, ⟨nd, rfl⟩⟩) | (go_at_call 37; with_reducible refine (impl_from.calls x3 0 3 _ _ F3.out).mono ?_; rintro e w' ⟨rfl, ⟨nd, rfl⟩⟩) | (go_at_call 37; with_reducible refine (impl_from.calls x4 0 63 _ _ F4.out).mono ?_; rintro e w' ⟨rfl, ⟨nd, rfl⟩⟩))
    go_ret
    exact ⟨by rw [hE]; rfl, by repeat (first | exact HB.1 | apply pw_below_drewN | apply below_drew1)⟩
/-- Is it an Ins: what an Op does not have is 0; the others in range. -/
def insOkB (o r a b n : Int) : Bool :=
  (if o = 1 then decide (a = 0) && decide (b = 0) else if o = 2 then decide (n = 0) else if o = 3 then decide (b = 0) else if o = 4 then decide (b = 0) else if o = 5 then decide (r = 0) else if o = 6 then true
   else if o = 7 then decide (r = 0) && decide (b = 0) else if o = 8 then decide (r = 0) && (decide (a = 0) && decide (b = 0)) else if o = 9 then decide (r = 0) && (decide (a = 0) && (decide (b = 0) && decide (n = 0))) else if o = 10 then decide (n = 0) else false)
  && (decide (0 ≤ r ∧ r ≤ 3) && (decide (0 ≤ a ∧ a ≤ 3) && (decide (0 ≤ b ∧ b ≤ 3) && decide (0 ≤ n ∧ n ≤ 63))))
def impl_InsOk.f (a0_0 a0_1 a0_2 a0_3 a0_4 : Int) : Option Bool := some (insOkB a0_0 a0_1 a0_2 a0_3 a0_4)
theorem insFrom (x lo hi : Int) : impl_from.f x lo hi = some (decide (lo ≤ x ∧ x ≤ hi)) := by
  unfold impl_from.f
  by_cases h : x ≥ lo
  · rw [if_pos h]; have h' : lo ≤ x := h; simp [h']
  rw [if_neg h]; have h' : ¬ lo ≤ x := h; simp [h']
theorem insBeq (x y : Int) : (x == y) = decide (y = x) := by
  by_cases h : x = y
  · subst h; simp
  have h' : ¬ y = x := fun e => h e.symm
  simp [h, h']
theorem insForm (x0 x1 x2 x3 x4 : Int) : ∃ (s : ByteArray) (ok : Bool) (y0 y1 y2 y3 y4 : Int), s.size ≤ 4 ∧ impl_form.f 3 x0 = some (s, ok) ∧ insFold s (x0, x1, x2, x3, x4) s.size = (y0, y1, y2, y3, y4) ∧
    (ok && ((y0 == x0 && (y1 == x1 && (y2 == x2 && (y3 == x3 && (y4 == x4))))) && (decide (0 ≤ x1 ∧ x1 ≤ 3) && (decide (0 ≤ x2 ∧ x2 ≤ 3) && (decide (0 ≤ x3 ∧ x3 ≤ 3) && decide (0 ≤ x4 ∧ x4 ≤ 63)))))) = insOkB x0 x1 x2 x3 x4 := by
  by_cases h1 : x0 = 1
  · subst h1; exact ⟨⟨#[82, 78]⟩, true, 1, x1, 0, 0, x4, by decide, rfl, rfl, by simp [insOkB, insBeq, Bool.and_assoc]⟩
  by_cases h2 : x0 = 2
  · subst h2; exact ⟨⟨#[82, 65, 66]⟩, true, 2, x1, x2, x3, 0, by decide, rfl, rfl, by simp [insOkB, insBeq, Bool.and_assoc]⟩
  by_cases h3 : x0 = 3
  · subst h3; exact ⟨⟨#[82, 65, 78]⟩, true, 3, x1, x2, 0, x4, by decide, rfl, rfl, by simp [insOkB, insBeq, Bool.and_assoc]⟩
  by_cases h4 : x0 = 4
  · subst h4; exact ⟨⟨#[82, 65, 78]⟩, true, 4, x1, x2, 0, x4, by decide, rfl, rfl, by simp [insOkB, insBeq, Bool.and_assoc]⟩
  by_cases h5 : x0 = 5
  · subst h5; exact ⟨⟨#[65, 66, 78]⟩, true, 5, 0, x2, x3, x4, by decide, rfl, rfl, by simp [insOkB, insBeq, Bool.and_assoc]⟩
  by_cases h6 : x0 = 6
  · subst h6; exact ⟨⟨#[82, 65, 66, 78]⟩, true, 6, x1, x2, x3, x4, by decide, rfl, rfl, by simp [insOkB, insBeq, Bool.and_assoc]⟩
  by_cases h7 : x0 = 7
  · subst h7; exact ⟨⟨#[65, 78]⟩, true, 7, 0, x2, 0, x4, by decide, rfl, rfl, by simp [insOkB, insBeq, Bool.and_assoc]⟩
  by_cases h8 : x0 = 8
  · subst h8; exact ⟨⟨#[78]⟩, true, 8, 0, 0, 0, x4, by decide, rfl, rfl, by simp [insOkB, insBeq, Bool.and_assoc]⟩
  by_cases h9 : x0 = 9
  · subst h9; exact ⟨⟨#[]⟩, true, 9, 0, 0, 0, 0, by decide, rfl, rfl, by simp [insOkB, insBeq, Bool.and_assoc]⟩
  by_cases h10 : x0 = 10
  · subst h10; exact ⟨⟨#[82, 65, 66]⟩, true, 10, x1, x2, x3, 0, by decide, rfl, rfl, by simp [insOkB, insBeq, Bool.and_assoc]⟩
  exact ⟨⟨#[]⟩, false, x0, 0, 0, 0, 0, by decide, by simp [impl_form.f, impl_form.j0, impl_form.j1, h1, h2, h3, h4, h5, h6, h7, h8, h9, h10], rfl, by simp [insOkB, h1, h2, h3, h4, h5, h6, h7, h8, h9, h10]⟩
theorem impl_InsOk.calls (a0_0 : Int) (a0_1 : Int) (a0_2 : Int) (a0_3 : Int) (a0_4 : Int) (r : Bool) (w : World) (h : impl_InsOk.f a0_0 a0_1 a0_2 a0_3 a0_4 = some r) :
    Calls Try.prog 63 #[.agg #[.int .i64 a0_0, .int .i64 a0_1, .int .i64 a0_2, .int .i64 a0_3, .int .i64 a0_4]] w fun e w' => e = .returned (.bool r) ∧ Below w.heap.size w w' := by
  obtain ⟨s, ok, y0, y1, y2, y3, y4, hs, hf, hy, hb⟩ := insForm a0_0 a0_1 a0_2 a0_3 a0_4
  obtain rfl := Option.some.inj h
  rw [← hb]
  exact insOk_calls 3 _ _ _ _ _ s ok w hs hf y0 y1 y2 y3 y4 hy _ _ _ _ (insFrom _ _ _) (insFrom _ _ _) (insFrom _ _ _) (insFrom _ _ _)

/-! ### impl_PartOk_1: function 62 -/
def impl_PartOk_1.f (a0_0 : Int) (a0_1 : Int) (a0_2 : Int) (a0_3 : Int) (a0_4 : Int) : Option (Bool) := (impl_InsOk.f a0_0 a0_1 a0_2 a0_3 a0_4).bind fun t303 => (some (!t303))
theorem impl_PartOk_1.calls (a0_0 : Int) (a0_1 : Int) (a0_2 : Int) (a0_3 : Int) (a0_4 : Int) (r : Bool) (w : World) (h : impl_PartOk_1.f a0_0 a0_1 a0_2 a0_3 a0_4 = some r) :
    Calls Try.prog 62 #[.agg #[.int .i64 a0_0, .int .i64 a0_1, .int .i64 a0_2, .int .i64 a0_3, .int .i64 a0_4]] w fun e w' => e = .returned (.bool r) ∧ Below w.heap.size w w' := by
  have hu57 := Try.underlying57
  have HB := zM (Below.refl w.heap.size w)
  unfold impl_PartOk_1.f at h
  have H := h
  clear h
  replace H := zO H
  obtain ⟨t303, A2, H⟩ := H
  obtain rfl := Option.some.inj H
  go_enter Try.func62, Try.ntmps62
  go_wp2_with (first | ((with_reducible refine zBx 1 57 #[.int .i64 a0_0, .int .i64 a0_1, .int .i64 a0_2, .int .i64 a0_3, .int .i64 a0_4] ?_); intro gb302 hg w3 hbox hb; have BK302 := zM hbox; have GW302 := zM (zW hg (below_size zB0)); have GE302 := zM (zW hg (below_size zB0)); replace HB := zM (below_step zB0 hb); clear hb hbox hg; have hcz4 := zc_5 (w := w3) BK302.1) | ((with_reducible refine zG Try.func63 4 #[.agg #[.int .i64 a0_0, .int .i64 a0_1, .int .i64 a0_2, .int .i64 a0_3, .int .i64 a0_4]] ?_); (with_reducible refine (impl_InsOk.calls a0_0 a0_1 a0_2 a0_3 a0_4 t303 _ A2.1).mono ?_); rintro e w5 ⟨rfl, hb⟩; refine ⟨_, rfl, ?_⟩; replace BK302 := zM (zb BK302.1 hb); replace HB := zM (below_step zB0 hb); clear hb))
  go_ret
  exact ⟨zE, zB0⟩

-- NOT PRINTED: function 114 (impl_Ref_114)

-- NOT PRINTED: function 98 (impl_Ref_98)

-- NOT PRINTED: function 99 (impl_isRef_1)

end Go.Proofs.Ytaakcbgpmabaaaa.PFnLinked
