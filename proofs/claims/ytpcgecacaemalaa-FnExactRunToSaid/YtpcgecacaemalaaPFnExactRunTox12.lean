-- made by wip/tools/myprint.py out of the seat's translation
import Derived.Test.YtpcgecacaemalaaPFnExactRunTox0
import Derived.Test.YtpcgecacaemalaaPFnExactRunTox9
import Derived.Test.YtpcgecacaemalaaPFnExactRunTox11
namespace Go.Proofs.Ytpcgecacaemalaa.PFnExactRunTo
open Go.RowKit Go.Proofs.YtpcgecacaemalaaW.PrintWords Go.Proofs.YtpcgecacaemalaaW.PrintLast Go.Proofs.YtpcgecacaemalaaW.PrintMore
attribute [local go_sem] max2_int min2_int max_two min_two max_three min_three max_four min_four   -- for this text's walks alone
set_option linter.unusedVariables false
set_option linter.unusedSimpArgs false
set_option maxHeartbeats 8000000
set_option maxRecDepth 100000

/-! ### spec_FlatRun: function 67 -/
mutual
def spec_FlatRun.l0 : Nat → List (S53) → List Int → List Int → List (S53) → Int → Option (List Int × (List (S53)))
 | 0, _, _, _, _, _ => none
 | k + 1, x1, x2, x8, x9, x10 => if x10 < (x1.length : Int) then (if 0 ≤ x10 then ((spec_l9Copy.f ((rd_T53 x1 x10).f0) ((rd_T53 x1 x10).f1) ((rd_T53 x1 x10).f2)).bind fun bt390 => (if x9.length < 3518437208883 then (spec_FlatRun.l0 k x1 x2 x8 (x9 ++ [(⟨bt390.1, bt390.2.1, bt390.2.2⟩ : S53)]) (wrap64 (x10 + 1))) else (none))) else (none)) else (spec_FlatRun.l1 k x2 x8 x9 0)
def spec_FlatRun.l1 : Nat → List Int → List Int → List (S53) → Int → Option (List Int × (List (S53)))
 | 0, _, _, _, _ => none
 | k + 1, x2, x8, x9, x11 => if x11 < (x2.length : Int) then (spec_FlatRun.j2 k x2 x8 x9 x11 (decide ((x2.length : Int) ≤ 2000))) else (spec_FlatRun.j2 k x2 x8 x9 x11 false)
def spec_FlatRun.j2 : Nat → List Int → List Int → List (S53) → Int → Bool → Option (List Int × (List (S53)))
 | 0, _, _, _, _, _ => none
 | k + 1, x2, x8, x9, x11, x41 => if x41 = true then (if 0 ≤ x11 then (if x11 < (x2.length : Int) then ((spec_l1In.f (rd x2 x11) 0 (wrap64 ((x9.length : Int) - 1))).bind fun t399 => (if t399 = true then (if 0 ≤ (rd x2 x11) then (if (rd x2 x11) < (x9.length : Int) then ((spec_FlatStep.f k x8 ((rd_T53 x9 (rd x2 x11)).f0) ((rd_T53 x9 (rd x2 x11)).f1) ((rd_T53 x9 (rd x2 x11)).f2)).bind fun bt401 => (spec_FlatRun.l1 k x2 bt401.1 (x9.set ((rd x2 x11) : Int).toNat (⟨bt401.2.1, bt401.2.2.1, bt401.2.2.2⟩ : S53)) (wrap64 (x11 + 1)))) else (none)) else (none)) else (spec_FlatRun.l1 k x2 x8 x9 (wrap64 (x11 + 1))))) else (none)) else (none)) else (some (x8, x9))
end
def spec_FlatRun.f (k : Nat) (l0 : List Int) (l1 : List (S53)) (l2 : List Int) : Option (List Int × (List (S53))) := (some (([] : List Int) : List Int)).bind fun y380 => (if y380.length + l0.length < 17592186044416 then (spec_FlatRun.l0 k l1 l2 (y380 ++ l0) (([] : List (S53))) 0) else (none))
theorem spec_FlatRun.mono_l : ∀ k, (∀ y0 y1 y2 y3 y4, LeO (spec_FlatRun.l0 k y0 y1 y2 y3 y4) (spec_FlatRun.l0 (k + 1) y0 y1 y2 y3 y4)) ∧ (∀ y0 y1 y2 y3, LeO (spec_FlatRun.l1 k y0 y1 y2 y3) (spec_FlatRun.l1 (k + 1) y0 y1 y2 y3)) ∧ (∀ y0 y1 y2 y3 y4, LeO (spec_FlatRun.j2 k y0 y1 y2 y3 y4) (spec_FlatRun.j2 (k + 1) y0 y1 y2 y3 y4))
 | 0 => ⟨fun _ _ _ _ _ r h => by simp [spec_FlatRun.l0] at h, fun _ _ _ _ r h => by simp [spec_FlatRun.l1] at h, fun _ _ _ _ _ r h => by simp [spec_FlatRun.j2] at h⟩
 | k + 1 => by
  obtain ⟨ih0, ih1, ih2⟩ := spec_FlatRun.mono_l k
  refine ⟨?_, ?_, ?_⟩
  ·intros
   unfold spec_FlatRun.l0
   have mo0 := @spec_FlatStep.mono
   exact zL
  ·intros
   unfold spec_FlatRun.l1
   have mo0 := @spec_FlatStep.mono
   exact zL
  ·intros
   unfold spec_FlatRun.j2
   have mo0 := @spec_FlatStep.mono
   exact zL
theorem spec_FlatRun.mono : ∀ a0 a1 a2 k, LeO (spec_FlatRun.f k a0 a1 a2) (spec_FlatRun.f (k + 1) a0 a1 a2) := by
 intro a0 a1 a2 k
 obtain ⟨ih0, ih1, ih2⟩ := spec_FlatRun.mono_l k
 unfold spec_FlatRun.f
 have mo0 := @spec_FlatStep.mono
 exact zL
theorem spec_FlatRun.calls (k : Nat) (A0 : Option Addr) (c0 : Nat) (l0 : List Int) (A1 : Option Addr) (c1 : Nat) (l1 : List (S53)) (A2 : Option Addr) (c2 : Nat) (l2 : List Int) (r1 : List Int) (r2 : List (S53)) (w : World) (hr0 : Kd.C (Kd.int .i64) w A0 l0.length l0) (hc0 : l0.length ≤ c0) (hr1 : Kd.C k53 w A1 l1.length l1) (hc1 : l1.length ≤ c1) (hr2 : Kd.C (Kd.int .i64) w A2 l2.length l2) (hc2 : l2.length ≤ c2) (h : spec_FlatRun.f k l0 l1 l2 = some (r1, r2)) :
  Calls Try.prog 67 #[.slice A0 l0.length c0, .slice A1 l1.length c1, .slice A2 l2.length c2] w fun e w' => ∃ v0_ v1_ : Value, e = .returned (.tuple #[v0_, v1_]) ∧ Kd.R (Kd.int .i64) 3 w' w.heap.size (fun _ => True) v0_ r1 ∧ Kd.S k53 53 w' w.heap.size (fun k_ => some k_ ≠ (v0_ : Value).ownBlock) v1_ r2 ∧ Below w.heap.size w w' := by
 have hu53 := Try.underlying53
 have HR0 := zM hr0
 have HC0 := zM hc0
 clear hr0 hc0
 have HR1 := zM hr1
 have HC1 := zM hc1
 clear hr1 hc1
 have HR2 := zM hr2
 have HC2 := zM hc2
 clear hr2 hc2
 have HB := zM (Below.refl w.heap.size w)
 unfold spec_FlatRun.f at h
 have H := h
 clear h
 replace H := zY H
 obtain ⟨y380, Ny380, H⟩ := H
 replace H := zIn H
 obtain ⟨LMc4, H⟩ := H
 generalize hy383 : ((y380 ++ l0) : List Int) = y383 at H
 have Ny383 := zM hy383.symm
 clear hy383
 generalize hy386 : ((([] : List (S53))) : List (S53)) = y386 at H
 have Ny386 := zM hy386.symm
 clear hy386
 have H' := zM H
 clear H
 go_enter Try.func67, Try.ntmps67
 go_wp2_with (first | ((with_reducible refine gate_dst (N := 15) rfl ?_); (try (refine gate_guard (by rfl) ?_; dsimp only)); refine Kd.R_lit (Kd.int .i64) _ 3 ?hg (N := 15) ?hd (xs := ([] : List Int)) (inner := []) (ok := fun _ => True) (okp := fun _ => True) ?hr ?hp (fun _ hk => hk) trivial (Below.refl _ _) (Nat.le_refl _) (by simp) ?_; (case hd => rfl); (case hg => rfl); (case hr => exact zHH); (case hp => exact (Reps.none _ _)); intro v381 w5 ho6 hb hg_ hnew_; clear hg_ hnew_; (first | rw [← Ny380.1] at ho6 | (simp only [Int.reduceToNat] at ho6; rw [← Ny380.1] at ho6)); have HO382 := zM (Kd.R_lower ho6 (below_size zB1)); replace HB := zM (below_step zB1 hb); clear hb ho6) | ((with_reducible refine gate_builtin (b := .append) (xs := #[.tmp 15, .tmp 16]) rfl ?_); (try (refine gate_guard (by rfl) ?_; dsimp only)); at_builtin; refine Kd.R_append_rows (Kd.int .i64) (w0 := w) w.heap.size rfl (.tmp 15) (.tmp 16) 24 3 (.int .i64 0) 8 rfl Try.underlying24 info3 rfl (by decide) (by omega) v381 y380 l0 _ _ _ (fun _ => True) (fun _ => False) rfl rfl ?aO ?aR (fun _ _ h => h) (fun _ h => h.elim) ?aF ?aB ?aS ?aL ?_; (case aR => exact zC (Kd.C_below HR0.1 HB.1)); (case aB => exact zB1); (case aF => exact (fun _ _ => trivial)); (case aO => exact (zR HO382.1)); (case aS => exact (below_size zB1)); (case aL => have := LMc4.out; omega); intro v384 w7 ho hb hg hat; rw [← Ny383.1] at ho; replace HB := zM hb; have HO385 := zM ho; clear HO382; clear ho hb hg hat) | ((with_reducible refine gate_dst (N := 18) rfl ?_); (try (refine gate_guard (by rfl) ?_; dsimp only)); refine Kd.S_lit k53 _ 53 ?hg (N := 18) ?hd (xs := ([] : List (S53))) (inner := []) (ok := fun _ => True) (okp := fun _ => True) ?hr ?hp (fun _ hk => hk) trivial (Below.refl _ _) (Nat.le_refl _) (by simp) ?_; (case hd => rfl); (case hg => rfl); (case hr => exact zHH); (case hp => exact (Reps.none _ _)); intro v387 w8 ho9 hb hg_ hnew_; clear hg_ hnew_; (first | rw [← Ny386.1] at ho9 | (simp only [Int.reduceToNat] at ho9; rw [← Ny386.1] at ho9)); have HO388 := zM (Kd.S_lower (Kd.S_new' ho9 (Kd.R_lt (zR HO385.1))) (below_size zB1)); replace HO385 := zM (Kd.R_below (zR HO385.1) hb); replace HB := zM (below_step zB1 hb); clear hb ho9))
 go_loopg [9, 10] k (fun kq v9 v10 w' => ∃ (x9_1 : List (S53)) (x10_1 : Int), v10 = .int .i64 x10_1 ∧ Aside0 (spec_FlatRun.l0 kq l1 l2 y383 x9_1 x10_1 = some (r1, r2)) ∧ Aside0 (kq ≤ k) ∧ Aside0 (Kd.R (Kd.int .i64) 3 w' w.heap.size (fun _ => True) v384 y383) ∧ Aside0 (Kd.S k53 53 w' w.heap.size (fun k_ => some k_ ≠ (v384 : Value).ownBlock) v9 x9_1) ∧ Aside0 (Below w.heap.size w w'))
 case atStart => exact ⟨(y386), (0), zJJ, H', ⟨Nat.le_refl _⟩, ⟨zR HO385.1⟩, ⟨by refine zrS ?_; exact Kd.S_mono HO388.1 (fun _ hk => hk.2)⟩, ⟨zB1⟩⟩
 case round =>
  clear H'
  obtain ⟨x9_1, x10_1, rfl, HA, HK1, HO_8, HO_9, HB⟩ := hrel
  cases gk with
  | zero => exact absurd HA.1 (by simp [spec_FlatRun.l0])
  | succ k1 =>
   have H := HA.1
   clear HA
   simp only [spec_FlatRun.l0] at H
   by_cases c10 : x10_1 < (l1.length : Int)
   ·rw [if_pos c10] at H
    have c10b0 := decide_eq_true c10
    clear c10
    replace H := zIt H
    obtain ⟨c11b0, H⟩ := H
    replace H := zO H
    obtain ⟨⟨t390, t393, t394⟩, A12, H⟩ := H
    try dsimp only at H
    replace H := zIn H
    obtain ⟨LMc13, H⟩ := H
    generalize hy395 : ((x9_1 ++ [(⟨t390, t393, t394⟩ : S53)]) : List (S53)) = y395 at H
    have Ny395 := zM hy395.symm
    clear hy395
    have H' := zM H
    clear H
    obtain ⟨p389, q389, ad389, A389_0, c389_0, e389, hx389_0, hx389_1, hx389_2, hl389_0, hi389_0⟩ := zRd (at_T53 HR1.1 x10_1)
    cases e389
    replace hx389_0 := zHx HB.1 hx389_0
    replace hx389_1 := zHx HB.1 hx389_1
    replace hx389_2 := zHx HB.1 hx389_2
    have HR389_0 := zM hi389_0
    have HC389_0 := zM hl389_0
    clear hi389_0 hl389_0
    go_wp2_with (first | ((with_reducible refine zG Try.func104 30 #[.agg #[.slice A389_0 ((rd_T53 l1 x10_1).f0).length c389_0, .int .i64 ((rd_T53 l1 x10_1).f1), .int .i64 ((rd_T53 l1 x10_1).f2)]] ?_); (with_reducible refine (spec_l9Copy.calls _ _ ((rd_T53 l1 x10_1).f0) ((rd_T53 l1 x10_1).f1) ((rd_T53 l1 x10_1).f2) t390 t393 t394 _ ?side1 ?side2 A12.1).mono ?_); (case side1 => exact zC (Kd.C_below HR389_0.1 HB.1)); (case side2 => exact HC389_0.1); rintro e w14 ⟨v391, rfl, ho0, hb⟩; refine ⟨_, rfl, ?_⟩; replace HO_9 := zM (Kd.S_elder' (zS HO_9.1) (Kd.R_base ho0) hb); have HO392 := zM (Kd.R_lower (Kd.R_new' ho0 (Kd.R_lt (zR HO_8.1))) (below_size zB1)); replace HO_8 := zM (Kd.R_elder' (zR HO_8.1) (Kd.R_base ho0) hb); replace HB := zM (below_step zB1 hb); clear hb ho0; obtain ⟨Ao16, co16, eo16⟩ := Kd.R_slice HO392.1; subst eo16) | ((with_reducible refine gate_builtin (b := .append) (xs := #[.tmp 25, .tmp 31]) rfl ?_); (try (refine gate_guard (by rfl) ?_; dsimp only)); at_builtin; refine Kd.S_append k53 (w0 := w) w.heap.size rfl (.tmp 25) (.tmp 31) 25 53 (.agg #[(.slice none 0 0), (.int .i64 0), (.int .i64 0)]) 40 rfl Try.underlying25 info53 rfl (by decide) (by omega) u9 x9_1 (⟨t390, t393, t394⟩ : S53) [.slice Ao16 t390.length co16, .int .i64 t393, .int .i64 t394] (fun k_ => some k_ ≠ (v384 : Value).ownBlock) (fun k_ => some k_ = (.slice Ao16 t390.length co16 : Value).ownBlock) rfl rfl ?aP (fun k_ hk_ => ((Kd.R_mono (ok' := fun k_ => ((fun k_ => some k_ ≠ (v384 : Value).ownBlock)) k_ ∧ some k_ ≠ (u9 : Value).ownBlock) (Kd.R_apart' (HO392.1) (Kd.S_typed HO_9.1) (by decide)) (fun k_ hk => ⟨hk.1.2, hk.2⟩))).1 k_ hk_.symm) ?aF ?aO ?aB ?aS ?aL ?_; (case aP => exact k53_mkM _ _ _ (⟨t390, t393, t394⟩ : S53) (Kd.R_mono (Kd.R_tight rfl (Kd.R_mono (ok' := fun k_ => ((fun k_ => some k_ ≠ (v384 : Value).ownBlock)) k_ ∧ some k_ ≠ (u9 : Value).ownBlock) (Kd.R_apart' (HO392.1) (Kd.S_typed HO_9.1) (by decide)) (fun k_ hk => ⟨hk.1.2, hk.2⟩))) (fun _ h_ => h_))); (case aB => exact zB1); (case aF => exact (fun k_ hk => Kd.fresh' (Kd.R_lt (zR HO_8.1)) k_ hk)); (case aO => exact (by refine zrS ?_; exact Kd.S_mono HO_9.1 (fun k_ hk => ⟨hk.1, fun e_ => hk.2 e_⟩))); (case aS => exact (below_size zB1)); (case aL => have := LMc13.out; omega); intro v396 w15 ho hb hg hat; rw [← Ny395.1] at ho; replace HO_8 := zM (Kd.R_over' (zR HO_8.1) (Kd.S_typed (zS HO_9.1)) (by decide) hg); replace HB := zM hb; have HO397 := zM ho; clear HO_9 HO392; clear ho hb hg hat))
    go_roundg k1
    case measure => have := HK1.1; omega
    case rel => exact ⟨(y395), (wrap64 (x10_1 + 1)), zJJ, H', ⟨by have := HK1.1; omega⟩, ⟨by refine zrR ?_; exact Kd.R_mono HO_8.1 (fun _ hk => trivial)⟩, ⟨zS HO397.1⟩, ⟨zB1⟩⟩
   rw [if_neg c10] at H
   have c10b0 := decide_eq_false c10
   clear c10
   have H' := zM H
   clear H
   go_wp2
   go_loopg [8, 11] k1 (fun kq v8 v11 w' => ∃ (x8_2 : List Int) (x9_2 : List (S53)) (x11_2 : Int), v11 = .int .i64 x11_2 ∧ Aside0 (spec_FlatRun.l1 kq l2 x8_2 x9_2 x11_2 = some (r1, r2)) ∧ Aside0 (kq ≤ k1) ∧ Aside0 (Kd.R (Kd.int .i64) 3 w' w.heap.size (fun _ => True) v8 x8_2) ∧ Aside0 (Kd.S k53 53 w' w.heap.size (fun k_ => some k_ ≠ (v8 : Value).ownBlock) u9 x9_2) ∧ Aside0 (Below w.heap.size w w'))
   case atStart => exact ⟨(y383), (x9_1), (0), zJJ, H', ⟨Nat.le_refl _⟩, ⟨zR HO_8.1⟩, ⟨zS HO_9.1⟩, ⟨zB1⟩⟩
   case round =>
    clear H'
    obtain ⟨x8_2, x9_2, x11_2, rfl, HA, HK2, HO_8, HO_9, HB⟩ := hrel
    cases gk with
    | zero => exact absurd HA.1 (by simp [spec_FlatRun.l1])
    | succ k2 =>
     have H := HA.1
     clear HA
     simp only [spec_FlatRun.l1] at H
     have HC17 := zM H
     clear H
     go_upto_region 8 with (fail)
     go_cut [41] (fun v41 wc => ∃ (kq : Nat) (x41_16 : Bool), v41 = .bool x41_16 ∧ Aside0 (spec_FlatRun.j2 kq l2 x8_2 x9_2 x11_2 x41_16 = some (r1, r2)) ∧ Aside0 (kq ≤ k2) ∧ Aside0 (Kd.R (Kd.int .i64) 3 wc w.heap.size (fun _ => True) u8 x8_2) ∧ Aside0 (Kd.S k53 53 wc w.heap.size (fun k_ => some k_ ≠ (u8 : Value).ownBlock) u9 x9_2) ∧ Aside0 (Below w.heap.size w wc))
     case first =>
      have H := HC17.1
      clear HC17
      by_cases c18 : x11_2 < (l2.length : Int)
      rotate_left
      ·rw [if_neg c18] at H
       have c18b0 := decide_eq_false c18
       clear c18
       (first | rw [c18b0] | (simp only [i64_w, i32_w]; rw [c18b0]) | skip)
       have H' := zM H
       clear H
       go_wp2
       go_meet
       case rel => exact ⟨_, (false), zJJ, H', ⟨by have := HK1.1; have := HK2.1; first | omega | exact Nat.le_refl _⟩, ⟨zR HO_8.1⟩, ⟨zS HO_9.1⟩, ⟨zB1⟩⟩
      rw [if_pos c18] at H
      have c18b0 := decide_eq_true c18
      clear c18
      (first | rw [c18b0] | (simp only [i64_w, i32_w]; rw [c18b0]) | skip)
      have H' := zM H
      clear H
      go_wp2
      go_meet
      case rel => exact ⟨_, (decide ((l2.length : Int) ≤ 2000)), zJJ, H', ⟨by have := HK1.1; have := HK2.1; first | omega | exact Nat.le_refl _⟩, ⟨zR HO_8.1⟩, ⟨zS HO_9.1⟩, ⟨zB1⟩⟩
     case rest =>
      clear HC17
      obtain ⟨kq, x41_16, rfl, HA, HJ16, HO_8, HO_9, HB⟩ := hcut
      cases kq with
      | zero => exact absurd HA.1 (by simp [spec_FlatRun.j2])
      | succ kj16 =>
       have H := HA.1
       clear HA
       simp only [spec_FlatRun.j2] at H
       by_cases c19 : x41_16 = true
       rotate_left
       ·replace c19 := Bool.eq_false_iff.mpr c19
        subst c19
        rw [if_neg zF] at H
        simp only [Option.some.injEq, Prod.mk.injEq] at H
        obtain ⟨rfl, rfl⟩ := H
        go_wp2
        go_ret2
        exact ⟨_, _, zE, zR HO_8.1, zS HO_9.1, zB1⟩
       subst c19
       rw [if_pos rfl] at H
       replace H := zIt H
       obtain ⟨c20b0, H⟩ := H
       replace H := zIt H
       obtain ⟨c21b0, H⟩ := H
       replace H := zO H
       obtain ⟨t399, A22, H⟩ := H
       by_cases c23 : t399 = true
       rotate_left
       ·replace c23 := Bool.eq_false_iff.mpr c23
        subst c23
        rw [if_neg zF] at H
        have H' := zM H
        clear H
        obtain ⟨p398, q398, ad398, e398, hx398_0⟩ := zRd (Kd.at_int HR2.1 x11_2)
        cases e398
        replace hx398_0 := zHx HB.1 hx398_0
        obtain ⟨Ao38, co38, eo38⟩ := Kd.S_slice HO_9.1
        subst eo38
        go_wp2_with (first | ((with_reducible refine zG Try.func68 52 #[.int .i64 (rd l2 x11_2), .int .i64 0, .int .i64 (wrap64 ((x9_2.length : Int) - 1))] ?_); (with_reducible refine (spec_l1In.calls (rd l2 x11_2) 0 (wrap64 ((x9_2.length : Int) - 1)) false _ A22.1).mono ?_); rintro e w' ⟨rfl, ⟨nd, rfl⟩⟩; refine ⟨_, rfl, ?_⟩))
        go_roundg kj16
        case measure => have := HK1.1; have := HK2.1; have := HJ16.1; omega
        case rel => exact ⟨(x8_2), (x9_2), (wrap64 (x11_2 + 1)), zJJ, H', ⟨by have := HK1.1; have := HK2.1; have := HJ16.1; omega⟩, ⟨zR HO_8.1⟩, ⟨zS HO_9.1⟩, ⟨zB1⟩⟩
       subst c23
       rw [if_pos rfl] at H
       replace H := zIt H
       obtain ⟨c24b0, H⟩ := H
       replace H := zIt H
       obtain ⟨c25b0, H⟩ := H
       replace H := zO H
       obtain ⟨⟨t401, t404, t407, t408⟩, A26, H⟩ := H
       try dsimp only at H
       generalize hy410 : ((x9_2.set ((rd l2 x11_2) : Int).toNat (⟨t404, t407, t408⟩ : S53)) : List (S53)) = y410 at H
       have Ny410 := zM hy410.symm
       clear hy410
       have H' := zM H
       clear H
       obtain ⟨p398, q398, ad398, e398, hx398_0⟩ := zRd (Kd.at_int HR2.1 x11_2)
       cases e398
       replace hx398_0 := zHx HB.1 hx398_0
       obtain ⟨Ao28, co28, eo28⟩ := Kd.S_slice HO_9.1
       subst eo28
       go_wp2_with (first | ((with_reducible refine zG Try.func68 52 #[.int .i64 (rd l2 x11_2), .int .i64 0, .int .i64 (wrap64 ((x9_2.length : Int) - 1))] ?_); (with_reducible refine (spec_l1In.calls (rd l2 x11_2) 0 (wrap64 ((x9_2.length : Int) - 1)) true _ A22.1).mono ?_); rintro e w' ⟨rfl, ⟨nd, rfl⟩⟩; refine ⟨_, rfl, ?_⟩; (try (rw [drewN_self wc]; generalize hq_ : World.drewN wc _ = wc; have n0_ : Aside0 (Kd.R (Kd.int .i64) 3 wc w.heap.size (fun _ => True) u8 x8_2) := ⟨by rw [← hq_]; exact (zR HO_8.1)⟩; have n1_ : Aside0 (Kd.S k53 53 wc w.heap.size (fun k_ => some k_ ≠ (u8 : Value).ownBlock) (.slice Ao28 x9_2.length co28) x9_2) := ⟨by rw [← hq_]; exact (zS HO_9.1)⟩; have n2_ : Aside0 (Below w.heap.size w wc) := ⟨by rw [← hq_]; exact zB1⟩; clear HO_8 HO_9 HB hq_; have HO_8 := n0_; have HO_9 := n1_; have HB := n2_; clear n0_ n1_ n2_)); have p400 : 0 ≤ ((rd l2 x11_2) : Int) := zA; have q400 : (rd l2 x11_2) < (x9_2.length : Int) := zA; obtain ⟨ad400, A400_0, c400_0, e400, hx400_0, hx400_1, hx400_2, hl400_0, hi400_0⟩ := at_T53 (Kd.S_reads' HO_9.1).2.2 (rd l2 x11_2) p400 q400; cases e400; obtain ⟨ce400, hce400, hMe400, hcc400⟩ := Kd.S_get HO_9.1 z53 (rd l2 x11_2) p400 (by first | exact q400 | exact zA | (have e_ := (Kd.S_reads' HO_9.1).1; omega)); obtain ⟨ve400_0, rfl, ge400_0⟩ := k53_openM hMe400; have hv400_0 := hcc400 0 _ rfl; rw [Nat.add_zero] at hv400_0; replace hv400_0 := Option.some.inj (hv400_0.symm.trans hx400_0); rw [hv400_0] at ge400_0; have HL400_0 := zM (show Kd.R (Kd.int .i64) 3 _ _ _ _ ((rd_T53 x9_2 (rd l2 x11_2)).f0) from ge400_0); clear hv400_0 ge400_0; clear hcc400 hce400; have HR400_0 := zM hi400_0; have HC400_0 := zM hl400_0; clear hi400_0 hl400_0; replace p400 := eq_true p400; replace q400 := eq_true q400; obtain ⟨Ao29, co29, eo29⟩ := Kd.R_slice HO_8.1; subst eo29) | ((with_reducible refine zG Try.func105 59 #[.slice Ao29 x8_2.length co29, .agg #[.slice A400_0 ((rd_T53 x9_2 (rd l2 x11_2)).f0).length c400_0, .int .i64 ((rd_T53 x9_2 (rd l2 x11_2)).f1), .int .i64 ((rd_T53 x9_2 (rd l2 x11_2)).f2)]] ?_); (with_reducible refine (spec_FlatStep.calls kj16 _ _ x8_2 _ _ ((rd_T53 x9_2 (rd l2 x11_2)).f0) ((rd_T53 x9_2 (rd l2 x11_2)).f1) ((rd_T53 x9_2 (rd l2 x11_2)).f2) t401 t404 t407 t408 _ ?side1 ?side2 ?side3 ?side4 A26.1).mono ?_); (case side1 => exact zC (Kd.R_reads' HO_8.1).2.2); (case side2 => exact (Kd.R_reads' HO_8.1).2.1); (case side3 => exact zC HR400_0.1); (case side4 => exact HC400_0.1); rintro e w30 ⟨v402, v405, rfl, ho0, ho1, hb⟩; refine ⟨_, rfl, ?_⟩; replace HO_9 := zM (Kd.S_mono (Kd.S_told (Kd.S_told (Kd.S_old (zS HO_9.1) hb) (Kd.R_base ho0)) (Kd.R_base ho1)) (fun _ h_ => h_.1)); have HO403 := zM (Kd.R_lower (Kd.R_new' (Kd.R_new' ho0 (Kd.R_lt (zR HO_8.1))) (Kd.R_lt (zR HL400_0.1))) (below_size zB1)); have HO406 := zM (Kd.R_lower (Kd.R_new' (Kd.R_new' ho1 (Kd.R_lt (zR HO_8.1))) (Kd.R_lt (zR HL400_0.1))) (below_size zB1)); replace HO_8 := zM (Kd.R_mono (Kd.R_told (Kd.R_told (Kd.R_old (zR HO_8.1) hb) (Kd.R_base ho0)) (Kd.R_base ho1)) (fun _ h_ => h_.1)); replace HL400_0 := zM (Kd.R_mono (Kd.R_told (Kd.R_told (Kd.R_old (zR HL400_0.1) hb) (Kd.R_base ho0)) (Kd.R_base ho1)) (fun _ h_ => h_.1)); replace HR400_0 := zM (Kd.C_below (zC HR400_0.1) hb); replace HB := zM (below_step zB1 hb); clear hb ho0 ho1) | ((with_reducible refine gate_dst (N := 14) rfl ?_); (try (refine gate_guard (by rfl) ?_; dsimp only)); (with_reducible refine zBx 14 53 #[.slice none 0 0, .int .i64 0, .int .i64 0] ?_); intro gb409 hg w31 hbox hb; replace HO_8 := zM (Kd.R_below (zR HO_8.1) hb); replace HO_9 := zM (Kd.S_below (Kd.S_elderB (zS HO_9.1) gb409 (Nat.le_of_eq hg.symm)) hb); replace HL400_0 := zM (Kd.R_below (zR HL400_0.1) hb); replace HO403 := zM (Kd.R_below (zR HO403.1) hb); replace HO406 := zM (Kd.R_below (zR HO406.1) hb); replace HR400_0 := zM (Kd.C_below (zC HR400_0.1) hb); have BK409 := zM hbox; have GW409 := zM (zW hg (below_size zB1)); have GE409 := zM (zW hg (below_size zB1)); replace HB := zM (below_step zB1 hb); clear hb hbox hg; obtain ⟨Ao32, co32, eo32⟩ := Kd.R_slice HO406.1; subst eo32; have hcz33 := zc_3 (w := w31) BK409.1) | ((with_reducible refine gate_store (t := 53) (p := 14) rfl ?_); refine store_event (t := 53) (p := 14) (v := ?vo_w34) (w1 := (((w31.setCell ⟨gb409, 0, none⟩ (.slice Ao32 t404.length co32)).setCell ⟨gb409, 1, none⟩ (.int .i64 t407)).setCell ⟨gb409, 2, none⟩ (.int .i64 t408))) ?hg ?ho ?hn ?hr ?_; (case ho => rfl); (case hg => rfl); (case hn => rfl); (case hr => exact zHH); intro w34 hw; have n0_ : Aside0 (Kd.R (Kd.int .i64) 3 w34 w.heap.size (fun k_ => some k_ ≠ (v402 : Value).ownBlock ∧ some k_ ≠ (.slice Ao32 t404.length co32 : Value).ownBlock) (.slice Ao29 x8_2.length co29) x8_2) := ⟨(by rw [hw]; exact (by refine zrR ?_; exact Kd.R_mono (zfR (zfR (zfR (Kd.R_types HO_8.1 BK409.1 (by decide))))) (fun _ hk => ⟨hk.1.1.2, hk.1.2⟩)))⟩; have n1_ : Aside0 (Kd.S k53 53 w34 w.heap.size (fun k_ => some k_ ≠ (.slice Ao29 x8_2.length co29 : Value).ownBlock ∧ some k_ ≠ (v402 : Value).ownBlock ∧ some k_ ≠ (.slice Ao32 t404.length co32 : Value).ownBlock ∧ k_ ≠ gb409) (.slice (some ad400) x9_2.length co28) x9_2) := ⟨(by rw [hw]; exact (by refine zrS ?_; exact Kd.S_mono (zfS (zfS (zfS (Kd.S_mono HO_9.1 (fun k_ hk => (⟨hk, hk.2⟩ : _ ∧ k_ ≠ gb409)))))) (fun _ hk => ⟨hk.1.1.1.1, ⟨hk.1.1.1.2, ⟨hk.1.1.2, hk.1.2⟩⟩⟩)))⟩; have n2_ : Aside0 (Kd.R (Kd.int .i64) 3 w34 w.heap.size (fun k_ => some k_ ≠ (.slice Ao29 x8_2.length co29 : Value).ownBlock ∧ some k_ ≠ (.slice (some ad400) x9_2.length co28 : Value).ownBlock ∧ some k_ ≠ (v402 : Value).ownBlock ∧ some k_ ≠ (.slice Ao32 t404.length co32 : Value).ownBlock) (.slice A400_0 ((rd_T53 x9_2 (rd l2 x11_2)).f0).length c400_0) ((rd_T53 x9_2 (rd l2 x11_2)).f0)) := ⟨(by rw [hw]; exact (by refine zrR ?_; exact Kd.R_mono (zfR (zfR (zfR (Kd.R_types HL400_0.1 BK409.1 (by decide))))) (fun _ hk => ⟨hk.1.1.1.1, ⟨hk.1.1.1.2, ⟨hk.1.1.2, hk.1.2⟩⟩⟩)))⟩; have n3_ : Aside0 (Kd.R (Kd.int .i64) 3 w34 w.heap.size (fun k_ => some k_ ≠ (.slice Ao29 x8_2.length co29 : Value).ownBlock ∧ some k_ ≠ (.slice A400_0 ((rd_T53 x9_2 (rd l2 x11_2)).f0).length c400_0 : Value).ownBlock ∧ some k_ ≠ (.slice Ao32 t404.length co32 : Value).ownBlock) v402 t401) := ⟨(by rw [hw]; exact (by refine zrR ?_; exact Kd.R_mono (zfR (zfR (zfR (Kd.R_types HO403.1 BK409.1 (by decide))))) (fun _ hk => ⟨hk.1.1.2, ⟨hk.1.2, hk.1.1.1⟩⟩)))⟩; have n4_ : Aside0 (Kd.R (Kd.int .i64) 3 w34 w.heap.size (fun k_ => some k_ ≠ (.slice Ao29 x8_2.length co29 : Value).ownBlock ∧ some k_ ≠ (.slice A400_0 ((rd_T53 x9_2 (rd l2 x11_2)).f0).length c400_0 : Value).ownBlock ∧ some k_ ≠ (v402 : Value).ownBlock) (.slice Ao32 t404.length co32) t404) := ⟨(by rw [hw]; exact (by refine zrR ?_; exact Kd.R_mono (zfR (zfR (zfR (Kd.R_types HO406.1 BK409.1 (by decide))))) (fun _ hk => ⟨hk.1.1.2, ⟨hk.1.2, hk.1.1.1⟩⟩)))⟩; have n5_ : Aside0 (w34.heap[gb409]? = some (.cells #[.slice Ao32 t404.length co32, .int .i64 t407, .int .i64 t408] 53 (0, 0))) := ⟨(by rw [hw]; exact (by exact zp3 (zK BK409.1)))⟩; have n6_ : Aside0 (Below w.heap.size w w34) := ⟨(by rw [hw]; exact zB1)⟩; clear hw; clear HO_8; clear HO_9; clear HL400_0; clear HO403; clear HO406; clear BK409; clear HB; have HO_8 := n0_; have HO_9 := n1_; have HL400_0 := n2_; have HO403 := n3_; have HO406 := n4_; have BK409 := n5_; have HB := n6_; clear n0_ n1_ n2_ n3_ n4_ n5_ n6_; have hcz35 := zc_3 (w := w34) BK409.1; have p27 : 0 ≤ ((rd l2 x11_2) : Int) := zA; have q27 : ((rd l2 x11_2) : Int) < ((x9_2.length : Int) : Int) := zA; obtain ⟨go27, co27, eo27, gb27, gl27, cl27, HG27⟩ := Kd.S_form HO_9.1 (by omega); (first | cases eo27 | (injection eo27 with ea_ en_ ec_; (first | subst ea_ | (injection ea_ with ea_; subst ea_)); subst ec_; clear en_)); have GB27 := zM gb27; have GG27 := zM HG27; clear gb27 gl27 HG27; (first | simp only [add_plain] at hx400_0 | skip); (first | simp only [add_plain] at hx400_1 | skip); (first | simp only [add_plain] at hx400_2 | skip); obtain ⟨_, ce27, hcl27, hM27, hcc27, hfr27, _, _⟩ := Kd.S_elem HO_9.1 z53 ((rd l2 x11_2) : Int) p27 q27; obtain ⟨ve27_0, rfl, ge27_0⟩ := k53_openM hM27; have hx27_0 : w34.cell? ⟨go27, ((rd l2 x11_2) : Int).toNat * 3, none⟩ = some (ve27_0) := hcc27 0 _ rfl; have hx27_1 : w34.cell? ⟨go27, ((rd l2 x11_2) : Int).toNat * 3 + 1, none⟩ = some (.int .i64 ((rd_T53 x9_2 (rd l2 x11_2)).f1)) := hcc27 1 _ rfl; have hx27_2 : w34.cell? ⟨go27, ((rd l2 x11_2) : Int).toNat * 3 + 2, none⟩ = some (.int .i64 ((rd_T53 x9_2 (rd l2 x11_2)).f2)) := hcc27 2 _ rfl; have hf27_0 : w34.frozen? ⟨go27, ((rd l2 x11_2) : Int).toNat * 3, none⟩ = false := hfr27 0; have hf27_1 : w34.frozen? ⟨go27, ((rd l2 x11_2) : Int).toNat * 3 + 1, none⟩ = false := hfr27 1; have hf27_2 : w34.frozen? ⟨go27, ((rd l2 x11_2) : Int).toNat * 3 + 2, none⟩ = false := hfr27 2; clear hcl27 hcc27 hfr27 hM27; replace p27 := eq_true p27; replace q27 := eq_true q27; have HX36 := zM (show Kd.S k53 53 w34 w.heap.size (fun k_ => ((fun k_ => some k_ ≠ (.slice Ao29 x8_2.length co29 : Value).ownBlock ∧ some k_ ≠ (v402 : Value).ownBlock ∧ k_ ≠ gb409)) k_ ∧ ¬ ((fun k_ => some k_ = (.slice Ao32 t404.length co32 : Value).ownBlock)) k_) (.slice (some ⟨go27, 0, none⟩) x9_2.length co28) x9_2 from (by refine zrS ?_; exact Kd.S_mono HO_9.1 (fun k_ hk => ⟨⟨hk.1, ⟨hk.2.1, hk.2.2.2⟩⟩, fun e_ => hk.2.2.1 e_⟩))); obtain ⟨oki36, ce36, hcl36, hM36, hcc36, hfr36, hoki36, hH36⟩ := Kd.S_elem HX36.out z53 ((rd l2 x11_2) : Int) zA (by have h_ : ((rd l2 x11_2) : Int) < ((x9_2.length : Int) : Int) := zA; first | exact h_ | (have e_ := (Kd.S_reads' HO_9.1).1; omega) | simpa using h_); obtain ⟨ve36_0, rfl, ge36_0⟩ := k53_openM hM36; have HP36 := Kd.S_seg hH36 zA (by have h_ : ((rd l2 x11_2) : Int) < ((x9_2.length : Int) : Int) := zA; first | exact h_ | (have e_ := (Kd.S_reads' HO_9.1).1; omega) | simpa using h_) (seg := [.slice Ao32 t404.length co32, .int .i64 t407, .int .i64 t408]) (j := 0) (show 3 ≤ 3 from by decide) (x' := (⟨t404, t407, t408⟩ : S53)) (k53_mkM _ _ _ (⟨t404, t407, t408⟩ : S53) (Kd.R_mono (Kd.R_tight rfl (Kd.R_mono (ok' := fun k_ => ((fun k_ => some k_ ≠ (.slice Ao29 x8_2.length co29 : Value).ownBlock ∧ some k_ ≠ (v402 : Value).ownBlock ∧ k_ ≠ gb409)) k_ ∧ k_ ≠ go27) (Kd.R_types (Kd.R_apart' (HO406.1) (Kd.S_typed HO_9.1) (by decide)) BK409.1 (by decide)) (fun k_ hk => ⟨⟨hk.1.1.1, ⟨hk.1.1.2.2, hk.2⟩⟩, fun e_ => (hk.1.2) (by rw [e_]; rfl)⟩))) (fun _ h_ => Or.inr (h_)))) (fun _ hk => hk) (fun k_ hk_ => ((Kd.R_mono (ok' := fun k_ => ((fun k_ => some k_ ≠ (.slice Ao29 x8_2.length co29 : Value).ownBlock ∧ some k_ ≠ (v402 : Value).ownBlock ∧ k_ ≠ gb409)) k_ ∧ k_ ≠ go27) (Kd.R_types (Kd.R_apart' (HO406.1) (Kd.S_typed HO_9.1) (by decide)) BK409.1 (by decide)) (fun k_ hk => ⟨⟨hk.1.1.1, ⟨hk.1.1.2.2, hk.2⟩⟩, fun e_ => (hk.1.2) (by rw [e_]; rfl)⟩))).1 k_ hk_.symm); have hx36_0 := hcc36 0 _ rfl; (try simp only [show (k53).sz = 3 from rfl, Nat.mul_one, Nat.add_zero] at hx36_0); have hf36_0 := hfr36 0; (try simp only [show (k53).sz = 3 from rfl, Nat.mul_one, Nat.add_zero] at hf36_0); have hx36_1 := hcc36 1 _ rfl; (try simp only [show (k53).sz = 3 from rfl, Nat.mul_one, Nat.add_zero] at hx36_1); have hf36_1 := hfr36 1; (try simp only [show (k53).sz = 3 from rfl, Nat.mul_one, Nat.add_zero] at hf36_1); have hx36_2 := hcc36 2 _ rfl; (try simp only [show (k53).sz = 3 from rfl, Nat.mul_one, Nat.add_zero] at hx36_2); have hf36_2 := hfr36 2; (try simp only [show (k53).sz = 3 from rfl, Nat.mul_one, Nat.add_zero] at hf36_2); clear hcl36 hcc36 hfr36 hM36 hoki36 hH36) | ((with_reducible refine gate_store (t := 53) (p := 66) rfl ?_); refine store_event (t := 53) (p := 66) (v := ?vo_w37) (w1 := (((w34.setCell ⟨go27, ((rd l2 x11_2) : Int).toNat * 3, none⟩ (.slice Ao32 t404.length co32)).setCell ⟨go27, ((rd l2 x11_2) : Int).toNat * 3 + 1, none⟩ (.int .i64 t407)).setCell ⟨go27, ((rd l2 x11_2) : Int).toNat * 3 + 2, none⟩ (.int .i64 t408))) ?hg ?ho ?hn ?hr ?_; (case ho => rfl); (case hg => rfl); (case hn => rfl); (case hr => exact zHH); intro w37 hw; have hg : w34.grownBy w37 (some go27) := (by rw [hw]; exact HP36.2); have hp_ : Kd.S k53 53 w37 w.heap.size (fun k_ => some k_ ≠ (.slice Ao29 x8_2.length co29 : Value).ownBlock ∧ some k_ ≠ (v402 : Value).ownBlock ∧ k_ ≠ gb409) (.slice (some ⟨go27, 0, none⟩) x9_2.length co28) y410 := (by rw [hw, Ny410.1]; exact HP36.1); clear HP36; replace HO_8 := zM (Kd.R_over' (v := (.slice (some ⟨go27, 0, none⟩) x9_2.length co28)) (zR HO_8.1) (Kd.S_typed HO_9.1) (by decide) hg); replace HL400_0 := zM (Kd.R_after (v := (.slice (some ⟨go27, 0, none⟩) x9_2.length co28)) (v1 := (.slice (some ⟨go27, 0, none⟩) x9_2.length co28)) (ok := (fun k_ => some k_ ≠ (.slice Ao29 x8_2.length co29 : Value).ownBlock ∧ some k_ ≠ (v402 : Value).ownBlock ∧ some k_ ≠ (.slice Ao32 t404.length co32 : Value).ownBlock)) (by refine zrR ?_; exact Kd.R_mono HL400_0.1 (fun _ hk => ⟨⟨hk.1, ⟨hk.2.2.1, hk.2.2.2⟩⟩, hk.2.1⟩)) hg (.inl rfl)); replace HO403 := zM (Kd.R_over' (v := (.slice (some ⟨go27, 0, none⟩) x9_2.length co28)) (zR HO403.1) (Kd.S_typed HO_9.1) (by decide) hg); replace BK409 := zM (zg BK409.1 hg (Kd.S_away HO_9.1 (fun _ hk => hk.2.2.2))); replace HO_9 := zM hp_; replace HB := zM ((by rw [hw]; exact below_set (below_set (below_set (HB.1) GB27.1) GB27.1) GB27.1 : Below w.heap.size w w37)); clear HO406; clear hg hw hp_))
       go_roundg kj16
       case measure => have := HK1.1; have := HK2.1; have := HJ16.1; omega
       case rel => exact ⟨(t401), (y410), (wrap64 (x11_2 + 1)), zJJ, H', ⟨by have := HK1.1; have := HK2.1; have := HJ16.1; omega⟩, ⟨by refine zrR ?_; exact Kd.R_mono HO403.1 (fun _ hk => trivial)⟩, ⟨by refine zrS ?_; exact Kd.S_mono HO_9.1 (fun _ hk => hk.2.1)⟩, ⟨zB1⟩⟩

end Go.Proofs.Ytpcgecacaemalaa.PFnExactRunTo
