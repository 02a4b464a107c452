-- made by wip/tools/myprint.py out of the seat's translation
import Derived.Test.YtgbjengnkbomoaaPFnRacesx0
import Derived.Test.YtgbjengnkbomoaaPFnRacesx4
import Derived.Test.YtgbjengnkbomoaaPFnRacesx8
namespace Go.Proofs.Ytgbjengnkbomoaa.PFnRaces
open Go.RowKit Go.Proofs.YtgbjengnkbomoaaW.PrintWords Go.Proofs.YtgbjengnkbomoaaW.PrintLast Go.Proofs.YtgbjengnkbomoaaW.PrintMore
attribute [local go_sem] max2_int min2_int max_two min_two max_three min_three max_four min_four   -- for this text's walks alone
set_option linter.unusedVariables false
set_option linter.unusedSimpArgs false
set_option maxHeartbeats 8000000
set_option maxRecDepth 100000

/-! ### spec_HartNew: function 83 -/
def spec_HartNew.f (a0 : Int) : Option (List Int × Int × Int) := (spec_l9Address.f a0).bind fun t455 => (some ((List.replicate 4 0), t455, 0))
theorem spec_HartNew.calls (a0 : Int) (r1 : List Int) (r2 : Int) (r3 : Int) (w : World) (h : spec_HartNew.f a0 = some (r1, r2, r3)) :
  Calls Try.prog 83 #[.int .i64 a0] w fun e w' => ∃ v0_ : Value, e = .returned (.agg #[v0_, .int .i64 r2, .int .i64 r3]) ∧ Kd.R (Kd.int .i64) 3 w' w.heap.size (fun _ => True) v0_ r1 ∧ Below w.heap.size w w' := by
 have hu49 := Try.underlying49
 have HB := zM (Below.refl w.heap.size w)
 unfold spec_HartNew.f at h
 have H := h
 clear h
 generalize hy452 : ((List.replicate 4 0) : List Int) = y452 at H
 have Ny452 := zM hy452.symm
 clear hy452
 replace H := zO H
 obtain ⟨t455, A2, H⟩ := H
 simp only [Option.some.injEq, Prod.mk.injEq] at H
 obtain ⟨rfl, rfl, rfl⟩ := H
 go_enter Try.func83, Try.ntmps83
 try go_wp2_with (first | ((with_reducible refine zBx 2 49 #[.slice none 0 0, .int .i64 0, .int .i64 0] ?_); intro gb451 hg w3 hbox hb; have BK451 := zM hbox; have GW451 := zM (zW hg (below_size zB1)); have GE451 := zM (zW hg (below_size zB1)); replace HB := zM (below_step zB1 hb); clear hb hbox hg))
 replace BK451 := zM (blk_drew BK451.1)
 replace HB := zM (below_drew1 HB.1)
 refine start_ (n := 5) (S := fun w' => True) (ds := []) #[false, false, false, false, false] (by kernel_rfl) rfl rfl trivial (fun hHeld => ?_)
 generalize w3.drew = w4 at BK451 HB hHeld ⊢
 refine zPu 1 ?_
 refine join_ (σ := Value) 2 #[true, true, true, false, false] (fun s_ => [(3, s_), (5, .int .i64 t455)]) (fun s_ w' => (Kd.R (Kd.int .i64) 3 w' w.heap.size (fun _ => True) s_ y452) ∧ (w'.heap[gb451]? = some (.cells #[.slice none 0 0, .int .i64 0, .int .i64 0] 49 (0, 0))) ∧ (Below w.heap.size w w')) ?_ ?_
 rotate_left
 ·intro hCont
  refine two_ (i := 0) (j := 2) (Ni := some 3) (Nj := some 5) #[true, true, false, false, false] #[false, true, true, false, false] rfl rfl rfl rfl (by kernel_rfl) (by decide) (by decide) (fun K hK => ?_) (fun K hK => ?_)
  ·refine Kd.R_make_step (Kd.int .i64) _ 3 (by rfl) (N := 3) rfl 29 _ _ rfl 4 rfl rfl Try.underlying29 (.int .i64 0) 8 info3 rfl (by decide) (by omega) 0 (ok := fun _ => True) (okp := fun _ => True) rfl (fun _ hk => hk) trivial (by omega) (by omega) (Below.refl _ _) (Nat.le_refl _) ?_
   intro v453 w5 ho6 hb hg_ hnew_
   clear hg_ hnew_
   (first | rw [← Ny452.1] at ho6 | (simp only [Int.reduceToNat] at ho6; rw [← Ny452.1] at ho6))
   replace HO454 := zM (Kd.R_lower ho6 (below_size zB1))
   replace BK451 := zM (zb BK451.1 hb)
   replace HB := zM (below_step zB1 hb)
   refine hK.out _ _ trivial (fun hHeld => ?_)
   clear hK K
   refine zNo ?_
   refine zOn 2 (some 5) fun K hK => ?_
   refine zGs Try.func89 #[.int .i64 a0] ?_
   with_reducible refine (spec_l9Address.calls a0 t455 _ A2.1).mono ?_
   rintro e w' ⟨rfl, ⟨nd, rfl⟩⟩
   refine ⟨_, rfl, ?_⟩
   obtain ⟨Ao7, co7, eo7⟩ := Kd.R_slice HO454.1
   (first | subst eo7 | (injection eo7 with f1_ f2_ f3_; have f4_ := f1_.symm; have f5_ := f3_.symm; clear f1_ f2_ f3_; subst f4_; subst f5_))
   refine hK.out _ _ trivial (fun hHeld => ?_)
   clear hK K
   refine zNo ?_
   exact norm_ zNr (hCont (.slice Ao7 y452.length co7) _ ⟨(zR HO454.1), (zK BK451.1), zB1⟩)
  ·refine zGs Try.func89 #[.int .i64 a0] ?_
   with_reducible refine (spec_l9Address.calls a0 t455 _ A2.1).mono ?_
   rintro e w' ⟨rfl, ⟨nd, rfl⟩⟩
   refine ⟨_, rfl, ?_⟩
   refine hK.out _ _ trivial (fun hHeld => ?_)
   clear hK K
   refine zNo ?_
   refine zOn 0 (some 3) fun K hK => ?_
   refine Kd.R_make_step (Kd.int .i64) _ 3 (by rfl) (N := 3) rfl 29 _ _ rfl 4 rfl rfl Try.underlying29 (.int .i64 0) 8 info3 rfl (by decide) (by omega) 0 (ok := fun _ => True) (okp := fun _ => True) rfl (fun _ hk => hk) trivial (by omega) (by omega) (Below.refl _ _) (Nat.le_refl _) ?_
   intro v453 w5 ho6 hb hg_ hnew_
   clear hg_ hnew_
   (first | rw [← Ny452.1] at ho6 | (simp only [Int.reduceToNat] at ho6; rw [← Ny452.1] at ho6))
   replace HO454 := zM (Kd.R_lower ho6 (below_size zB1))
   replace BK451 := zM (zb BK451.1 hb)
   replace HB := zM (below_step zB1 hb)
   obtain ⟨Ao7, co7, eo7⟩ := Kd.R_slice HO454.1
   (first | subst eo7 | (injection eo7 with f1_ f2_ f3_; have f4_ := f1_.symm; have f5_ := f3_.symm; clear f1_ f2_ f3_; subst f4_; subst f5_))
   refine hK.out _ _ trivial (fun hHeld => ?_)
   clear hK K
   refine zNo ?_
   exact norm_ zNr (hCont (.slice Ao7 y452.length co7) _ ⟨(zR HO454.1), (zK BK451.1), zB1⟩)
 rintro v453 w8 ⟨h0_, h1_, h2_⟩
 replace HO454 := zM h0_
 replace BK451 := zM h1_
 replace HB := zM h2_
 have hHeld := trivial
 obtain ⟨Ao9, co9, eo9⟩ := Kd.R_slice HO454.1
 (first | subst eo9 | (injection eo9 with f1_ f2_ f3_; have f4_ := f1_.symm; have f5_ := f3_.symm; clear f1_ f2_ f3_; subst f4_; subst f5_))
 refine zNp ?_
 refine zPu 3 ?_
 refine zOn 4 none fun K hK => ?_
 obtain ⟨hs10, hfs10⟩ := zHs BK451.1 0
 obtain ⟨hs11, hfs11⟩ := zHs BK451.1 1
 obtain ⟨hs12, hfs12⟩ := zHs BK451.1 2
 refine skip_ (w1 := ?_) (by rfl) rfl ?_ ?_
 rotate_left
 ·go_simp
  rfl
 refine hK.out _ _ trivial (fun hHeld => ?_)
 clear hK K
 refine done_ (by kernel_rfl) ?_
 try go_wp2
 refine bodyPost_ret (results_cell_row rfl _ _ gb451 49 #[.slice Ao9 y452.length co9, .int .i64 t455, .int .i64 0] (0, 0) _ rfl (by exact zp3 (zK BK451.1)) Try.underlying49 rfl (by kernel_rfl)) rfl ?_
 exact ⟨_, zE, by refine zrR ?_; exact Kd.R_mono (zfR (zfR (zfR (Kd.R_types HO454.1 BK451.1 (by decide))))) (fun _ hk => trivial), zB1⟩

/-! ### spec_l9DrawHart: function 82 -/
def spec_l9DrawHart.l0 : Nat → Int → List Int → Int → Int → List Int → Int → Int → Option (List Int × Int × Int × Int × Int)
 | 0, _, _, _, _, _, _, _ => none
 | k + 1, x4, x1000, x1001, x1002, x466000, x466001, x466002 => if x4 < 4 then ((spec_l1PickInt.f x1000 x1001 x1002 (([0, 1, 2, 20, 65535] : List Int))).bind fun bt469 => (if 0 ≤ x4 then (if x4 < (x466000.length : Int) then (spec_l9DrawHart.l0 k (wrap64 (x4 + 1)) x1000 bt469.2.1 bt469.2.2 (x466000.set (x4 : Int).toNat bt469.1) x466001 x466002) else (none)) else (none))) else ((spec_l1Below.f x1000 x1001 x1002 12).bind fun bt473 => (if bt473.1 = 0 then ((spec_l1Below.f x1000 bt473.2.1 bt473.2.2 5).bind fun bt476 => (some (x466000, x466001, wrap64 (bt476.1 - 1), bt476.2.1, bt476.2.2))) else (if bt473.1 = 1 then ((spec_l1PickInt.f x1000 bt473.2.1 bt473.2.2 (([(-1), 65536] : List Int))).bind fun bt482 => (if 0 < (x466000.length : Int) then (some ((x466000.set (0 : Int).toNat bt482.1), x466001, x466002, bt482.2.1, bt482.2.2)) else (none))) else (if bt473.1 = 2 then ((spec_l1PickInt.f x1000 bt473.2.1 bt473.2.2 (([(-1), 24] : List Int))).bind fun bt489 => (some (x466000, bt489.1, x466002, bt489.2.1, bt489.2.2))) else (if bt473.1 = 3 then (if (x466000.length : Int) = 4 then (some ((x466000.drop (1 : Int).toNat), x466001, x466002, bt473.2.1, bt473.2.2)) else (none)) else (some (x466000, x466001, x466002, bt473.2.1, bt473.2.2)))))))
def spec_l9DrawHart.f (k : Nat) (s0_0 : List Int) (s0_1 : Int) (s0_2 : Int) : Option (List Int × Int × Int × Int × Int) := (spec_l1Below.f s0_0 s0_1 s0_2 20).bind fun bt457 => ((spec_HartNew.f bt457.1).bind fun bt460 => (spec_l9DrawHart.l0 k 0 s0_0 bt457.2.1 bt457.2.2 bt460.1 bt460.2.1 bt460.2.2))
theorem spec_l9DrawHart.mono_l : ∀ k, (∀ y0 y1 y2 y3 y4 y5 y6, LeO (spec_l9DrawHart.l0 k y0 y1 y2 y3 y4 y5 y6) (spec_l9DrawHart.l0 (k + 1) y0 y1 y2 y3 y4 y5 y6))
 | 0 => fun _ _ _ _ _ _ _ r h => by simp [spec_l9DrawHart.l0] at h
 | k + 1 => by
  have ih0 := spec_l9DrawHart.mono_l k
  ·intros
   unfold spec_l9DrawHart.l0
   exact zL
theorem spec_l9DrawHart.mono : ∀ a0 a1 a2 k, LeO (spec_l9DrawHart.f k a0 a1 a2) (spec_l9DrawHart.f (k + 1) a0 a1 a2) := by
 intro a0 a1 a2 k
 have ih0 := spec_l9DrawHart.mono_l k
 unfold spec_l9DrawHart.f
 exact zL
def spec_l9DrawHart.T5 : Bool × List (List Nat × List Nat) := (true, [([], []), ([0], [0]), ([], []), ([], []), ([], []), ([3, 4], [3, 4]), ([1, 2, 0, 1, 2, 3, 4, 5], [1, 2]), ([6, 5, 5, 0, 1, 2, 3, 4, 5], [5, 6])])
def spec_l9DrawHart.B5 : List Nat := [0, 1, 0, 0, 0, 24, 63, 127]
theorem spec_l9DrawHart.tab5 : rtab .any (opsOf Try.f82 5) = spec_l9DrawHart.T5 := by kernel_rfl
theorem spec_l9DrawHart.bits5 : waitsOk spec_l9DrawHart.T5.2 spec_l9DrawHart.B5 = true := by kernel_rfl
theorem QR_of {e b : Nat} {ok : Nat → Prop} {W : World} {v : Value} {xs : List Int} (h : Kd.R (Kd.int .i64) e W b ok v xs) : Kd.Q (Kd.int .i64) e W b ok v xs ∧ (xs.length = 4 → Kd.R (Kd.int .i64) e W b ok v xs) := ⟨Kd.Q_of_R h, fun _ => h⟩
theorem spec_l9DrawHart.calls (k : Nat) (g : Nat) (s0_0 : List Int) (s0_1 : Int) (s0_2 : Int) (r1 : List Int) (r2 : Int) (r3 : Int) (r4 : Int) (r5 : Int) (w0 w : World) (hI : IsS90 w0 w g s0_0 s0_1 s0_2) (hB : Below w0.heap.size w0 w) (h : spec_l9DrawHart.f k s0_0 s0_1 s0_2 = some (r1, r2, r3, r4, r5)) :
  Calls Try.prog 82 #[.pointer (some ⟨g, 0, none⟩)] w fun e w' => ∃ v0_ : Value, e = .returned (.agg #[v0_, .int .i64 r2, .int .i64 r3]) ∧ (Kd.Q (Kd.int .i64) 3 w' w.heap.size (fun _ => True) v0_ r1 ∧ (r1.length = 4 → Kd.R (Kd.int .i64) 3 w' w.heap.size (fun _ => True) v0_ r1)) ∧ IsS90 w0 w' g s0_0 r4 r5 ∧ Below w0.heap.size w0 w' ∧ KeepBut w w' g none := by
 have hu49 := Try.underlying49
 have HI0 := zM hI
 have HK := zM (KeepBut.refl w g none)
 have HL := zM hB.size
 clear hI
 have HW0 := zM hB.size
 have HB := zM hB
 clear hB
 unfold spec_l9DrawHart.f at h
 have H := h
 clear h
 replace H := zO H
 obtain ⟨⟨t457, t458, t459⟩, A2, H⟩ := H
 try dsimp only at H
 replace H := zO H
 obtain ⟨⟨t460, t463, t464⟩, A3, H⟩ := H
 try dsimp only at H
 have H' := zM H
 clear H
 go_enter Try.func82, Try.ntmps82
 go_wp2_with (first | ((with_reducible refine zBx 2 49 #[.slice none 0 0, .int .i64 0, .int .i64 0] ?_); intro gb456 hg w4 hbox hb; replace HB := zM (below_step zB33 hb); have BK456 := zM hbox; have GW456 := zM ((by rw [hg]; exact (keep_size (w := w) (g := g) (row := none) zB34) : w.heap.size ≤ gb456)); have GE456 := zM ((Nat.le_trans HW0.1 (by rw [hg]; exact (keep_size (w := w) (g := g) (row := none) zB34) : w.heap.size ≤ gb456) : w0.heap.size ≤ gb456)); replace HK := zM (KeepBut.trans zB34 (KeepBut.of_below hb g none) (.inl rfl)); have NB0_456 := zM ((by rw [hg]; exact Nat.ne_of_lt (IsS90.lt (show IsS90 w0 _ g s0_0 s0_1 s0_2 from zB32)) : g ≠ gb456)); have NB456_0 := zM ((by rw [hg]; exact Nat.ne_of_gt (IsS90.lt (show IsS90 w0 _ g s0_0 s0_1 s0_2 from zB32)) : gb456 ≠ g)); replace HI0 := zM (IsS90.below zB32 hb); clear hb hbox hg) | ((with_reducible refine zG Try.func42 6 #[.pointer (some ⟨g, 0, none⟩), .int .i64 20] ?_); (with_reducible refine (spec_l1Below.calls g s0_0 s0_1 s0_2 20 t457 t458 t459 w0 _ ?side1 ?side2 A2.1).mono ?_); (case side1 => exact zB43); (case side2 => exact zB33); rintro e w5 ⟨rfl, hi, hb, hk⟩; refine ⟨_, rfl, ?_⟩; replace BK456 := zM (zh hk BK456.1 NB456_0.1); replace HK := zM (KeepBut.trans zB34 hk (.inl rfl)); replace HB := zM hb; replace HI0 := zM hi; clear hb hk hi) | ((with_reducible refine zG Try.func83 7 #[.int .i64 t457] ?_); (with_reducible refine (spec_HartNew.calls t457 t460 t463 t464 _ A3.1).mono ?_); rintro e w6 ⟨v461, rfl, ho0, hb⟩; refine ⟨_, rfl, ?_⟩; have HO462 := zM (Kd.R_lower ho0 (keep_size (w := w) (g := g) (row := none) zB34)); replace BK456 := zM (zb BK456.1 hb); replace HK := zM (KeepBut.trans zB34 (KeepBut.of_below hb g none) (.inl rfl)); replace HB := zM (below_step zB33 hb); replace HI0 := zM (IsS90.below zB43 hb); clear hb ho0) | ((with_reducible refine zBx 3 49 #[.slice none 0 0, .int .i64 0, .int .i64 0] ?_); intro gb465 hg w7 hbox hb; replace HO462 := zM (Kd.R_below (zR HO462.1) hb); replace HB := zM (below_step zB33 hb); have BK465 := zM hbox; have GW465 := zM ((by rw [hg]; exact (keep_size (w := w) (g := g) (row := none) zB34) : w.heap.size ≤ gb465)); have GE465 := zM ((Nat.le_trans HW0.1 (by rw [hg]; exact (keep_size (w := w) (g := g) (row := none) zB34) : w.heap.size ≤ gb465) : w0.heap.size ≤ gb465)); replace HK := zM (KeepBut.trans zB34 (KeepBut.of_below hb g none) (.inl rfl)); have NB456_465 := zM ((zn BK456.1 hg : gb456 ≠ gb465)); have NB465_456 := zM ((zm BK456.1 hg : gb465 ≠ gb456)); replace BK456 := zM (zb BK456.1 hb); have NB0_465 := zM ((by rw [hg]; exact Nat.ne_of_lt (IsS90.lt (show IsS90 w0 _ g s0_0 t458 t459 from zB43)) : g ≠ gb465)); have NB465_0 := zM ((by rw [hg]; exact Nat.ne_of_gt (IsS90.lt (show IsS90 w0 _ g s0_0 t458 t459 from zB43)) : gb465 ≠ g)); replace HI0 := zM (IsS90.below zB43 hb); clear hb hbox hg; obtain ⟨Ao8, co8, eo8⟩ := Kd.R_slice HO462.1; subst eo8; have hnb9 := NB465_456.1; have hnc9 := NB456_465.1; have hnb10 := NB465_0.1; have hnc10 := NB0_465.1; have hcz11 := zc_3 (w := w7) BK465.1))
 go_loopg [4] k (fun kq v4 w' => ∃ (x4_1 : Int) (x1001_1 : Int) (x1002_1 : Int) (x466000_1 : List Int) (u466000 : Value), v4 = .int .i64 x4_1 ∧ Aside0 (spec_l9DrawHart.l0 kq x4_1 s0_0 x1001_1 x1002_1 x466000_1 t463 t464 = some (r1, r2, r3, r4, r5)) ∧ Aside0 (kq ≤ k) ∧ Aside0 (Kd.R (Kd.int .i64) 3 w' w.heap.size (fun _ => True) u466000 x466000_1) ∧ Aside0 (w'.heap[gb456]? = some (.cells #[(.slice none 0 0), .int .i64 0, .int .i64 0] 49 (0, 0))) ∧ Aside0 (w'.heap[gb465]? = some (.cells #[u466000, .int .i64 t463, .int .i64 t464] 49 (0, 0))) ∧ Aside0 (IsS90 w0 w' g s0_0 x1001_1 x1002_1) ∧ Aside0 (KeepBut w w' g none) ∧ Aside0 (Below w0.heap.size w0 w'))
 case atStart => exact ⟨(0), (t458), (t459), (t460), (.slice Ao8 t460.length co8), zJJ, H', ⟨Nat.le_refl _⟩, ⟨by refine zrR ?_; exact Kd.R_mono (zfR (zfR (zfR (Kd.R_types HO462.1 BK465.1 (by decide))))) (fun _ hk => trivial)⟩, ⟨zPq⟩, ⟨by exact zp3 (zK BK465.1)⟩, ⟨zB46⟩, ⟨zB34⟩, ⟨zB33⟩⟩
 case round =>
  clear H'
  obtain ⟨x4_1, x1001_1, x1002_1, x466000_1, u466000, rfl, HA, HK1, HO_466000, BK456, BK465, HI0, HK, HB⟩ := hrel
  cases gk with
  | zero => exact absurd HA.1 (by simp [spec_l9DrawHart.l0])
  | succ k1 =>
   have H := HA.1
   clear HA
   simp only [spec_l9DrawHart.l0] at H
   by_cases c12 : x4_1 < 4
   ·rw [if_pos c12] at H
    have c12b0 := decide_eq_true c12
    clear c12
    generalize hy466 : ((([0, 1, 2, 20, 65535] : List Int)) : List Int) = y466 at H
    have Ny466 := zM hy466.symm
    clear hy466
    replace H := zO H
    obtain ⟨⟨t469, t470, t471⟩, A13, H⟩ := H
    try dsimp only at H
    replace H := zIt H
    obtain ⟨c14b0, H⟩ := H
    replace H := zIt H
    obtain ⟨c15b0, H⟩ := H
    generalize hy472 : ((x466000_1.set (x4_1 : Int).toNat t469) : List Int) = y472 at H
    have Ny472 := zM hy472.symm
    clear hy472
    have H' := zM H
    clear H
    try go_wp2
    replace HO_466000 := zM (Kd.R_drew HO_466000.1)
    replace BK456 := zM (blk_drew BK456.1)
    replace BK465 := zM (blk_drew BK465.1)
    replace HI0 := zM (IsS90.drew HI0.1)
    replace HK := zM (keep_drew HK.1)
    replace HB := zM (below_drew1 HB.1)
    refine start_ (n := 8) (S := fun w' => w'.cell? ⟨gb465, 0, none⟩ = some (u466000) ∧ w'.cell? ⟨gb465, 1, none⟩ = some (.int .i64 t463) ∧ w'.cell? ⟨gb465, 2, none⟩ = some (.int .i64 t464)) (ds := [7]) #[false, false, false, false, false, false, false, false] (by kernel_rfl) rfl rfl ⟨(blk_cell BK465.1 0).trans rfl, (blk_cell BK465.1 1).trans rfl, (blk_cell BK465.1 2).trans rfl⟩ (fun hHeld => ?_); refine with_tabW spec_l9DrawHart.tab5 spec_l9DrawHart.bits5 (fun HT_ HW_ => ?_)
    generalize wr.drew = w17 at HO_466000 BK456 BK465 HI0 HK HB hHeld ⊢
    refine zPu 0 ?_
    refine zPu 2 ?_
    refine zPu 3 ?_
    refine zTk3 1 hHeld ?_
    refine zOn 4 (some 16) fun K hK => ?_
    refine Kd.R_lit_step (Kd.int .i64) _ 3 ?hg (N := 16) ?hd (xs := ([0, 1, 2, 20, 65535] : List Int)) (inner := [.int .i64 0, .int .i64 1, .int .i64 2, .int .i64 20, .int .i64 65535]) (ok := fun _ => True) (okp := fun _ => True) ?hr ?hp (fun _ hk => hk) trivial (Below.refl _ _) (Nat.le_refl _) (by simp) ?_; (case hd => rfl); (case hg => rfl); (case hr => exact zHH); (case hp => exact (Reps.one (show Kd.M (Kd.int .i64) _ _ _ 0 [.int .i64 0] from rfl) (Reps.one (show Kd.M (Kd.int .i64) _ _ _ 1 [.int .i64 1] from rfl) (Reps.one (show Kd.M (Kd.int .i64) _ _ _ 2 [.int .i64 2] from rfl) (Reps.one (show Kd.M (Kd.int .i64) _ _ _ 20 [.int .i64 20] from rfl) (Reps.one (show Kd.M (Kd.int .i64) _ _ _ 65535 [.int .i64 65535] from rfl) (Reps.none _ _)))))))
    intro v467 w18 ho19 hb hg_ hnew_
    clear hg_ hnew_
    (first | rw [← Ny466.1] at ho19 | (simp only [Int.reduceToNat] at ho19; rw [← Ny466.1] at ho19))
    have n0_ := zM (Kd.R_elder' (zR HO_466000.1) (Kd.R_base ho19) hb)
    have n1_ := zM (Kd.R_lower (Kd.R_new' ho19 (Kd.R_lt (zR HO_466000.1))) (keep_size (w := w) (g := g) (row := none) zB34))
    have n2_ := zM (zb BK456.1 hb)
    have n3_ := zM (zb BK465.1 hb)
    have n4_ := zM (IsS90.below zB46 hb)
    have n5_ := zM (KeepBut.trans zB34 (KeepBut.of_below hb g none) (.inl rfl))
    have n6_ := zM (below_step zB33 hb)
    clear HO_466000 BK456 BK465 HI0 HK HB
    have HO_466000 := n0_
    have HO468 := n1_
    have BK456 := n2_
    have BK465 := n3_
    have HI0 := n4_
    have HK := n5_
    have HB := n6_
    clear n0_ n1_ n2_ n3_ n4_ n5_ n6_ hb ho19
    obtain ⟨Ao20, co20, eo20⟩ := Kd.R_slice HO468.1
    (first | subst eo20 | (injection eo20 with f1_ f2_ f3_; have f4_ := f1_.symm; have f5_ := f3_.symm; clear f1_ f2_ f3_; subst f4_; subst f5_))
    refine hK.out _ _ zCs fun hHeld => ?_
    clear hK K
    refine zNo ?_
    refine zOn 5 (some 17) fun K hK => ?_
    refine zGs Try.func61 #[.pointer (some ⟨g, 0, none⟩), .slice Ao20 y466.length co20] ?_
    with_reducible refine (spec_l1PickInt.calls g s0_0 x1001_1 x1002_1 _ _ y466 t469 t470 t471 w0 _ ?side1 ?side2 ?side3 ?side4 ?side5 A13.1).mono ?_
    (case side1 => exact zB46)
    (case side2 => exact zB33)
    (case side3 => exact zC (Kd.R_reads' HO468.1).2.2)
    (case side4 => exact (Kd.R_reads' HO468.1).2.1)
    (case side5 => exact far_slice (IsS90.own_ne HI0.1 HO468.1 (by decide)))
    rintro e w21 ⟨rfl, hi, hb, hk⟩
    refine ⟨_, rfl, ?_⟩
    replace HO_466000 := zM (Kd.R_mono (Kd.R_keep (IsS90.apart (show IsS90 w0 _ g s0_0 x1001_1 x1002_1 from zB46) (zR HO_466000.1) (by decide)) hk (fun _ h => h.2)) (fun _ h => h.1))
    replace BK456 := zM (zh hk BK456.1 NB456_0.1)
    replace BK465 := zM (zh hk BK465.1 NB465_0.1)
    replace HO468 := zM (Kd.R_mono (Kd.R_keep (IsS90.apart (show IsS90 w0 _ g s0_0 x1001_1 x1002_1 from zB46) (zR HO468.1) (by decide)) hk (fun _ h => h.2)) (fun _ h => h.1))
    replace HK := zM (KeepBut.trans zB34 hk (.inl rfl))
    replace HB := zM hb
    replace HI0 := zM hi
    have p16 : 0 ≤ (x4_1 : Int) := zA
    have q16 : (x4_1 : Int) < ((x466000_1.length : Int) : Int) := zA
    obtain ⟨go16, co16, eo16, gb16, gl16, cl16, HG16⟩ := Kd.R_form HO_466000.1 (by omega)
    (first | cases eo16 | (injection eo16 with ea_ en_ ec_; (first | subst ea_ | (injection ea_ with ea_; subst ea_)); subst ec_; clear en_))
    have GB16 := zM gb16
    have GG16 := zM HG16
    clear gb16 gl16 HG16
    obtain ⟨hx16_0, hf16_0⟩ := Kd.R_celln 0 HO_466000.1 (x4_1 : Int) p16 q16
    replace p16 := eq_true p16
    replace q16 := eq_true q16
    have HN0_go16 := zM (show g ≠ go16 from by have h_ := IsS90.own_ne HI0.1 HO_466000.1 (by decide); intro e_; exact h_ (by rw [e_]; rfl))
    have HP22 := Kd.R_putn HO_466000.1 (x4_1 : Int) t469
    rw [← Ny472.1] at HP22
    have HQ22 := zM HP22
    clear HP22
    refine hK.out _ _ zCs fun hHeld => ?_
    clear hK K
    refine zNo ?_
    refine zPu 6 ?_
    refine last_ (i := 7) (N := none) #[true, true, true, true, true, true, true, true] rfl rfl (one_of HT_.1 (by kernel_rfl)) (by decide) (fun K hK => ?_)
    refine skip_ (w1 := ?_) (by rfl) rfl ?_ ?_
    rotate_left
    ·go_simp
     rfl
    refine hK.out _ _ ?_
    clear hK K
    refine done_ (done_of HT_.1 (by kernel_rfl)) ?_
    try go_wp2
    go_roundg k1
    case measure => have := HK1.1; omega
    case rel => exact ⟨(wrap64 (x4_1 + 1)), (t470), (t471), (y472), (.slice (some ⟨go16, 0, none⟩) x466000_1.length co16), zJJ, H', ⟨by have := HK1.1; omega⟩, ⟨by refine zrR ?_; exact Kd.R_mono HQ22.out (fun _ hk => trivial)⟩, ⟨by refine zP ?_; refine blk_far ?_ (by have h_ := Kd.R_ne HO_466000.1 BK456.1 (by decide); intro e_; exact h_ (by rw [e_]; rfl)) _; refine zP ?_; exact BK456.1⟩, ⟨by refine zP ?_; refine blk_far ?_ (by have h_ := Kd.R_ne HO_466000.1 BK465.1 (by decide); intro e_; exact h_ (by rw [e_]; rfl)) _; refine zP ?_; exact BK465.1⟩, ⟨zB49⟩, ⟨zB34⟩, ⟨zB51⟩⟩
   rw [if_neg c12] at H
   have c12b0 := decide_eq_false c12
   clear c12
   replace H := zO H
   obtain ⟨⟨t473, t474, t475⟩, A23, H⟩ := H
   try dsimp only at H
   by_cases c24 : t473 = 0
   ·rw [if_pos c24] at H
    have c24b0 : (t473 == 0) = true := beq_iff_eq.mpr c24
    have c24b1 : (t473 != 0) = false := bne_eq_false_iff_eq.mpr c24
    clear c24
    replace H := zO H
    obtain ⟨⟨t476, t477, t478⟩, A25, H⟩ := H
    try dsimp only at H
    simp only [Option.some.injEq, Prod.mk.injEq] at H
    obtain ⟨rfl, rfl, rfl, rfl, rfl⟩ := H
    go_wp2_with (first | ((with_reducible refine zG Try.func42 20 #[.pointer (some ⟨g, 0, none⟩), .int .i64 12] ?_); (with_reducible refine (spec_l1Below.calls g s0_0 x1001_1 x1002_1 12 t473 t474 t475 w0 _ ?side1 ?side2 A23.1).mono ?_); (case side1 => exact zB46); (case side2 => exact zB33); rintro e w26 ⟨rfl, hi, hb, hk⟩; refine ⟨_, rfl, ?_⟩; replace HO_466000 := zM (Kd.R_mono (Kd.R_keep (IsS90.apart (show IsS90 w0 _ g s0_0 x1001_1 x1002_1 from zB46) (zR HO_466000.1) (by decide)) hk (fun _ h => h.2)) (fun _ h => h.1)); replace BK456 := zM (zh hk BK456.1 NB456_0.1); replace BK465 := zM (zh hk BK465.1 NB465_0.1); replace HK := zM (KeepBut.trans zB34 hk (.inl rfl)); replace HB := zM hb; replace HI0 := zM hi; clear hb hk hi) | ((with_reducible refine zG Try.func42 24 #[.pointer (some ⟨g, 0, none⟩), .int .i64 5] ?_); (with_reducible refine (spec_l1Below.calls g s0_0 t474 t475 5 t476 t477 t478 w0 _ ?side1 ?side2 A25.1).mono ?_); (case side1 => exact zB46); (case side2 => exact zB33); rintro e w27 ⟨rfl, hi, hb, hk⟩; refine ⟨_, rfl, ?_⟩; replace HO_466000 := zM (Kd.R_mono (Kd.R_keep (IsS90.apart (show IsS90 w0 _ g s0_0 t474 t475 from zB46) (zR HO_466000.1) (by decide)) hk (fun _ h => h.2)) (fun _ h => h.1)); replace BK456 := zM (zh hk BK456.1 NB456_0.1); replace BK465 := zM (zh hk BK465.1 NB465_0.1); replace HK := zM (KeepBut.trans zB34 hk (.inl rfl)); replace HB := zM hb; replace HI0 := zM hi; clear hb hk hi; have hnb28 := NB465_456.1; have hnc28 := NB456_465.1; have hnb29 := NB465_0.1; have hnc29 := NB0_465.1; have hcz30 := zc_3 (w := w27) BK465.1; obtain ⟨Ao31, co31, eo31⟩ := Kd.R_slice HO_466000.1; subst eo31; have hnb32 := NB456_0.1; have hnc32 := NB0_456.1; have hcz33 := zc_3 (w := w27) BK456.1))
    refine bodyPost_ret (results_cell_row rfl _ _ gb456 49 #[.slice Ao31 x466000_1.length co31, .int .i64 t463, .int .i64 (wrap64 (t476 - 1))] (0, 0) _ rfl zPq Try.underlying49 rfl (by kernel_rfl)) rfl ?_
    exact ⟨_, zE, QR_of (by refine zrR ?_; exact Kd.R_mono (zfR (zfR (zfR (zgR (Kd.R_types (Kd.R_types HO_466000.1 BK465.1 (by decide)) BK456.1 (by decide)))))) (fun _ hk => trivial)), zB46, zB33, zB34⟩
   rw [if_neg c24] at H
   have c24b0 : (t473 == 0) = false := beq_eq_false_iff_ne.mpr c24
   have c24b1 : (t473 != 0) = true := bne_iff_ne.mpr c24
   by_cases c34 : t473 = 1
   rotate_left
   ·rw [if_neg c34] at H
    have c34b0 : (t473 == 1) = false := beq_eq_false_iff_ne.mpr c34
    have c34b1 : (t473 != 1) = true := bne_iff_ne.mpr c34
    by_cases c51 : t473 = 2
    ·rw [if_pos c51] at H
     have c51b0 : (t473 == 2) = true := beq_iff_eq.mpr c51
     have c51b1 : (t473 != 2) = false := bne_eq_false_iff_eq.mpr c51
     clear c51
     generalize hy486 : ((([(-1), 24] : List Int)) : List Int) = y486 at H
     have Ny486 := zM hy486.symm
     clear hy486
     replace H := zO H
     obtain ⟨⟨t489, t490, t491⟩, A52, H⟩ := H
     try dsimp only at H
     simp only [Option.some.injEq, Prod.mk.injEq] at H
     obtain ⟨rfl, rfl, rfl, rfl, rfl⟩ := H
     go_wp2_with (first | ((with_reducible refine zG Try.func42 20 #[.pointer (some ⟨g, 0, none⟩), .int .i64 12] ?_); (with_reducible refine (spec_l1Below.calls g s0_0 x1001_1 x1002_1 12 t473 t474 t475 w0 _ ?side1 ?side2 A23.1).mono ?_); (case side1 => exact zB46); (case side2 => exact zB33); rintro e w53 ⟨rfl, hi, hb, hk⟩; refine ⟨_, rfl, ?_⟩; replace HO_466000 := zM (Kd.R_mono (Kd.R_keep (IsS90.apart (show IsS90 w0 _ g s0_0 x1001_1 x1002_1 from zB46) (zR HO_466000.1) (by decide)) hk (fun _ h => h.2)) (fun _ h => h.1)); replace BK456 := zM (zh hk BK456.1 NB456_0.1); replace BK465 := zM (zh hk BK465.1 NB465_0.1); replace HK := zM (KeepBut.trans zB34 hk (.inl rfl)); replace HB := zM hb; replace HI0 := zM hi; clear hb hk hi) | ((with_reducible refine gate_dst (N := 38) rfl ?_); refine Kd.R_lit (Kd.int .i64) _ 3 ?hg (N := 38) ?hd (xs := ([(-1), 24] : List Int)) (inner := [.int .i64 (-1), .int .i64 24]) (ok := fun _ => True) (okp := fun _ => True) ?hr ?hp (fun _ hk => hk) trivial (Below.refl _ _) (Nat.le_refl _) (by simp) ?_; (case hd => rfl); (case hg => rfl); (case hr => exact zHH); (case hp => exact (Reps.one (show Kd.M (Kd.int .i64) _ _ _ (-1) [.int .i64 (-1)] from rfl) (Reps.one (show Kd.M (Kd.int .i64) _ _ _ 24 [.int .i64 24] from rfl) (Reps.none _ _)))); intro v487 w54 ho55 hb hg_ hnew_; clear hg_ hnew_; (first | rw [← Ny486.1] at ho55 | (simp only [Int.reduceToNat] at ho55; rw [← Ny486.1] at ho55)); have HO488 := zM (Kd.R_lower (Kd.R_new' ho55 (Kd.R_lt (zR HO_466000.1))) (keep_size (w := w) (g := g) (row := none) zB34)); replace HO_466000 := zM (Kd.R_elder' (zR HO_466000.1) (Kd.R_base ho55) hb); replace BK456 := zM (zb BK456.1 hb); replace BK465 := zM (zb BK465.1 hb); replace HK := zM (KeepBut.trans zB34 (KeepBut.of_below hb g none) (.inl rfl)); replace HB := zM (below_step zB33 hb); replace HI0 := zM (IsS90.below zB46 hb); clear hb ho55; obtain ⟨Ao56, co56, eo56⟩ := Kd.R_slice HO488.1; subst eo56) | ((with_reducible refine zG Try.func61 39 #[.pointer (some ⟨g, 0, none⟩), .slice Ao56 y486.length co56] ?_); (with_reducible refine (spec_l1PickInt.calls g s0_0 t474 t475 _ _ y486 t489 t490 t491 w0 _ ?side1 ?side2 ?side3 ?side4 ?side5 A52.1).mono ?_); (case side1 => exact zB46); (case side2 => exact zB33); (case side3 => exact zC (Kd.R_reads' HO488.1).2.2); (case side4 => exact (Kd.R_reads' HO488.1).2.1); (case side5 => exact far_slice (IsS90.own_ne HI0.1 HO488.1 (by decide))); rintro e w57 ⟨rfl, hi, hb, hk⟩; refine ⟨_, rfl, ?_⟩; replace HO_466000 := zM (Kd.R_mono (Kd.R_keep (IsS90.apart (show IsS90 w0 _ g s0_0 t474 t475 from zB46) (zR HO_466000.1) (by decide)) hk (fun _ h => h.2)) (fun _ h => h.1)); replace BK456 := zM (zh hk BK456.1 NB456_0.1); replace BK465 := zM (zh hk BK465.1 NB465_0.1); replace HO488 := zM (Kd.R_mono (Kd.R_keep (IsS90.apart (show IsS90 w0 _ g s0_0 t474 t475 from zB46) (zR HO488.1) (by decide)) hk (fun _ h => h.2)) (fun _ h => h.1)); replace HK := zM (KeepBut.trans zB34 hk (.inl rfl)); replace HB := zM hb; replace HI0 := zM hi; clear hb hk hi; have hnb58 := NB465_456.1; have hnc58 := NB456_465.1; have hnb59 := NB465_0.1; have hnc59 := NB0_465.1; have hcz60 := zc_3 (w := w57) BK465.1; obtain ⟨Ao61, co61, eo61⟩ := Kd.R_slice HO_466000.1; subst eo61; have hnb62 := NB456_0.1; have hnc62 := NB0_456.1; have hcz63 := zc_3 (w := w57) BK456.1))
     refine bodyPost_ret (results_cell_row rfl _ _ gb456 49 #[.slice Ao61 x466000_1.length co61, .int .i64 t489, .int .i64 t464] (0, 0) _ rfl zPq Try.underlying49 rfl (by kernel_rfl)) rfl ?_
     exact ⟨_, zE, QR_of (by refine zrR ?_; exact Kd.R_mono (zfR (zfR (zfR (zgR (Kd.R_types (Kd.R_types HO_466000.1 BK465.1 (by decide)) BK456.1 (by decide)))))) (fun _ hk => trivial)), zB46, zB33, zB34⟩
    rw [if_neg c51] at H
    have c51b0 : (t473 == 2) = false := beq_eq_false_iff_ne.mpr c51
    have c51b1 : (t473 != 2) = true := bne_iff_ne.mpr c51
    by_cases c64 : t473 = 3
    rotate_left
    ·rw [if_neg c64] at H
     have c64b0 : (t473 == 3) = false := beq_eq_false_iff_ne.mpr c64
     have c64b1 : (t473 != 3) = true := bne_iff_ne.mpr c64
     simp only [Option.some.injEq, Prod.mk.injEq] at H
     obtain ⟨rfl, rfl, rfl, rfl, rfl⟩ := H
     go_wp2_with (first | ((with_reducible refine zG Try.func42 20 #[.pointer (some ⟨g, 0, none⟩), .int .i64 12] ?_); (with_reducible refine (spec_l1Below.calls g s0_0 x1001_1 x1002_1 12 t473 t474 t475 w0 _ ?side1 ?side2 A23.1).mono ?_); (case side1 => exact zB46); (case side2 => exact zB33); rintro e w71 ⟨rfl, hi, hb, hk⟩; refine ⟨_, rfl, ?_⟩; replace HO_466000 := zM (Kd.R_mono (Kd.R_keep (IsS90.apart (show IsS90 w0 _ g s0_0 x1001_1 x1002_1 from zB46) (zR HO_466000.1) (by decide)) hk (fun _ h => h.2)) (fun _ h => h.1)); replace BK456 := zM (zh hk BK456.1 NB456_0.1); replace BK465 := zM (zh hk BK465.1 NB465_0.1); replace HK := zM (KeepBut.trans zB34 hk (.inl rfl)); replace HB := zM hb; replace HI0 := zM hi; clear hb hk hi; have hnb72 := NB465_456.1; have hnc72 := NB456_465.1; have hnb73 := NB465_0.1; have hnc73 := NB0_465.1; have hcz74 := zc_3 (w := w71) BK465.1; obtain ⟨Ao75, co75, eo75⟩ := Kd.R_slice HO_466000.1; subst eo75; have hnb76 := NB456_0.1; have hnc76 := NB0_456.1; have hcz77 := zc_3 (w := w71) BK456.1))
     refine bodyPost_ret (results_cell_row rfl _ _ gb456 49 #[.slice Ao75 x466000_1.length co75, .int .i64 t463, .int .i64 t464] (0, 0) _ rfl (by exact zp3 (zK BK456.1)) Try.underlying49 rfl (by kernel_rfl)) rfl ?_
     exact ⟨_, zE, QR_of (by refine zrR ?_; exact Kd.R_mono (zfR (zfR (zfR (Kd.R_types HO_466000.1 BK456.1 (by decide))))) (fun _ hk => trivial)), zB46, zB33, zB34⟩
    rw [if_pos c64] at H
    have c64b0 : (t473 == 3) = true := beq_iff_eq.mpr c64
    have c64b1 : (t473 != 3) = false := bne_eq_false_iff_eq.mpr c64
    clear c64
    replace H := zIp H
    obtain ⟨c65, H⟩ := H
    have HL4 := zM c65
    have c65b0 := eq_true (show 1 ≤ (x466000_1.length : Int) by omega)
    have c65b1 : decide (1 ≤ (x466000_1.length : Int)) = true := decide_eq_true (by omega)
    clear c65
    generalize hy492 : ((x466000_1.drop (1 : Int).toNat) : List Int) = y492 at H
    have Ny492 := zM hy492.symm
    clear hy492
    simp only [Option.some.injEq, Prod.mk.injEq] at H
    obtain ⟨rfl, rfl, rfl, rfl, rfl⟩ := H
    have hQ_ := zM (Kd.Q_of_R HO_466000.1)
    clear HO_466000
    have HO_466000 := hQ_
    clear hQ_
    go_wp2_with (first | ((with_reducible refine zG Try.func42 20 #[.pointer (some ⟨g, 0, none⟩), .int .i64 12] ?_); (with_reducible refine (spec_l1Below.calls g s0_0 x1001_1 x1002_1 12 t473 t474 t475 w0 _ ?side1 ?side2 A23.1).mono ?_); (case side1 => exact zB46); (case side2 => exact zB33); rintro e w66 ⟨rfl, hi, hb, hk⟩; refine ⟨_, rfl, ?_⟩; replace HO_466000 := zM (Kd.Q_mono (Kd.Q_keep (IsS90.apartQ (show IsS90 w0 _ g s0_0 x1001_1 x1002_1 from zB46) (zQ HO_466000.1) (by decide)) hk (fun _ h => h.2)) (fun _ h => h.1)); replace BK456 := zM (zh hk BK456.1 NB456_0.1); replace BK465 := zM (zh hk BK465.1 NB465_0.1); replace HK := zM (KeepBut.trans zB34 hk (.inl rfl)); replace HB := zM hb; replace HI0 := zM hi; clear hb hk hi; have hnb67 := NB465_456.1; have hnc67 := NB456_465.1; have hnb68 := NB465_0.1; have hnc68 := NB0_465.1; have hcz69 := zc_3 (w := w66) BK465.1; obtain ⟨Ao70, co70, eo70, _⟩ := Kd.Q_slice HO_466000.1; subst eo70; have q71 : (1 : Int) ≤ ((x466000_1.length : Int) : Int) := zA; obtain ⟨i071, hi071, _, hsz71, _⟩ := info_parts info3; have hcut71 := cut_from (P := Try.prog) 29 3 .i64 Try.underlying29 hi071 1 hsz71 Ao70 x466000_1.length co70 1 (by omega) q71; have hr71 := Kd.Q_drop (k := (1 : Int).toNat) HO_466000.1 (by omega); obtain ⟨A71, hA71⟩ : ∃ A1, A1 = (if co70 = (1 : Int).toNat then Ao70 else (Ao70 : Option Addr).map (·.add ((1 : Int).toNat * 1))) := ⟨_, rfl⟩; obtain ⟨c71, hc71⟩ : ∃ c1, c1 = co70 - (1 : Int).toNat := ⟨_, rfl⟩; have hy71 : y492.length = x466000_1.length - (1 : Int).toNat := (by rw [Ny492.1, List.length_drop]); rw [← Ny492.1] at hr71; rw [← hy71, ← hA71, ← hc71] at hcut71; replace hr71 : Kd.Q (Kd.int .i64) 3 w66 w.heap.size (fun _ => True) (.slice A71 y492.length c71) y492 := (by rw [hA71, hc71, hy71]; exact hr71); have HE71 : Aside0 ((Value.slice A71 y492.length c71).ownBlock = (.slice Ao70 x466000_1.length co70 : Value).ownBlock) := ⟨by rw [hA71]; split <;> (cases (Ao70 : Option Addr) <;> rfl)⟩; clear hy71 hi071 hsz71 HO_466000 hA71 hc71; have HO494 := zM hr71; clear hr71; replace q71 := eq_true q71; have hnb72 := NB456_0.1; have hnc72 := NB0_456.1; have hcz73 := zc_3 (w := w66) BK456.1))
    refine bodyPost_ret (results_cell_row rfl _ _ gb456 49 #[.slice A71 y492.length c71, .int .i64 t463, .int .i64 t464] (0, 0) _ rfl zPq Try.underlying49 rfl (by kernel_rfl)) rfl ?_
    exact ⟨_, zE, ⟨by refine zrQ ?_; exact Kd.Q_mono (zfQ (zfQ (zfQ (zgQ (Kd.Q_types (Kd.Q_types HO494.1 BK465.1 (by decide)) BK456.1 (by decide)))))) (fun _ hk => trivial), fun hl_ => absurd hl_ (by rw [Ny492.1, List.length_drop]; have h4_ := HL4.1; simp only [Int.toNat_one]; omega)⟩, zB46, zB33, zB34⟩
   rw [if_pos c34] at H
   have c34b0 : (t473 == 1) = true := beq_iff_eq.mpr c34
   have c34b1 : (t473 != 1) = false := bne_eq_false_iff_eq.mpr c34
   clear c34
   generalize hy479 : ((([(-1), 65536] : List Int)) : List Int) = y479 at H
   have Ny479 := zM hy479.symm
   clear hy479
   replace H := zO H
   obtain ⟨⟨t482, t483, t484⟩, A35, H⟩ := H
   try dsimp only at H
   replace H := zIp H
   obtain ⟨c36, H⟩ := H
   have c36b0 := decide_eq_true c36
   have c36b1 : decide (0 < x466000_1.length) = true := decide_eq_true (by omega)
   clear c36
   generalize hy485 : ((x466000_1.set (0 : Int).toNat t482) : List Int) = y485 at H
   have Ny485 := zM hy485.symm
   clear hy485
   simp only [Option.some.injEq, Prod.mk.injEq] at H
   obtain ⟨rfl, rfl, rfl, rfl, rfl⟩ := H
   try go_wp2_with (first | ((with_reducible refine zG Try.func42 20 #[.pointer (some ⟨g, 0, none⟩), .int .i64 12] ?_); (with_reducible refine (spec_l1Below.calls g s0_0 x1001_1 x1002_1 12 t473 t474 t475 w0 _ ?side1 ?side2 A23.1).mono ?_); (case side1 => exact zB46); (case side2 => exact zB33); rintro e w38 ⟨rfl, hi, hb, hk⟩; refine ⟨_, rfl, ?_⟩; replace HO_466000 := zM (Kd.R_mono (Kd.R_keep (IsS90.apart (show IsS90 w0 _ g s0_0 x1001_1 x1002_1 from zB46) (zR HO_466000.1) (by decide)) hk (fun _ h => h.2)) (fun _ h => h.1)); replace BK456 := zM (zh hk BK456.1 NB456_0.1); replace BK465 := zM (zh hk BK465.1 NB465_0.1); replace HK := zM (KeepBut.trans zB34 hk (.inl rfl)); replace HB := zM hb; replace HI0 := zM hi; clear hb hk hi))
   replace HO_466000 := zM (Kd.R_drew HO_466000.1)
   replace BK456 := zM (blk_drew BK456.1)
   replace BK465 := zM (blk_drew BK465.1)
   replace HI0 := zM (IsS90.drew HI0.1)
   replace HK := zM (keep_drew HK.1)
   replace HB := zM (below_drew1 HB.1)
   refine start_ (n := 7) (S := fun w' => w'.cell? ⟨gb465, 0, none⟩ = some (u466000) ∧ w'.cell? ⟨gb465, 1, none⟩ = some (.int .i64 t463) ∧ w'.cell? ⟨gb465, 2, none⟩ = some (.int .i64 t464)) (ds := [6]) #[false, false, false, false, false, false, false] (by kernel_rfl) rfl rfl ⟨(blk_cell BK465.1 0).trans rfl, (blk_cell BK465.1 1).trans rfl, (blk_cell BK465.1 2).trans rfl⟩ (fun hHeld => ?_)
   generalize w38.drew = w39 at HO_466000 BK456 BK465 HI0 HK HB hHeld ⊢
   refine zPu 0 ?_
   refine zPu 2 ?_
   refine zTk3 1 hHeld ?_
   refine zOn 3 (some 32) fun K hK => ?_
   refine Kd.R_lit_step (Kd.int .i64) _ 3 ?hg (N := 32) ?hd (xs := ([(-1), 65536] : List Int)) (inner := [.int .i64 (-1), .int .i64 65536]) (ok := fun _ => True) (okp := fun _ => True) ?hr ?hp (fun _ hk => hk) trivial (Below.refl _ _) (Nat.le_refl _) (by simp) ?_; (case hd => rfl); (case hg => rfl); (case hr => exact zHH); (case hp => exact (Reps.one (show Kd.M (Kd.int .i64) _ _ _ (-1) [.int .i64 (-1)] from rfl) (Reps.one (show Kd.M (Kd.int .i64) _ _ _ 65536 [.int .i64 65536] from rfl) (Reps.none _ _))))
   intro v480 w40 ho41 hb hg_ hnew_
   clear hg_ hnew_
   (first | rw [← Ny479.1] at ho41 | (simp only [Int.reduceToNat] at ho41; rw [← Ny479.1] at ho41))
   have n0_ := zM (Kd.R_elder' (zR HO_466000.1) (Kd.R_base ho41) hb)
   have n1_ := zM (Kd.R_lower (Kd.R_new' ho41 (Kd.R_lt (zR HO_466000.1))) (keep_size (w := w) (g := g) (row := none) zB34))
   have n2_ := zM (zb BK456.1 hb)
   have n3_ := zM (zb BK465.1 hb)
   have n4_ := zM (IsS90.below zB46 hb)
   have n5_ := zM (KeepBut.trans zB34 (KeepBut.of_below hb g none) (.inl rfl))
   have n6_ := zM (below_step zB33 hb)
   clear HO_466000 BK456 BK465 HI0 HK HB
   have HO_466000 := n0_
   have HO481 := n1_
   have BK456 := n2_
   have BK465 := n3_
   have HI0 := n4_
   have HK := n5_
   have HB := n6_
   clear n0_ n1_ n2_ n3_ n4_ n5_ n6_ hb ho41
   obtain ⟨Ao42, co42, eo42⟩ := Kd.R_slice HO481.1
   (first | subst eo42 | (injection eo42 with f1_ f2_ f3_; have f4_ := f1_.symm; have f5_ := f3_.symm; clear f1_ f2_ f3_; subst f4_; subst f5_))
   refine hK.out _ _ zCs fun hHeld => ?_
   clear hK K
   refine zNo ?_
   refine zOn 4 (some 33) fun K hK => ?_
   refine zGs Try.func61 #[.pointer (some ⟨g, 0, none⟩), .slice Ao42 y479.length co42] ?_
   with_reducible refine (spec_l1PickInt.calls g s0_0 t474 t475 _ _ y479 t482 t483 t484 w0 _ ?side1 ?side2 ?side3 ?side4 ?side5 A35.1).mono ?_
   (case side1 => exact zB46)
   (case side2 => exact zB33)
   (case side3 => exact zC (Kd.R_reads' HO481.1).2.2)
   (case side4 => exact (Kd.R_reads' HO481.1).2.1)
   (case side5 => exact far_slice (IsS90.own_ne HI0.1 HO481.1 (by decide)))
   rintro e w43 ⟨rfl, hi, hb, hk⟩
   refine ⟨_, rfl, ?_⟩
   replace HO_466000 := zM (Kd.R_mono (Kd.R_keep (IsS90.apart (show IsS90 w0 _ g s0_0 t474 t475 from zB46) (zR HO_466000.1) (by decide)) hk (fun _ h => h.2)) (fun _ h => h.1))
   replace BK456 := zM (zh hk BK456.1 NB456_0.1)
   replace BK465 := zM (zh hk BK465.1 NB465_0.1)
   replace HO481 := zM (Kd.R_mono (Kd.R_keep (IsS90.apart (show IsS90 w0 _ g s0_0 t474 t475 from zB46) (zR HO481.1) (by decide)) hk (fun _ h => h.2)) (fun _ h => h.1))
   replace HK := zM (KeepBut.trans zB34 hk (.inl rfl))
   replace HB := zM hb
   replace HI0 := zM hi
   have p37 : 0 ≤ (0 : Int) := (by omega)
   have q37 : (0 : Int) < ((x466000_1.length : Int) : Int) := zA
   have qi37 : (0 < x466000_1.length) = True := eq_true (by omega)
   obtain ⟨go37, co37, eo37, gb37, gl37, cl37, HG37⟩ := Kd.R_form HO_466000.1 (by omega)
   (first | cases eo37 | (injection eo37 with ea_ en_ ec_; (first | subst ea_ | (injection ea_ with ea_; subst ea_)); subst ec_; clear en_))
   have GB37 := zM gb37
   have GG37 := zM HG37
   clear gb37 gl37 HG37
   obtain ⟨hx37_0, hf37_0⟩ := Kd.R_celln 0 HO_466000.1 (0 : Int) p37 q37
   (try rw [show ((0 : Int)).toNat = 0 from rfl] at hx37_0)
   (try simp only [Nat.reduceMul, Nat.zero_mul, Nat.zero_add, Nat.reduceAdd] at hx37_0)
   (try rw [show ((0 : Int)).toNat = 0 from rfl] at hf37_0)
   (try simp only [Nat.reduceMul, Nat.zero_mul, Nat.zero_add, Nat.reduceAdd] at hf37_0)
   replace p37 := eq_true p37
   replace q37 := eq_true q37
   have HN0_go37 := zM (show g ≠ go37 from by have h_ := IsS90.own_ne HI0.1 HO_466000.1 (by decide); intro e_; exact h_ (by rw [e_]; rfl))
   have HP44 := Kd.R_putn HO_466000.1 (0 : Int) t482
   rw [← Ny485.1] at HP44
   have HQ44 := zM HP44
   clear HP44
   refine hK.out _ _ zCs fun hHeld => ?_
   clear hK K
   refine zNo ?_
   refine zPu 5 ?_
   refine last_ (i := 6) (N := none) #[true, true, true, true, true, true, true] rfl rfl (by kernel_rfl) (by decide) (fun K hK => ?_)
   refine skip_ (w1 := ?_) (by rfl) rfl ?_ ?_
   rotate_left
   ·go_simp
    rfl
   refine hK.out _ _ ?_
   clear hK K
   refine done_ (by kernel_rfl) ?_
   generalize hw_ : (w43.setCell ⟨go37, 0, none⟩ (.int .i64 t482)) = w45
   have n0_ : Aside0 (Kd.R (Kd.int .i64) 3 w45 w.heap.size (fun k_ => some k_ ≠ (.slice Ao42 y479.length co42 : Value).ownBlock) (.slice (some ⟨go37, 0, none⟩) x466000_1.length co37) y485) := ⟨by rw [← hw_]; refine zrR ?_; exact Kd.R_mono HQ44.out (fun _ hk => hk.2)⟩
   have n1_ : Aside0 (Kd.R (Kd.int .i64) 3 w45 w.heap.size (fun k_ => some k_ ≠ (.slice (some ⟨go37, 0, none⟩) x466000_1.length co37 : Value).ownBlock) (.slice Ao42 y479.length co42) y479) := ⟨by rw [← hw_]; refine zrR ?_; exact Kd.R_mono (zfR (Kd.R_mono HO481.1 (fun k_ hk => (⟨hk, fun e_ => hk.2 (by rw [e_]; rfl)⟩ : _ ∧ k_ ≠ go37)))) (fun _ hk => hk.1.2)⟩
   have n2_ : Aside0 (w45.heap[gb456]? = some (.cells #[.slice none 0 0, .int .i64 0, .int .i64 0] 49 (0, 0))) := ⟨by rw [← hw_]; refine zP ?_; refine blk_far ?_ (by have h_ := Kd.R_ne HO_466000.1 BK456.1 (by decide); intro e_; exact h_ (by rw [e_]; rfl)) _; refine zP ?_; exact BK456.1⟩
   have n3_ : Aside0 (w45.heap[gb465]? = some (.cells #[.slice (some ⟨go37, 0, none⟩) x466000_1.length co37, .int .i64 t463, .int .i64 t464] 49 (0, 0))) := ⟨by rw [← hw_]; refine zP ?_; refine blk_far ?_ (by have h_ := Kd.R_ne HO_466000.1 BK465.1 (by decide); intro e_; exact h_ (by rw [e_]; rfl)) _; refine zP ?_; exact BK465.1⟩
   have n4_ : Aside0 (IsS90 w0 w45 g s0_0 t483 t484) := ⟨by rw [← hw_]; exact zB52⟩
   have n5_ : Aside0 (KeepBut w w45 g none) := ⟨by rw [← hw_]; exact zB34⟩
   have n6_ : Aside0 (Below w0.heap.size w0 w45) := ⟨by rw [← hw_]; exact zB54⟩
   (try clear HO_466000)
   (try clear HO481)
   (try clear BK456)
   (try clear BK465)
   (try clear HI0)
   (try clear HK)
   (try clear HB)
   clear hw_
   have HO_466000 := n0_
   have HO481 := n1_
   have BK456 := n2_
   have BK465 := n3_
   have HI0 := n4_
   have HK := n5_
   have HB := n6_
   clear n0_ n1_ n2_ n3_ n4_ n5_ n6_
   have hnb46 := NB465_456.1
   have hnc46 := NB456_465.1
   have hnb47 := NB465_0.1
   have hnc47 := NB0_465.1
   have hcz48 := zc_3 (w := w45) BK465.1
   have hnb49 := NB456_0.1
   have hnc49 := NB0_456.1
   have hcz50 := zc_3 (w := w45) BK456.1
   try go_wp2
   refine bodyPost_ret (results_cell_row rfl _ _ gb456 49 #[.slice (some ⟨go37, 0, none⟩) x466000_1.length co37, .int .i64 t463, .int .i64 t464] (0, 0) _ rfl (by exact zp3 (zK BK456.1)) Try.underlying49 rfl (by kernel_rfl)) rfl ?_
   exact ⟨_, zE, QR_of (by refine zrR ?_; exact Kd.R_mono (zfR (zfR (zfR (Kd.R_types HO_466000.1 BK456.1 (by decide))))) (fun _ hk => trivial)), zB46, zB33, zB34⟩

end Go.Proofs.Ytgbjengnkbomoaa.PFnRaces
