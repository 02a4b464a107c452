-- made by wip/tools/myprint.py out of the seat's translation
import Derived.Test.YtgbjengnkbomoaaPFnKnowsx0
import Derived.Test.YtgbjengnkbomoaaPFnKnowsx5
import Derived.Test.YtgbjengnkbomoaaPFnKnowsx9
namespace Go.Proofs.Ytgbjengnkbomoaa.PFnKnows
open Go.RowKit Go.Proofs.YtgbjengnkbomoaaW.PrintWords Go.Proofs.YtgbjengnkbomoaaW.PrintLast Go.Proofs.YtgbjengnkbomoaaW.PrintMore
attribute [local go_sem] max2_int min2_int max_two min_two max_three min_three max_four min_four   -- for this text's walks alone
set_option linter.unusedVariables false
set_option linter.unusedSimpArgs false
set_option maxHeartbeats 8000000
set_option maxRecDepth 100000

/-! ### spec_HartNew: function 83 -/
def spec_HartNew.f (a0 : Int) : Option (List Int × Int × Int) := (spec_l9Address.f a0).bind fun t526 => (some ((List.replicate 4 0), t526, 0))
theorem spec_HartNew.calls (a0 : Int) (r1 : List Int) (r2 : Int) (r3 : Int) (w : World) (h : spec_HartNew.f a0 = some (r1, r2, r3)) :
  Calls Try.prog 83 #[.int .i64 a0] w fun e w' => ∃ v0_ : Value, e = .returned (.agg #[v0_, .int .i64 r2, .int .i64 r3]) ∧ Kd.R (Kd.int .i64) 3 w' w.heap.size (fun _ => True) v0_ r1 ∧ Below w.heap.size w w' := by
 have hu49 := Try.underlying49
 have HB := zM (Below.refl w.heap.size w)
 unfold spec_HartNew.f at h
 have H := h
 clear h
 obtain ⟨y523, hy523⟩ : ∃ y_ : List Int, y_ = (List.replicate 4 0) := ⟨_, rfl⟩
 replace H : ((spec_l9Address.f a0).bind fun t526 => (some (y523, t526, 0))) = some (r1, r2, r3) := by first | (rw [hy523]; with_reducible exact H) | (have H2_ := (Option.bind_some _ _).symm.trans H; rw [hy523]; with_reducible exact H2_) | (have H2_ := (Option.bind_some _ _).symm.trans H; with_reducible exact H2_) | with_reducible exact H | (rw [hy523]; exact H) | exact H
 have Ny523 := zM hy523
 clear hy523
 replace H := zO H
 obtain ⟨t526, A2, H⟩ := H
 simp only [Option.some.injEq, Prod.mk.injEq] at H
 obtain ⟨rfl, rfl, rfl⟩ := H
 go_enter Try.func83, Try.ntmps83
 try go_wp2_with (first | ((with_reducible refine zBx 2 49 #[.slice none 0 0, .int .i64 0, .int .i64 0] ?_); intro gb522 hg w3 hbox hb; have BK522 := zM hbox; have GE522 := zM (zW hg (below_size zB1)); replace HB := zM (below_step zB1 hb); clear hb hbox hg))
 replace BK522 := zM (blk_drew BK522.1)
 replace HB := zM (below_drew1 HB.1)
 refine start_ (n := 5) (S := fun w' => True) (ds := []) #[false, false, false, false, false] (by kernel_rfl) rfl rfl trivial (fun hHeld => ?_)
 generalize w3.drew = w4 at BK522 HB hHeld ⊢
 refine zPu 1 ?_
 refine join_ (σ := Value) 2 #[true, true, true, false, false] (fun s_ => [(3, s_), (5, .int .i64 t526)]) (fun s_ w' => (Kd.R (Kd.int .i64) 3 w' w.heap.size (fun _ => True) s_ y523) ∧ (w'.heap[gb522]? = some (.cells #[.slice none 0 0, .int .i64 0, .int .i64 0] 49 (0, 0))) ∧ (Below w.heap.size w w')) ?_ ?_
 rotate_left
 ·intro hCont
  refine two_ (i := 0) (j := 2) (Ni := some 3) (Nj := some 5) #[true, true, false, false, false] #[false, true, true, false, false] rfl rfl rfl rfl (by kernel_rfl) (by decide) (by decide) (fun K hK => ?_) (fun K hK => ?_)
  ·refine Kd.R_make_step (Kd.int .i64) _ 3 (by rfl) (N := 3) rfl 29 _ _ rfl 4 rfl rfl Try.underlying29 (.int .i64 0) 8 info3 rfl (by decide) (by omega) 0 (ok := fun _ => True) (okp := fun _ => True) rfl (fun _ hk => hk) trivial (by omega) (by omega) (Below.refl _ _) (Nat.le_refl _) ?_
   intro v524 w5 ho6 hb hg_ hnew_
   clear hg_ hnew_
   (first | rw [← Ny523.1] at ho6 | (simp only [Int.reduceToNat] at ho6; rw [← Ny523.1] at ho6))
   replace HO525 := zM (Kd.R_lower ho6 (below_size zB1))
   replace BK522 := zM (zb BK522.1 hb)
   replace HB := zM (below_step zB1 hb)
   refine hK.out _ _ trivial (fun hHeld => ?_)
   clear hK K
   refine zNo ?_
   refine zOn 2 (some 5) fun K hK => ?_
   refine zGs Try.func89 #[.int .i64 a0] ?_
   with_reducible refine (spec_l9Address.calls a0 t526 _ A2.1).mono ?_
   rintro e w' ⟨rfl, ⟨nd, rfl⟩⟩
   refine ⟨_, rfl, ?_⟩
   obtain ⟨Ao7, co7, eo7⟩ := Kd.R_slice HO525.1
   (first | subst eo7 | (injection eo7 with f1_ f2_ f3_; have f4_ := f1_.symm; have f5_ := f3_.symm; clear f1_ f2_ f3_; subst f4_; subst f5_))
   refine hK.out _ _ trivial (fun hHeld => ?_)
   clear hK K
   refine zNo ?_
   exact norm_ zNr (hCont (.slice Ao7 y523.length co7) _ ⟨(zR HO525.1), (zK BK522.1), zB1⟩)
  ·refine zGs Try.func89 #[.int .i64 a0] ?_
   with_reducible refine (spec_l9Address.calls a0 t526 _ A2.1).mono ?_
   rintro e w' ⟨rfl, ⟨nd, rfl⟩⟩
   refine ⟨_, rfl, ?_⟩
   refine hK.out _ _ trivial (fun hHeld => ?_)
   clear hK K
   refine zNo ?_
   refine zOn 0 (some 3) fun K hK => ?_
   refine Kd.R_make_step (Kd.int .i64) _ 3 (by rfl) (N := 3) rfl 29 _ _ rfl 4 rfl rfl Try.underlying29 (.int .i64 0) 8 info3 rfl (by decide) (by omega) 0 (ok := fun _ => True) (okp := fun _ => True) rfl (fun _ hk => hk) trivial (by omega) (by omega) (Below.refl _ _) (Nat.le_refl _) ?_
   intro v524 w5 ho6 hb hg_ hnew_
   clear hg_ hnew_
   (first | rw [← Ny523.1] at ho6 | (simp only [Int.reduceToNat] at ho6; rw [← Ny523.1] at ho6))
   replace HO525 := zM (Kd.R_lower ho6 (below_size zB1))
   replace BK522 := zM (zb BK522.1 hb)
   replace HB := zM (below_step zB1 hb)
   obtain ⟨Ao7, co7, eo7⟩ := Kd.R_slice HO525.1
   (first | subst eo7 | (injection eo7 with f1_ f2_ f3_; have f4_ := f1_.symm; have f5_ := f3_.symm; clear f1_ f2_ f3_; subst f4_; subst f5_))
   refine hK.out _ _ trivial (fun hHeld => ?_)
   clear hK K
   refine zNo ?_
   exact norm_ zNr (hCont (.slice Ao7 y523.length co7) _ ⟨(zR HO525.1), (zK BK522.1), zB1⟩)
 rintro v524 w8 ⟨h0_, h1_, h2_⟩
 replace HO525 := zM h0_
 replace BK522 := zM h1_
 replace HB := zM h2_
 have hHeld := trivial
 obtain ⟨Ao9, co9, eo9⟩ := Kd.R_slice HO525.1
 (first | subst eo9 | (injection eo9 with f1_ f2_ f3_; have f4_ := f1_.symm; have f5_ := f3_.symm; clear f1_ f2_ f3_; subst f4_; subst f5_))
 refine zNp ?_
 refine zPu 3 ?_
 refine zOn 4 none fun K hK => ?_
 obtain ⟨hs10, hfs10⟩ := zHs BK522.1 0
 obtain ⟨hs11, hfs11⟩ := zHs BK522.1 1
 obtain ⟨hs12, hfs12⟩ := zHs BK522.1 2
 refine skip_ (w1 := ?_) (by rfl) rfl ?_ ?_
 rotate_left
 ·go_simp
  rfl
 refine hK.out _ _ trivial (fun hHeld => ?_)
 clear hK K
 refine done_ (by kernel_rfl) ?_
 try go_wp2
 refine bodyPost_ret (results_cell_row rfl _ _ gb522 49 #[.slice Ao9 y523.length co9, .int .i64 t526, .int .i64 0] (0, 0) _ rfl (by exact zp3 (zK BK522.1)) Try.underlying49 rfl (by kernel_rfl)) rfl ?_
 exact ⟨_, zE, by refine zrR ?_; exact Kd.R_mono (Kd.R_far (p := ⟨gb522, 2, none⟩) (Kd.R_far (p := ⟨gb522, 1, none⟩) (Kd.R_far (p := ⟨gb522, 0, none⟩) (Kd.R_types HO525.1 BK522.1 (by decide)) (fun _ hk => hk.2) (.slice Ao9 y523.length co9)) (fun _ hk => hk.2) (.int .i64 t526)) (fun _ hk => hk.2) (.int .i64 0)) (fun _ hk => trivial), zB1⟩

/-! ### spec_l9DrawHart: function 82 -/
def spec_l9DrawHart.l0 : Nat → Int → List Int → Int → Int → List Int → Int → Int → Option (List Int × Int × Int × Int × Int)
 | 0, _, _, _, _, _, _, _ => none
 | k + 1, x4, x1000, x1001, x1002, x537000, x537001, x537002 => if x4 < 4 then ((spec_l1PickInt.f x1000 x1001 x1002 (([0, 1, 2, 20, 65535] : List Int))).bind fun bt540 => (if 0 ≤ x4 then (if x4 < (x537000.length : Int) then (spec_l9DrawHart.l0 k (wrap64 (x4 + 1)) x1000 bt540.2.1 bt540.2.2 (x537000.set (x4 : Int).toNat bt540.1) x537001 x537002) else (none)) else (none))) else ((spec_l1Below.f x1000 x1001 x1002 12).bind fun bt544 => (if bt544.1 = 0 then ((spec_l1Below.f x1000 bt544.2.1 bt544.2.2 5).bind fun bt547 => (some (x537000, x537001, wrap64 (bt547.1 - 1), bt547.2.1, bt547.2.2))) else (if bt544.1 = 1 then ((spec_l1PickInt.f x1000 bt544.2.1 bt544.2.2 (([(-1), 65536] : List Int))).bind fun bt553 => (if 0 < (x537000.length : Int) then (some ((x537000.set (0 : Int).toNat bt553.1), x537001, x537002, bt553.2.1, bt553.2.2)) else (none))) else (if bt544.1 = 2 then ((spec_l1PickInt.f x1000 bt544.2.1 bt544.2.2 (([(-1), 24] : List Int))).bind fun bt560 => (some (x537000, bt560.1, x537002, bt560.2.1, bt560.2.2))) else (if bt544.1 = 3 then (if (x537000.length : Int) = 4 then (some ((x537000.drop (1 : Int).toNat), x537001, x537002, bt544.2.1, bt544.2.2)) else (none)) else (some (x537000, x537001, x537002, bt544.2.1, bt544.2.2)))))))
def spec_l9DrawHart.f (k : Nat) (s0_0 : List Int) (s0_1 : Int) (s0_2 : Int) : Option (List Int × Int × Int × Int × Int) := (spec_l1Below.f s0_0 s0_1 s0_2 20).bind fun bt528 => ((spec_HartNew.f bt528.1).bind fun bt531 => (spec_l9DrawHart.l0 k 0 s0_0 bt528.2.1 bt528.2.2 bt531.1 bt531.2.1 bt531.2.2))
theorem spec_l9DrawHart.mono_l : ∀ k, (∀ y0 y1 y2 y3 y4 y5 y6, LeO (spec_l9DrawHart.l0 k y0 y1 y2 y3 y4 y5 y6) (spec_l9DrawHart.l0 (k + 1) y0 y1 y2 y3 y4 y5 y6))
 | 0 => fun _ _ _ _ _ _ _ r h => by simp [spec_l9DrawHart.l0] at h
 | k + 1 => by
  have ih0 := spec_l9DrawHart.mono_l k
  ·intros
   unfold spec_l9DrawHart.l0
   exact zL
theorem spec_l9DrawHart.mono : ∀ a0 a1 a2 k, LeO (spec_l9DrawHart.f k a0 a1 a2) (spec_l9DrawHart.f (k + 1) a0 a1 a2) := by
 intro a0 a1 a2 k
 have ih0 := spec_l9DrawHart.mono_l k
 unfold spec_l9DrawHart.f
 exact zL
def spec_l9DrawHart.T5 : Bool × List (List Nat × List Nat) := (true, [([], []), ([0], [0]), ([], []), ([], []), ([], []), ([3, 4], [3, 4]), ([1, 2, 0, 1, 2, 3, 4, 5], [1, 2]), ([6, 5, 5, 0, 1, 2, 3, 4, 5], [5, 6])])
def spec_l9DrawHart.B5 : List Nat := [0, 1, 0, 0, 0, 24, 63, 127]
theorem spec_l9DrawHart.tab5 : rtab .any (opsOf Try.f82 5) = spec_l9DrawHart.T5 := by kernel_rfl
theorem spec_l9DrawHart.bits5 : waitsOk spec_l9DrawHart.T5.2 spec_l9DrawHart.B5 = true := by kernel_rfl
theorem QR_of {e b : Nat} {ok : Nat → Prop} {W : World} {v : Value} {xs : List Int} (h : Kd.R (Kd.int .i64) e W b ok v xs) : Kd.Q (Kd.int .i64) e W b ok v xs ∧ (xs.length = 4 → Kd.R (Kd.int .i64) e W b ok v xs) := ⟨Kd.Q_of_R h, fun _ => h⟩
theorem spec_l9DrawHart.calls (k : Nat) (g : Nat) (s0_0 : List Int) (s0_1 : Int) (s0_2 : Int) (r1 : List Int) (r2 : Int) (r3 : Int) (r4 : Int) (r5 : Int) (w0 w : World) (hI : IsS90 w0 w g s0_0 s0_1 s0_2) (hB : Below w0.heap.size w0 w) (h : spec_l9DrawHart.f k s0_0 s0_1 s0_2 = some (r1, r2, r3, r4, r5)) :
  Calls Try.prog 82 #[.pointer (some ⟨g, 0, none⟩)] w fun e w' => ∃ v0_ : Value, e = .returned (.agg #[v0_, .int .i64 r2, .int .i64 r3]) ∧ (Kd.Q (Kd.int .i64) 3 w' w.heap.size (fun _ => True) v0_ r1 ∧ (r1.length = 4 → Kd.R (Kd.int .i64) 3 w' w.heap.size (fun _ => True) v0_ r1)) ∧ IsS90 w0 w' g s0_0 r4 r5 ∧ Below w0.heap.size w0 w' ∧ KeepBut w w' g none := by
 have hu49 := Try.underlying49
 have HI0 := zM hI
 have HK := zM (KeepBut.refl w g none)
 have HL := zM hB.size
 clear hI
 have HW0 := zM hB.size
 have HB := zM hB
 clear hB
 unfold spec_l9DrawHart.f at h
 have H := h
 clear h
 replace H := zO H
 obtain ⟨⟨t528, t529, t530⟩, A2, H⟩ := H
 try dsimp only at H
 replace H := zO H
 obtain ⟨⟨t531, t534, t535⟩, A3, H⟩ := H
 try dsimp only at H
 have H' := zM H
 clear H
 go_enter Try.func82, Try.ntmps82
 go_wp2_with (first | ((with_reducible refine zBx 2 49 #[.slice none 0 0, .int .i64 0, .int .i64 0] ?_); intro gb527 hg w4 hbox hb; replace HB := zM (below_step zB36 hb); have BK527 := zM hbox; have GW527 := zM ((by rw [hg]; exact (keep_size (w := w) (g := g) (row := none) zB37) : w.heap.size ≤ gb527)); have GE527 := zM ((Nat.le_trans HW0.1 (by rw [hg]; exact (keep_size (w := w) (g := g) (row := none) zB37) : w.heap.size ≤ gb527) : w0.heap.size ≤ gb527)); replace HK := zM (KeepBut.trans zB37 (KeepBut.of_below hb g none) (.inl rfl)); have NB0_527 := zM ((by rw [hg]; exact Nat.ne_of_lt (IsS90.lt (show IsS90 w0 _ g s0_0 s0_1 s0_2 from zB35)) : g ≠ gb527)); have NB527_0 := zM ((by rw [hg]; exact Nat.ne_of_gt (IsS90.lt (show IsS90 w0 _ g s0_0 s0_1 s0_2 from zB35)) : gb527 ≠ g)); replace HI0 := zM (IsS90.below zB35 hb); clear hb hbox hg) | ((with_reducible refine zG Try.func42 6 #[.pointer (some ⟨g, 0, none⟩), .int .i64 20] ?_); (with_reducible refine (spec_l1Below.calls g s0_0 s0_1 s0_2 20 t528 t529 t530 w0 _ ?side1 ?side2 A2.1).mono ?_); (case side1 => exact zB46); (case side2 => exact zB36); rintro e w5 ⟨rfl, hi, hb, hk⟩; refine ⟨_, rfl, ?_⟩; replace BK527 := zM (zh hk BK527.1 NB527_0.1); replace HK := zM (KeepBut.trans zB37 hk (.inl rfl)); replace HB := zM hb; replace HI0 := zM hi; clear hb hk hi) | ((with_reducible refine zG Try.func83 7 #[.int .i64 t528] ?_); (with_reducible refine (spec_HartNew.calls t528 t531 t534 t535 _ A3.1).mono ?_); rintro e w6 ⟨v532, rfl, ho0, hb⟩; refine ⟨_, rfl, ?_⟩; have HO533 := zM (Kd.R_lower ho0 (keep_size (w := w) (g := g) (row := none) zB37)); replace BK527 := zM (zb BK527.1 hb); replace HK := zM (KeepBut.trans zB37 (KeepBut.of_below hb g none) (.inl rfl)); replace HB := zM (below_step zB36 hb); replace HI0 := zM (IsS90.below zB46 hb); clear hb ho0) | ((with_reducible refine zBx 3 49 #[.slice none 0 0, .int .i64 0, .int .i64 0] ?_); intro gb536 hg w7 hbox hb; replace HO533 := zM (Kd.R_below (zR HO533.1) hb); replace HB := zM (below_step zB36 hb); have BK536 := zM hbox; have GW536 := zM ((by rw [hg]; exact (keep_size (w := w) (g := g) (row := none) zB37) : w.heap.size ≤ gb536)); have GE536 := zM ((Nat.le_trans HW0.1 (by rw [hg]; exact (keep_size (w := w) (g := g) (row := none) zB37) : w.heap.size ≤ gb536) : w0.heap.size ≤ gb536)); replace HK := zM (KeepBut.trans zB37 (KeepBut.of_below hb g none) (.inl rfl)); have NB527_536 := zM ((zn BK527.1 hg : gb527 ≠ gb536)); replace BK527 := zM (zb BK527.1 hb); have NB0_536 := zM ((by rw [hg]; exact Nat.ne_of_lt (IsS90.lt (show IsS90 w0 _ g s0_0 t529 t530 from zB46)) : g ≠ gb536)); have NB536_0 := zM ((by rw [hg]; exact Nat.ne_of_gt (IsS90.lt (show IsS90 w0 _ g s0_0 t529 t530 from zB46)) : gb536 ≠ g)); replace HI0 := zM (IsS90.below zB46 hb); clear hb hbox hg; obtain ⟨Ao8, co8, eo8⟩ := Kd.R_slice HO533.1; subst eo8; have hcz11 := zc_3 (w := w7) BK536.1))
 go_loopg [4] k (fun kq v4 w' => ∃ (x4_1 : Int) (x1001_1 : Int) (x1002_1 : Int) (x537000_1 : List Int) (u537000 : Value), v4 = .int .i64 x4_1 ∧ Aside0 (spec_l9DrawHart.l0 kq x4_1 s0_0 x1001_1 x1002_1 x537000_1 t534 t535 = some (r1, r2, r3, r4, r5)) ∧ Aside0 (kq ≤ k) ∧ Aside0 (Kd.R (Kd.int .i64) 3 w' w.heap.size (fun _ => True) u537000 x537000_1) ∧ Aside0 (w'.heap[gb527]? = some (.cells #[(.slice none 0 0), .int .i64 0, .int .i64 0] 49 (0, 0))) ∧ Aside0 (w'.heap[gb536]? = some (.cells #[u537000, .int .i64 t534, .int .i64 t535] 49 (0, 0))) ∧ Aside0 (IsS90 w0 w' g s0_0 x1001_1 x1002_1) ∧ Aside0 (KeepBut w w' g none) ∧ Aside0 (Below w0.heap.size w0 w'))
 case atStart => exact ⟨(0), (t529), (t530), (t531), (.slice Ao8 t531.length co8), zJJ, H', ⟨Nat.le_refl _⟩, ⟨by refine zrR ?_; exact Kd.R_mono (Kd.R_far (p := ⟨gb536, 2, none⟩) (Kd.R_far (p := ⟨gb536, 1, none⟩) (Kd.R_far (p := ⟨gb536, 0, none⟩) (Kd.R_types HO533.1 BK536.1 (by decide)) (fun _ hk => hk.2) (.slice Ao8 t531.length co8)) (fun _ hk => hk.2) (.int .i64 t534)) (fun _ hk => hk.2) (.int .i64 t535)) (fun _ hk => trivial)⟩, ⟨by refine zP ?_; refine blk_far ?_ NB527_536.1 _; refine zP ?_; refine blk_far ?_ NB527_536.1 _; refine zP ?_; refine blk_far ?_ NB527_536.1 _; refine zP ?_; exact BK527.1⟩, ⟨by exact zp3 (zK BK536.1)⟩, ⟨zB49⟩, ⟨zB37⟩, ⟨zB36⟩⟩
 case round =>
  clear H'
  try clear c1
  try clear p2
  try clear c4
  try clear c8
  try clear c9
  try clear c10
  try clear hcz11
  obtain ⟨x4_1, x1001_1, x1002_1, x537000_1, u537000, rfl, HA, HK1, HO_537000, BK527, BK536, HI0, HK, HB⟩ := hrel
  cases gk with
  | zero => exact absurd HA.1 (by simp [spec_l9DrawHart.l0])
  | succ k1 =>
   have H := HA.1
   clear HA
   simp only [spec_l9DrawHart.l0] at H
   by_cases c12 : x4_1 < 4
   ·rw [if_pos c12] at H
    have c12b0 := decide_eq_true c12
    clear c12
    obtain ⟨y537, hy537⟩ : ∃ y_ : List Int, y_ = (([0, 1, 2, 20, 65535] : List Int)) := ⟨_, rfl⟩
    replace H : ((spec_l1PickInt.f s0_0 x1001_1 x1002_1 y537).bind fun bt540 => (if 0 ≤ x4_1 then (if x4_1 < (x537000_1.length : Int) then (spec_l9DrawHart.l0 k1 (wrap64 (x4_1 + 1)) s0_0 bt540.2.1 bt540.2.2 (x537000_1.set (x4_1 : Int).toNat bt540.1) t534 t535) else (none)) else (none))) = some (r1, r2, r3, r4, r5) := by first | (rw [hy537]; with_reducible exact H) | (have H2_ := (Option.bind_some _ _).symm.trans H; rw [hy537]; with_reducible exact H2_) | (have H2_ := (Option.bind_some _ _).symm.trans H; with_reducible exact H2_) | with_reducible exact H | (rw [hy537]; exact H) | exact H
    have Ny537 := zM hy537
    clear hy537
    replace H := zO H
    obtain ⟨⟨t540, t541, t542⟩, A13, H⟩ := H
    try dsimp only at H
    replace H := zIt H
    obtain ⟨c14b0, H⟩ := H
    replace H := zIt H
    obtain ⟨c15b0, H⟩ := H
    obtain ⟨y543, hy543⟩ : ∃ y_ : List Int, y_ = (x537000_1.set (x4_1 : Int).toNat t540) := ⟨_, rfl⟩
    replace H : (spec_l9DrawHart.l0 k1 (wrap64 (x4_1 + 1)) s0_0 t541 t542 y543 t534 t535) = some (r1, r2, r3, r4, r5) := by first | (rw [hy543]; with_reducible exact H) | (have H2_ := (Option.bind_some _ _).symm.trans H; rw [hy543]; with_reducible exact H2_) | (have H2_ := (Option.bind_some _ _).symm.trans H; with_reducible exact H2_) | with_reducible exact H | (rw [hy543]; exact H) | exact H
    have Ny543 := zM hy543
    clear hy543
    have H' := zM H
    clear H
    try go_wp2
    replace HO_537000 := zM (Kd.R_drew HO_537000.1)
    replace BK527 := zM (blk_drew BK527.1)
    replace BK536 := zM (blk_drew BK536.1)
    replace HI0 := zM (IsS90.drew HI0.1)
    replace HK := zM (keep_drew HK.1)
    replace HB := zM (below_drew1 HB.1)
    refine start_ (n := 8) (S := fun w' => w'.cell? ⟨gb536, 0, none⟩ = some (u537000) ∧ w'.cell? ⟨gb536, 1, none⟩ = some (.int .i64 t534) ∧ w'.cell? ⟨gb536, 2, none⟩ = some (.int .i64 t535)) (ds := [7]) #[false, false, false, false, false, false, false, false] (by kernel_rfl) rfl rfl ⟨(blk_cell BK536.1 0).trans rfl, (blk_cell BK536.1 1).trans rfl, (blk_cell BK536.1 2).trans rfl⟩ (fun hHeld => ?_); refine with_tabW spec_l9DrawHart.tab5 spec_l9DrawHart.bits5 (fun HT_ HW_ => ?_)
    generalize wr.drew = w17 at HO_537000 BK527 BK536 HI0 HK HB hHeld ⊢
    refine zPu 0 ?_
    refine zPu 2 ?_
    refine zPu 3 ?_
    refine zTk3 1 hHeld ?_
    refine zOn 4 (some 16) fun K hK => ?_
    refine Kd.R_lit_step (Kd.int .i64) _ 3 ?hg (N := 16) ?hd (xs := ([0, 1, 2, 20, 65535] : List Int)) (inner := [.int .i64 0, .int .i64 1, .int .i64 2, .int .i64 20, .int .i64 65535]) (ok := fun _ => True) (okp := fun _ => True) ?hr ?hp (fun _ hk => hk) trivial (Below.refl _ _) (Nat.le_refl _) (by simp) ?_; (case hd => rfl); (case hg => rfl); (case hr => exact zHH); (case hp => exact (Reps.one (show Kd.M (Kd.int .i64) _ _ _ 0 [.int .i64 0] from rfl) (Reps.one (show Kd.M (Kd.int .i64) _ _ _ 1 [.int .i64 1] from rfl) (Reps.one (show Kd.M (Kd.int .i64) _ _ _ 2 [.int .i64 2] from rfl) (Reps.one (show Kd.M (Kd.int .i64) _ _ _ 20 [.int .i64 20] from rfl) (Reps.one (show Kd.M (Kd.int .i64) _ _ _ 65535 [.int .i64 65535] from rfl) (Reps.none _ _)))))))
    intro v538 w18 ho19 hb hg_ hnew_
    clear hg_ hnew_
    (first | rw [← Ny537.1] at ho19 | (simp only [Int.reduceToNat] at ho19; rw [← Ny537.1] at ho19))
    have n0_ := zM (Kd.R_elder' (zR HO_537000.1) (Kd.R_base ho19) hb)
    have n1_ := zM (Kd.R_lower (Kd.R_new' ho19 (Kd.R_lt (zR HO_537000.1))) (keep_size (w := w) (g := g) (row := none) zB37))
    have n2_ := zM (zb BK527.1 hb)
    have n3_ := zM (zb BK536.1 hb)
    have n4_ := zM (IsS90.below zB49 hb)
    have n5_ := zM (KeepBut.trans zB37 (KeepBut.of_below hb g none) (.inl rfl))
    have n6_ := zM (below_step zB36 hb)
    clear HO_537000 BK527 BK536 HI0 HK HB
    have HO_537000 := n0_
    have HO539 := n1_
    have BK527 := n2_
    have BK536 := n3_
    have HI0 := n4_
    have HK := n5_
    have HB := n6_
    clear n0_ n1_ n2_ n3_ n4_ n5_ n6_ hb ho19
    obtain ⟨Ao20, co20, eo20⟩ := Kd.R_slice HO539.1
    (first | subst eo20 | (injection eo20 with f1_ f2_ f3_; have f4_ := f1_.symm; have f5_ := f3_.symm; clear f1_ f2_ f3_; subst f4_; subst f5_))
    refine hK.out _ _ zCs fun hHeld => ?_
    clear hK K
    refine zNo ?_
    refine zOn 5 (some 17) fun K hK => ?_
    refine zGs Try.func61 #[.pointer (some ⟨g, 0, none⟩), .slice Ao20 y537.length co20] ?_
    with_reducible refine (spec_l1PickInt.calls g s0_0 x1001_1 x1002_1 _ _ y537 t540 t541 t542 w0 _ ?side1 ?side2 ?side3 ?side4 ?side5 A13.1).mono ?_
    (case side1 => exact zB49)
    (case side2 => exact zB36)
    (case side3 => exact zC (Kd.R_reads' HO539.1).2.2)
    (case side4 => exact (Kd.R_reads' HO539.1).2.1)
    (case side5 => exact far_slice (IsS90.own_ne HI0.1 HO539.1 (by decide)))
    rintro e w21 ⟨rfl, hi, hb, hk⟩
    refine ⟨_, rfl, ?_⟩
    replace HO_537000 := zM (Kd.R_mono (Kd.R_keep (IsS90.apart (show IsS90 w0 _ g s0_0 x1001_1 x1002_1 from zB49) (zR HO_537000.1) (by decide)) hk (fun _ h => h.2)) (fun _ h => h.1))
    replace BK527 := zM (zh hk BK527.1 NB527_0.1)
    replace BK536 := zM (zh hk BK536.1 NB536_0.1)
    replace HK := zM (KeepBut.trans zB37 hk (.inl rfl))
    replace HB := zM hb
    replace HI0 := zM hi
    have p16 : 0 ≤ (x4_1 : Int) := zA
    have q16 : (x4_1 : Int) < ((x537000_1.length : Int) : Int) := zA
    obtain ⟨go16, co16, eo16, gb16, gl16, cl16, HG16⟩ := Kd.R_form HO_537000.1 (by omega)
    (first | cases eo16 | (injection eo16 with ea_ en_ ec_; (first | subst ea_ | (injection ea_ with ea_; subst ea_)); subst ec_; clear en_))
    have GB16 := zM gb16
    clear gb16 gl16 HG16
    obtain ⟨hx16_0, hf16_0⟩ := Kd.R_celln 0 HO_537000.1 (x4_1 : Int) p16 q16
    replace p16 := eq_true p16
    replace q16 := eq_true q16
    have HN0_go16 := zM (show g ≠ go16 from by have h_ := IsS90.own_ne HI0.1 HO_537000.1 (by decide); intro e_; exact h_ (by rw [e_]; rfl))
    have HP22 := Kd.R_putn HO_537000.1 (x4_1 : Int) t540
    rw [← Ny543.1] at HP22
    have HQ22 := zM HP22
    clear HP22
    refine hK.out _ _ zCs fun hHeld => ?_
    clear hK K
    refine zNo ?_
    refine zPu 6 ?_
    refine last_ (i := 7) (N := none) #[true, true, true, true, true, true, true, true] rfl rfl (one_of HT_.1 (by kernel_rfl)) (by decide) (fun K hK => ?_)
    refine skip_ (w1 := ?_) (by rfl) rfl ?_ ?_
    rotate_left
    ·go_simp
     rfl
    refine hK.out _ _ ?_
    clear hK K
    refine done_ (done_of HT_.1 (by kernel_rfl)) ?_
    try go_wp2
    go_roundg k1
    case measure => have := HK1.1; omega
    case rel => exact ⟨(wrap64 (x4_1 + 1)), (t541), (t542), (y543), (.slice (some ⟨go16, 0, none⟩) x537000_1.length co16), zJJ, H', ⟨by have := HK1.1; omega⟩, ⟨by refine zrR ?_; exact Kd.R_mono HQ22.out (fun _ hk => trivial)⟩, ⟨by refine zP ?_; refine blk_far ?_ (by have h_ := Kd.R_ne HO_537000.1 BK527.1 (by decide); intro e_; exact h_ (by rw [e_]; rfl)) _; refine zP ?_; exact BK527.1⟩, ⟨by refine zP ?_; refine blk_far ?_ (by have h_ := Kd.R_ne HO_537000.1 BK536.1 (by decide); intro e_; exact h_ (by rw [e_]; rfl)) _; refine zP ?_; exact BK536.1⟩, ⟨zB52⟩, ⟨zB37⟩, ⟨zB54⟩⟩
   rw [if_neg c12] at H
   have c12b0 := decide_eq_false c12
   clear c12
   replace H := zO H
   obtain ⟨⟨t544, t545, t546⟩, A23, H⟩ := H
   try dsimp only at H
   by_cases c24 : t544 = 0
   ·rw [if_pos c24] at H
    have c24b0 : (t544 == 0) = true := beq_iff_eq.mpr c24
    clear c24
    replace H := zO H
    obtain ⟨⟨t547, t548, t549⟩, A25, H⟩ := H
    try dsimp only at H
    simp only [Option.some.injEq, Prod.mk.injEq] at H
    obtain ⟨rfl, rfl, rfl, rfl, rfl⟩ := H
    go_wp2_with (first | ((with_reducible refine zG Try.func42 20 #[.pointer (some ⟨g, 0, none⟩), .int .i64 12] ?_); (with_reducible refine (spec_l1Below.calls g s0_0 x1001_1 x1002_1 12 t544 t545 t546 w0 _ ?side1 ?side2 A23.1).mono ?_); (case side1 => exact zB49); (case side2 => exact zB36); rintro e w26 ⟨rfl, hi, hb, hk⟩; refine ⟨_, rfl, ?_⟩; replace HO_537000 := zM (Kd.R_mono (Kd.R_keep (IsS90.apart (show IsS90 w0 _ g s0_0 x1001_1 x1002_1 from zB49) (zR HO_537000.1) (by decide)) hk (fun _ h => h.2)) (fun _ h => h.1)); replace BK527 := zM (zh hk BK527.1 NB527_0.1); replace BK536 := zM (zh hk BK536.1 NB536_0.1); replace HK := zM (KeepBut.trans zB37 hk (.inl rfl)); replace HB := zM hb; replace HI0 := zM hi; clear hb hk hi) | ((with_reducible refine zG Try.func42 24 #[.pointer (some ⟨g, 0, none⟩), .int .i64 5] ?_); (with_reducible refine (spec_l1Below.calls g s0_0 t545 t546 5 t547 t548 t549 w0 _ ?side1 ?side2 A25.1).mono ?_); (case side1 => exact zB49); (case side2 => exact zB36); rintro e w27 ⟨rfl, hi, hb, hk⟩; refine ⟨_, rfl, ?_⟩; replace HO_537000 := zM (Kd.R_mono (Kd.R_keep (IsS90.apart (show IsS90 w0 _ g s0_0 t545 t546 from zB49) (zR HO_537000.1) (by decide)) hk (fun _ h => h.2)) (fun _ h => h.1)); replace BK527 := zM (zh hk BK527.1 NB527_0.1); replace BK536 := zM (zh hk BK536.1 NB536_0.1); replace HK := zM (KeepBut.trans zB37 hk (.inl rfl)); replace HB := zM hb; replace HI0 := zM hi; clear hb hk hi; have hnc28 := NB527_536.1; have hnb29 := NB536_0.1; have hnc29 := NB0_536.1; have hcz30 := zc_3 (w := w27) BK536.1; obtain ⟨Ao31, co31, eo31⟩ := Kd.R_slice HO_537000.1; subst eo31; have hnb32 := NB527_0.1; have hnc32 := NB0_527.1; have hcz33 := zc_3 (w := w27) BK527.1))
    refine bodyPost_ret (results_cell_row rfl _ _ gb527 49 #[.slice Ao31 x537000_1.length co31, .int .i64 t534, .int .i64 (wrap64 (t547 - 1))] (0, 0) _ rfl (by refine zP ?_; refine blk_put (cs := #[.slice Ao31 x537000_1.length co31, .int .i64 t534, .int .i64 0]) ?_ 2 _ rfl; refine zP ?_; refine blk_put (cs := #[.slice Ao31 x537000_1.length co31, .int .i64 0, .int .i64 0]) ?_ 1 _ rfl; refine zP ?_; refine blk_put (cs := #[.slice none 0 0, .int .i64 0, .int .i64 0]) ?_ 0 _ rfl; refine zP ?_; refine blk_far ?_ NB527_536.1 _; refine zP ?_; exact BK527.1) Try.underlying49 rfl (by kernel_rfl)) rfl ?_
    exact ⟨_, zE, QR_of (by refine zrR ?_; exact Kd.R_mono (Kd.R_far (p := ⟨gb527, 2, none⟩) (Kd.R_far (p := ⟨gb527, 1, none⟩) (Kd.R_far (p := ⟨gb527, 0, none⟩) (Kd.R_far (p := ⟨gb536, 2, none⟩) (Kd.R_types (Kd.R_types HO_537000.1 BK536.1 (by decide)) BK527.1 (by decide)) (fun _ hk => hk.1.2) (.int .i64 (wrap64 (t547 - 1)))) (fun _ hk => hk.2) (.slice Ao31 x537000_1.length co31)) (fun _ hk => hk.2) (.int .i64 t534)) (fun _ hk => hk.2) (.int .i64 (wrap64 (t547 - 1)))) (fun _ hk => trivial)), zB49, zB36, zB37⟩
   rw [if_neg c24] at H
   have c24b0 : (t544 == 0) = false := beq_eq_false_iff_ne.mpr c24
   by_cases c34 : t544 = 1
   rotate_left
   ·rw [if_neg c34] at H
    have c34b0 : (t544 == 1) = false := beq_eq_false_iff_ne.mpr c34
    by_cases c51 : t544 = 2
    ·rw [if_pos c51] at H
     have c51b0 : (t544 == 2) = true := beq_iff_eq.mpr c51
     clear c51
     obtain ⟨y557, hy557⟩ : ∃ y_ : List Int, y_ = (([(-1), 24] : List Int)) := ⟨_, rfl⟩
     replace H : ((spec_l1PickInt.f s0_0 t545 t546 y557).bind fun bt560 => (some (x537000_1, bt560.1, t535, bt560.2.1, bt560.2.2))) = some (r1, r2, r3, r4, r5) := by first | (rw [hy557]; with_reducible exact H) | (have H2_ := (Option.bind_some _ _).symm.trans H; rw [hy557]; with_reducible exact H2_) | (have H2_ := (Option.bind_some _ _).symm.trans H; with_reducible exact H2_) | with_reducible exact H | (rw [hy557]; exact H) | exact H
     have Ny557 := zM hy557
     clear hy557
     replace H := zO H
     obtain ⟨⟨t560, t561, t562⟩, A52, H⟩ := H
     try dsimp only at H
     simp only [Option.some.injEq, Prod.mk.injEq] at H
     obtain ⟨rfl, rfl, rfl, rfl, rfl⟩ := H
     go_wp2_with (first | ((with_reducible refine zG Try.func42 20 #[.pointer (some ⟨g, 0, none⟩), .int .i64 12] ?_); (with_reducible refine (spec_l1Below.calls g s0_0 x1001_1 x1002_1 12 t544 t545 t546 w0 _ ?side1 ?side2 A23.1).mono ?_); (case side1 => exact zB49); (case side2 => exact zB36); rintro e w53 ⟨rfl, hi, hb, hk⟩; refine ⟨_, rfl, ?_⟩; replace HO_537000 := zM (Kd.R_mono (Kd.R_keep (IsS90.apart (show IsS90 w0 _ g s0_0 x1001_1 x1002_1 from zB49) (zR HO_537000.1) (by decide)) hk (fun _ h => h.2)) (fun _ h => h.1)); replace BK527 := zM (zh hk BK527.1 NB527_0.1); replace BK536 := zM (zh hk BK536.1 NB536_0.1); replace HK := zM (KeepBut.trans zB37 hk (.inl rfl)); replace HB := zM hb; replace HI0 := zM hi; clear hb hk hi) | ((with_reducible refine gate_dst (N := 38) rfl ?_); refine Kd.R_lit (Kd.int .i64) _ 3 ?hg (N := 38) ?hd (xs := ([(-1), 24] : List Int)) (inner := [.int .i64 (-1), .int .i64 24]) (ok := fun _ => True) (okp := fun _ => True) ?hr ?hp (fun _ hk => hk) trivial (Below.refl _ _) (Nat.le_refl _) (by simp) ?_; (case hd => rfl); (case hg => rfl); (case hr => exact zHH); (case hp => exact (Reps.one (show Kd.M (Kd.int .i64) _ _ _ (-1) [.int .i64 (-1)] from rfl) (Reps.one (show Kd.M (Kd.int .i64) _ _ _ 24 [.int .i64 24] from rfl) (Reps.none _ _)))); intro v558 w54 ho55 hb hg_ hnew_; clear hg_ hnew_; (first | rw [← Ny557.1] at ho55 | (simp only [Int.reduceToNat] at ho55; rw [← Ny557.1] at ho55)); have HO559 := zM (Kd.R_lower (Kd.R_new' ho55 (Kd.R_lt (zR HO_537000.1))) (keep_size (w := w) (g := g) (row := none) zB37)); replace HO_537000 := zM (Kd.R_elder' (zR HO_537000.1) (Kd.R_base ho55) hb); replace BK527 := zM (zb BK527.1 hb); replace BK536 := zM (zb BK536.1 hb); replace HK := zM (KeepBut.trans zB37 (KeepBut.of_below hb g none) (.inl rfl)); replace HB := zM (below_step zB36 hb); replace HI0 := zM (IsS90.below zB49 hb); clear hb ho55; obtain ⟨Ao56, co56, eo56⟩ := Kd.R_slice HO559.1; subst eo56) | ((with_reducible refine zG Try.func61 39 #[.pointer (some ⟨g, 0, none⟩), .slice Ao56 y557.length co56] ?_); (with_reducible refine (spec_l1PickInt.calls g s0_0 t545 t546 _ _ y557 t560 t561 t562 w0 _ ?side1 ?side2 ?side3 ?side4 ?side5 A52.1).mono ?_); (case side1 => exact zB49); (case side2 => exact zB36); (case side3 => exact zC (Kd.R_reads' HO559.1).2.2); (case side4 => exact (Kd.R_reads' HO559.1).2.1); (case side5 => exact far_slice (IsS90.own_ne HI0.1 HO559.1 (by decide))); rintro e w57 ⟨rfl, hi, hb, hk⟩; refine ⟨_, rfl, ?_⟩; replace HO_537000 := zM (Kd.R_mono (Kd.R_keep (IsS90.apart (show IsS90 w0 _ g s0_0 t545 t546 from zB49) (zR HO_537000.1) (by decide)) hk (fun _ h => h.2)) (fun _ h => h.1)); replace BK527 := zM (zh hk BK527.1 NB527_0.1); replace BK536 := zM (zh hk BK536.1 NB536_0.1); replace HK := zM (KeepBut.trans zB37 hk (.inl rfl)); replace HB := zM hb; replace HI0 := zM hi; clear hb hk hi; have hnc58 := NB527_536.1; have hnb59 := NB536_0.1; have hnc59 := NB0_536.1; have hcz60 := zc_3 (w := w57) BK536.1; obtain ⟨Ao61, co61, eo61⟩ := Kd.R_slice HO_537000.1; subst eo61; have hnb62 := NB527_0.1; have hnc62 := NB0_527.1; have hcz63 := zc_3 (w := w57) BK527.1))
     refine bodyPost_ret (results_cell_row rfl _ _ gb527 49 #[.slice Ao61 x537000_1.length co61, .int .i64 t560, .int .i64 t535] (0, 0) _ rfl (by refine zP ?_; refine blk_put (cs := #[.slice Ao61 x537000_1.length co61, .int .i64 t560, .int .i64 0]) ?_ 2 _ rfl; refine zP ?_; refine blk_put (cs := #[.slice Ao61 x537000_1.length co61, .int .i64 0, .int .i64 0]) ?_ 1 _ rfl; refine zP ?_; refine blk_put (cs := #[.slice none 0 0, .int .i64 0, .int .i64 0]) ?_ 0 _ rfl; refine zP ?_; refine blk_far ?_ NB527_536.1 _; refine zP ?_; exact BK527.1) Try.underlying49 rfl (by kernel_rfl)) rfl ?_
     exact ⟨_, zE, QR_of (by refine zrR ?_; exact Kd.R_mono (Kd.R_far (p := ⟨gb527, 2, none⟩) (Kd.R_far (p := ⟨gb527, 1, none⟩) (Kd.R_far (p := ⟨gb527, 0, none⟩) (Kd.R_far (p := ⟨gb536, 1, none⟩) (Kd.R_types (Kd.R_types HO_537000.1 BK536.1 (by decide)) BK527.1 (by decide)) (fun _ hk => hk.1.2) (.int .i64 t560)) (fun _ hk => hk.2) (.slice Ao61 x537000_1.length co61)) (fun _ hk => hk.2) (.int .i64 t560)) (fun _ hk => hk.2) (.int .i64 t535)) (fun _ hk => trivial)), zB49, zB36, zB37⟩
    rw [if_neg c51] at H
    have c51b0 : (t544 == 2) = false := beq_eq_false_iff_ne.mpr c51
    by_cases c64 : t544 = 3
    rotate_left
    ·rw [if_neg c64] at H
     have c64b0 : (t544 == 3) = false := beq_eq_false_iff_ne.mpr c64
     simp only [Option.some.injEq, Prod.mk.injEq] at H
     obtain ⟨rfl, rfl, rfl, rfl, rfl⟩ := H
     go_wp2_with (first | ((with_reducible refine zG Try.func42 20 #[.pointer (some ⟨g, 0, none⟩), .int .i64 12] ?_); (with_reducible refine (spec_l1Below.calls g s0_0 x1001_1 x1002_1 12 t544 t545 t546 w0 _ ?side1 ?side2 A23.1).mono ?_); (case side1 => exact zB49); (case side2 => exact zB36); rintro e w71 ⟨rfl, hi, hb, hk⟩; refine ⟨_, rfl, ?_⟩; replace HO_537000 := zM (Kd.R_mono (Kd.R_keep (IsS90.apart (show IsS90 w0 _ g s0_0 x1001_1 x1002_1 from zB49) (zR HO_537000.1) (by decide)) hk (fun _ h => h.2)) (fun _ h => h.1)); replace BK527 := zM (zh hk BK527.1 NB527_0.1); replace BK536 := zM (zh hk BK536.1 NB536_0.1); replace HK := zM (KeepBut.trans zB37 hk (.inl rfl)); replace HB := zM hb; replace HI0 := zM hi; clear hb hk hi; have hcz74 := zc_3 (w := w71) BK536.1; obtain ⟨Ao75, co75, eo75⟩ := Kd.R_slice HO_537000.1; subst eo75; have hcz77 := zc_3 (w := w71) BK527.1))
     refine bodyPost_ret (results_cell_row rfl _ _ gb527 49 #[.slice Ao75 x537000_1.length co75, .int .i64 t534, .int .i64 t535] (0, 0) _ rfl (by exact zp3 (zK BK527.1)) Try.underlying49 rfl (by kernel_rfl)) rfl ?_
     exact ⟨_, zE, QR_of (by refine zrR ?_; exact Kd.R_mono (Kd.R_far (p := ⟨gb527, 2, none⟩) (Kd.R_far (p := ⟨gb527, 1, none⟩) (Kd.R_far (p := ⟨gb527, 0, none⟩) (Kd.R_types HO_537000.1 BK527.1 (by decide)) (fun _ hk => hk.2) (.slice Ao75 x537000_1.length co75)) (fun _ hk => hk.2) (.int .i64 t534)) (fun _ hk => hk.2) (.int .i64 t535)) (fun _ hk => trivial)), zB49, zB36, zB37⟩
    rw [if_pos c64] at H
    have c64b0 : (t544 == 3) = true := beq_iff_eq.mpr c64
    clear c64
    replace H := zIp H
    obtain ⟨c65, H⟩ := H
    have HL4 := zM c65
    have c65b1 : decide (1 ≤ (x537000_1.length : Int)) = true := decide_eq_true (by omega)
    clear c65
    obtain ⟨y563, hy563⟩ : ∃ y_ : List Int, y_ = (x537000_1.drop (1 : Int).toNat) := ⟨_, rfl⟩
    replace H : (some (y563, t534, t535, t545, t546)) = some (r1, r2, r3, r4, r5) := by first | (rw [hy563]; with_reducible exact H) | (have H2_ := (Option.bind_some _ _).symm.trans H; rw [hy563]; with_reducible exact H2_) | (have H2_ := (Option.bind_some _ _).symm.trans H; with_reducible exact H2_) | with_reducible exact H | (rw [hy563]; exact H) | exact H
    have Ny563 := zM hy563
    clear hy563
    simp only [Option.some.injEq, Prod.mk.injEq] at H
    obtain ⟨rfl, rfl, rfl, rfl, rfl⟩ := H
    have hQ_ := zM (Kd.Q_of_R HO_537000.1)
    clear HO_537000
    have HO_537000 := hQ_
    clear hQ_
    go_wp2_with (first | ((with_reducible refine zG Try.func42 20 #[.pointer (some ⟨g, 0, none⟩), .int .i64 12] ?_); (with_reducible refine (spec_l1Below.calls g s0_0 x1001_1 x1002_1 12 t544 t545 t546 w0 _ ?side1 ?side2 A23.1).mono ?_); (case side1 => exact zB49); (case side2 => exact zB36); rintro e w66 ⟨rfl, hi, hb, hk⟩; refine ⟨_, rfl, ?_⟩; replace HO_537000 := zM (Kd.Q_mono (Kd.Q_keep (IsS90.apartQ (show IsS90 w0 _ g s0_0 x1001_1 x1002_1 from zB49) (zQ HO_537000.1) (by decide)) hk (fun _ h => h.2)) (fun _ h => h.1)); replace BK527 := zM (zh hk BK527.1 NB527_0.1); replace BK536 := zM (zh hk BK536.1 NB536_0.1); replace HK := zM (KeepBut.trans zB37 hk (.inl rfl)); replace HB := zM hb; replace HI0 := zM hi; clear hb hk hi; have hnc67 := NB527_536.1; have hnb68 := NB536_0.1; have hnc68 := NB0_536.1; have hcz69 := zc_3 (w := w66) BK536.1; obtain ⟨Ao70, co70, eo70, _⟩ := Kd.Q_slice HO_537000.1; subst eo70; have q71 : (1 : Int) ≤ ((x537000_1.length : Int) : Int) := zA; obtain ⟨i071, hi071, _, hsz71, _⟩ := info_parts info3; have hcut71 := cut_from (P := Try.prog) 29 3 .i64 Try.underlying29 hi071 1 hsz71 Ao70 x537000_1.length co70 1 (by omega) q71; have hr71 := Kd.Q_drop (k := (1 : Int).toNat) HO_537000.1 (by omega); obtain ⟨A71, hA71⟩ : ∃ A1, A1 = (if co70 = (1 : Int).toNat then Ao70 else (Ao70 : Option Addr).map (·.add ((1 : Int).toNat * 1))) := ⟨_, rfl⟩; obtain ⟨c71, hc71⟩ : ∃ c1, c1 = co70 - (1 : Int).toNat := ⟨_, rfl⟩; have hy71 : y563.length = x537000_1.length - (1 : Int).toNat := (by rw [Ny563.1, List.length_drop]); rw [← Ny563.1] at hr71; rw [← hy71, ← hA71, ← hc71] at hcut71; replace hr71 : Kd.Q (Kd.int .i64) 3 w66 w.heap.size (fun _ => True) (.slice A71 y563.length c71) y563 := (by rw [hA71, hc71, hy71]; exact hr71); clear hy71 hi071 hsz71 HO_537000 hA71 hc71; have HO565 := zM hr71; clear hr71; replace q71 := eq_true q71; have hnb72 := NB527_0.1; have hnc72 := NB0_527.1; have hcz73 := zc_3 (w := w66) BK527.1))
    refine bodyPost_ret (results_cell_row rfl _ _ gb527 49 #[.slice A71 y563.length c71, .int .i64 t534, .int .i64 t535] (0, 0) _ rfl (by refine zP ?_; refine blk_put (cs := #[.slice A71 y563.length c71, .int .i64 t534, .int .i64 0]) ?_ 2 _ rfl; refine zP ?_; refine blk_put (cs := #[.slice A71 y563.length c71, .int .i64 0, .int .i64 0]) ?_ 1 _ rfl; refine zP ?_; refine blk_put (cs := #[.slice none 0 0, .int .i64 0, .int .i64 0]) ?_ 0 _ rfl; refine zP ?_; refine blk_far ?_ NB527_536.1 _; refine zP ?_; exact BK527.1) Try.underlying49 rfl (by kernel_rfl)) rfl ?_
    exact ⟨_, zE, ⟨by refine zrQ ?_; exact Kd.Q_mono (Kd.Q_far (p := ⟨gb527, 2, none⟩) (Kd.Q_far (p := ⟨gb527, 1, none⟩) (Kd.Q_far (p := ⟨gb527, 0, none⟩) (Kd.Q_far (p := ⟨gb536, 0, none⟩) (Kd.Q_types (Kd.Q_types HO565.1 BK536.1 (by decide)) BK527.1 (by decide)) (fun _ hk => hk.1.2) (.slice A71 y563.length c71)) (fun _ hk => hk.2) (.slice A71 y563.length c71)) (fun _ hk => hk.2) (.int .i64 t534)) (fun _ hk => hk.2) (.int .i64 t535)) (fun _ hk => trivial), fun hl_ => absurd hl_ (by rw [Ny563.1, List.length_drop]; have h4_ := HL4.1; simp only [Int.toNat_one]; omega)⟩, zB49, zB36, zB37⟩
   rw [if_pos c34] at H
   have c34b0 : (t544 == 1) = true := beq_iff_eq.mpr c34
   clear c34
   obtain ⟨y550, hy550⟩ : ∃ y_ : List Int, y_ = (([(-1), 65536] : List Int)) := ⟨_, rfl⟩
   replace H : ((spec_l1PickInt.f s0_0 t545 t546 y550).bind fun bt553 => (if 0 < (x537000_1.length : Int) then (some ((x537000_1.set (0 : Int).toNat bt553.1), t534, t535, bt553.2.1, bt553.2.2)) else (none))) = some (r1, r2, r3, r4, r5) := by first | (rw [hy550]; with_reducible exact H) | (have H2_ := (Option.bind_some _ _).symm.trans H; rw [hy550]; with_reducible exact H2_) | (have H2_ := (Option.bind_some _ _).symm.trans H; with_reducible exact H2_) | with_reducible exact H | (rw [hy550]; exact H) | exact H
   have Ny550 := zM hy550
   clear hy550
   replace H := zO H
   obtain ⟨⟨t553, t554, t555⟩, A35, H⟩ := H
   try dsimp only at H
   replace H := zIt H
   obtain ⟨c36b0, H⟩ := H
   obtain ⟨y556, hy556⟩ : ∃ y_ : List Int, y_ = (x537000_1.set (0 : Int).toNat t553) := ⟨_, rfl⟩
   replace H : (some (y556, t534, t535, t554, t555)) = some (r1, r2, r3, r4, r5) := by first | (rw [hy556]; with_reducible exact H) | (have H2_ := (Option.bind_some _ _).symm.trans H; rw [hy556]; with_reducible exact H2_) | (have H2_ := (Option.bind_some _ _).symm.trans H; with_reducible exact H2_) | with_reducible exact H | (rw [hy556]; exact H) | exact H
   have Ny556 := zM hy556
   clear hy556
   simp only [Option.some.injEq, Prod.mk.injEq] at H
   obtain ⟨rfl, rfl, rfl, rfl, rfl⟩ := H
   try go_wp2_with (first | ((with_reducible refine zG Try.func42 20 #[.pointer (some ⟨g, 0, none⟩), .int .i64 12] ?_); (with_reducible refine (spec_l1Below.calls g s0_0 x1001_1 x1002_1 12 t544 t545 t546 w0 _ ?side1 ?side2 A23.1).mono ?_); (case side1 => exact zB49); (case side2 => exact zB36); rintro e w38 ⟨rfl, hi, hb, hk⟩; refine ⟨_, rfl, ?_⟩; replace HO_537000 := zM (Kd.R_mono (Kd.R_keep (IsS90.apart (show IsS90 w0 _ g s0_0 x1001_1 x1002_1 from zB49) (zR HO_537000.1) (by decide)) hk (fun _ h => h.2)) (fun _ h => h.1)); replace BK527 := zM (zh hk BK527.1 NB527_0.1); replace BK536 := zM (zh hk BK536.1 NB536_0.1); replace HK := zM (KeepBut.trans zB37 hk (.inl rfl)); replace HB := zM hb; replace HI0 := zM hi; clear hb hk hi))
   replace HO_537000 := zM (Kd.R_drew HO_537000.1)
   replace BK527 := zM (blk_drew BK527.1)
   replace BK536 := zM (blk_drew BK536.1)
   replace HI0 := zM (IsS90.drew HI0.1)
   replace HK := zM (keep_drew HK.1)
   replace HB := zM (below_drew1 HB.1)
   refine start_ (n := 7) (S := fun w' => w'.cell? ⟨gb536, 0, none⟩ = some (u537000) ∧ w'.cell? ⟨gb536, 1, none⟩ = some (.int .i64 t534) ∧ w'.cell? ⟨gb536, 2, none⟩ = some (.int .i64 t535)) (ds := [6]) #[false, false, false, false, false, false, false] (by kernel_rfl) rfl rfl ⟨(blk_cell BK536.1 0).trans rfl, (blk_cell BK536.1 1).trans rfl, (blk_cell BK536.1 2).trans rfl⟩ (fun hHeld => ?_)
   generalize w38.drew = w39 at HO_537000 BK527 BK536 HI0 HK HB hHeld ⊢
   refine zPu 0 ?_
   refine zPu 2 ?_
   refine zTk3 1 hHeld ?_
   refine zOn 3 (some 32) fun K hK => ?_
   refine Kd.R_lit_step (Kd.int .i64) _ 3 ?hg (N := 32) ?hd (xs := ([(-1), 65536] : List Int)) (inner := [.int .i64 (-1), .int .i64 65536]) (ok := fun _ => True) (okp := fun _ => True) ?hr ?hp (fun _ hk => hk) trivial (Below.refl _ _) (Nat.le_refl _) (by simp) ?_; (case hd => rfl); (case hg => rfl); (case hr => exact zHH); (case hp => exact (Reps.one (show Kd.M (Kd.int .i64) _ _ _ (-1) [.int .i64 (-1)] from rfl) (Reps.one (show Kd.M (Kd.int .i64) _ _ _ 65536 [.int .i64 65536] from rfl) (Reps.none _ _))))
   intro v551 w40 ho41 hb hg_ hnew_
   clear hg_ hnew_
   (first | rw [← Ny550.1] at ho41 | (simp only [Int.reduceToNat] at ho41; rw [← Ny550.1] at ho41))
   have n0_ := zM (Kd.R_elder' (zR HO_537000.1) (Kd.R_base ho41) hb)
   have n1_ := zM (Kd.R_lower (Kd.R_new' ho41 (Kd.R_lt (zR HO_537000.1))) (keep_size (w := w) (g := g) (row := none) zB37))
   have n2_ := zM (zb BK527.1 hb)
   have n3_ := zM (zb BK536.1 hb)
   have n4_ := zM (IsS90.below zB49 hb)
   have n5_ := zM (KeepBut.trans zB37 (KeepBut.of_below hb g none) (.inl rfl))
   have n6_ := zM (below_step zB36 hb)
   clear HO_537000 BK527 BK536 HI0 HK HB
   have HO_537000 := n0_
   have HO552 := n1_
   have BK527 := n2_
   have BK536 := n3_
   have HI0 := n4_
   have HK := n5_
   have HB := n6_
   clear n0_ n1_ n2_ n3_ n4_ n5_ n6_ hb ho41
   obtain ⟨Ao42, co42, eo42⟩ := Kd.R_slice HO552.1
   (first | subst eo42 | (injection eo42 with f1_ f2_ f3_; have f4_ := f1_.symm; have f5_ := f3_.symm; clear f1_ f2_ f3_; subst f4_; subst f5_))
   refine hK.out _ _ zCs fun hHeld => ?_
   clear hK K
   refine zNo ?_
   refine zOn 4 (some 33) fun K hK => ?_
   refine zGs Try.func61 #[.pointer (some ⟨g, 0, none⟩), .slice Ao42 y550.length co42] ?_
   with_reducible refine (spec_l1PickInt.calls g s0_0 t545 t546 _ _ y550 t553 t554 t555 w0 _ ?side1 ?side2 ?side3 ?side4 ?side5 A35.1).mono ?_
   (case side1 => exact zB49)
   (case side2 => exact zB36)
   (case side3 => exact zC (Kd.R_reads' HO552.1).2.2)
   (case side4 => exact (Kd.R_reads' HO552.1).2.1)
   (case side5 => exact far_slice (IsS90.own_ne HI0.1 HO552.1 (by decide)))
   rintro e w43 ⟨rfl, hi, hb, hk⟩
   refine ⟨_, rfl, ?_⟩
   replace HO_537000 := zM (Kd.R_mono (Kd.R_keep (IsS90.apart (show IsS90 w0 _ g s0_0 t545 t546 from zB49) (zR HO_537000.1) (by decide)) hk (fun _ h => h.2)) (fun _ h => h.1))
   replace BK527 := zM (zh hk BK527.1 NB527_0.1)
   replace BK536 := zM (zh hk BK536.1 NB536_0.1)
   replace HO552 := zM (Kd.R_mono (Kd.R_keep (IsS90.apart (show IsS90 w0 _ g s0_0 t545 t546 from zB49) (zR HO552.1) (by decide)) hk (fun _ h => h.2)) (fun _ h => h.1))
   replace HK := zM (KeepBut.trans zB37 hk (.inl rfl))
   replace HB := zM hb
   replace HI0 := zM hi
   have p37 : 0 ≤ (0 : Int) := (by omega)
   have q37 : (0 : Int) < ((x537000_1.length : Int) : Int) := zA
   have qi37 : (0 < x537000_1.length) = True := eq_true (by omega)
   obtain ⟨go37, co37, eo37, gb37, gl37, cl37, HG37⟩ := Kd.R_form HO_537000.1 (by omega)
   (first | cases eo37 | (injection eo37 with ea_ en_ ec_; (first | subst ea_ | (injection ea_ with ea_; subst ea_)); subst ec_; clear en_))
   have GB37 := zM gb37
   clear gb37 gl37 HG37
   obtain ⟨hx37_0, hf37_0⟩ := Kd.R_celln 0 HO_537000.1 (0 : Int) p37 q37
   (try rw [show ((0 : Int)).toNat = 0 from rfl] at hx37_0)
   (try simp only [Nat.reduceMul, Nat.zero_mul, Nat.zero_add, Nat.reduceAdd] at hx37_0)
   (try rw [show ((0 : Int)).toNat = 0 from rfl] at hf37_0)
   (try simp only [Nat.reduceMul, Nat.zero_mul, Nat.zero_add, Nat.reduceAdd] at hf37_0)
   replace p37 := eq_true p37
   replace q37 := eq_true q37
   have HN0_go37 := zM (show g ≠ go37 from by have h_ := IsS90.own_ne HI0.1 HO_537000.1 (by decide); intro e_; exact h_ (by rw [e_]; rfl))
   have HP44 := Kd.R_putn HO_537000.1 (0 : Int) t553
   rw [← Ny556.1] at HP44
   have HQ44 := zM HP44
   clear HP44
   refine hK.out _ _ zCs fun hHeld => ?_
   clear hK K
   refine zNo ?_
   refine zPu 5 ?_
   refine last_ (i := 6) (N := none) #[true, true, true, true, true, true, true] rfl rfl (by kernel_rfl) (by decide) (fun K hK => ?_)
   refine skip_ (w1 := ?_) (by rfl) rfl ?_ ?_
   rotate_left
   ·go_simp
    rfl
   refine hK.out _ _ ?_
   clear hK K
   refine done_ (by kernel_rfl) ?_
   have n0_ : Aside0 (Kd.R (Kd.int .i64) 3 (w43.setCell ⟨go37, 0, none⟩ (.int .i64 t553)) w.heap.size (fun k_ => some k_ ≠ (.slice Ao42 y550.length co42 : Value).ownBlock) (.slice (some ⟨go37, 0, none⟩) x537000_1.length co37) y556) := ⟨by refine zrR ?_; exact Kd.R_mono HQ44.out (fun _ hk => hk.2)⟩
   have n1_ : Aside0 (Kd.R (Kd.int .i64) 3 (w43.setCell ⟨go37, 0, none⟩ (.int .i64 t553)) w.heap.size (fun k_ => some k_ ≠ (.slice (some ⟨go37, 0, none⟩) x537000_1.length co37 : Value).ownBlock) (.slice Ao42 y550.length co42) y550) := ⟨by refine zrR ?_; exact Kd.R_mono (Kd.R_far (p := ⟨go37, 0, none⟩) (Kd.R_mono HO552.1 (fun k_ hk => (⟨hk, fun e_ => hk.2 (by rw [e_]; rfl)⟩ : _ ∧ k_ ≠ go37))) (fun _ hk => hk.2) (.int .i64 t553)) (fun _ hk => hk.1.2)⟩
   have n2_ : Aside0 ((w43.setCell ⟨go37, 0, none⟩ (.int .i64 t553)).heap[gb527]? = some (.cells #[.slice none 0 0, .int .i64 0, .int .i64 0] 49 (0, 0))) := ⟨by refine zP ?_; refine blk_far ?_ (by have h_ := Kd.R_ne HO_537000.1 BK527.1 (by decide); intro e_; exact h_ (by rw [e_]; rfl)) _; refine zP ?_; exact BK527.1⟩
   have n3_ : Aside0 ((w43.setCell ⟨go37, 0, none⟩ (.int .i64 t553)).heap[gb536]? = some (.cells #[.slice (some ⟨go37, 0, none⟩) x537000_1.length co37, .int .i64 t534, .int .i64 t535] 49 (0, 0))) := ⟨by refine zP ?_; refine blk_far ?_ (by have h_ := Kd.R_ne HO_537000.1 BK536.1 (by decide); intro e_; exact h_ (by rw [e_]; rfl)) _; refine zP ?_; exact BK536.1⟩
   have n4_ : Aside0 (IsS90 w0 (w43.setCell ⟨go37, 0, none⟩ (.int .i64 t553)) g s0_0 t554 t555) := ⟨zB55⟩
   have n5_ : Aside0 (KeepBut w (w43.setCell ⟨go37, 0, none⟩ (.int .i64 t553)) g none) := ⟨zB37⟩
   have n6_ : Aside0 (Below w0.heap.size w0 (w43.setCell ⟨go37, 0, none⟩ (.int .i64 t553))) := ⟨zB57⟩
   (try clear HO_537000)
   (try clear HO552)
   (try clear BK527)
   (try clear BK536)
   (try clear HI0)
   (try clear HK)
   (try clear HB)
   generalize (w43.setCell ⟨go37, 0, none⟩ (.int .i64 t553)) = w45 at n0_ n1_ n2_ n3_ n4_ n5_ n6_ ⊢
   have HO_537000 := n0_
   have BK527 := n2_
   have BK536 := n3_
   have HI0 := n4_
   have HK := n5_
   have HB := n6_
   clear n0_ n1_ n2_ n3_ n4_ n5_ n6_
   have hcz48 := zc_3 (w := w45) BK536.1
   have hcz50 := zc_3 (w := w45) BK527.1
   try go_wp2
   refine bodyPost_ret (results_cell_row rfl _ _ gb527 49 #[.slice (some ⟨go37, 0, none⟩) x537000_1.length co37, .int .i64 t534, .int .i64 t535] (0, 0) _ rfl (by exact zp3 (zK BK527.1)) Try.underlying49 rfl (by kernel_rfl)) rfl ?_
   exact ⟨_, zE, QR_of (by refine zrR ?_; exact Kd.R_mono (Kd.R_far (p := ⟨gb527, 2, none⟩) (Kd.R_far (p := ⟨gb527, 1, none⟩) (Kd.R_far (p := ⟨gb527, 0, none⟩) (Kd.R_types HO_537000.1 BK527.1 (by decide)) (fun _ hk => hk.2) (.slice (some ⟨go37, 0, none⟩) x537000_1.length co37)) (fun _ hk => hk.2) (.int .i64 t534)) (fun _ hk => hk.2) (.int .i64 t535)) (fun _ hk => trivial)), zB49, zB36, zB37⟩

end Go.Proofs.Ytgbjengnkbomoaa.PFnKnows
