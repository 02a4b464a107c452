-- made by wip/tools/myprint.py out of the seat's translation
import Derived.Test.YtnjdepmlpdjghaaPFnAllEndsx0
import Derived.Test.YtnjdepmlpdjghaaPFnAllEndsx2
import Derived.Test.YtnjdepmlpdjghaaPFnAllEndsx12
import Derived.Test.YtnjdepmlpdjghaaPFnAllEndsx13
namespace Go.Proofs.Ytnjdepmlpdjghaa.PFnAllEnds
open Go.RowKit Go.Proofs.YtnjdepmlpdjghaaW.PrintWords Go.Proofs.YtnjdepmlpdjghaaW.PrintLast Go.Proofs.YtnjdepmlpdjghaaW.PrintMore
attribute [local go_sem] max2_int min2_int max_two min_two max_three min_three max_four min_four   -- for this text's walks alone
set_option linter.unusedVariables false
set_option linter.unusedSimpArgs false
set_option maxHeartbeats 8000000
set_option maxRecDepth 100000

/-! ### spec_l9DrawHart: function 85 -/
def spec_l9DrawHart.l0 : Nat → Int → List Int → Int → Int → List Int → Int → Int → Option (List Int × Int × Int × Int × Int)
 | 0, _, _, _, _, _, _, _ => none
 | k + 1, x4, x1000, x1001, x1002, x410000, x410001, x410002 => if x4 < 4 then ((spec_l1PickInt.f x1000 x1001 x1002 (([0, 1, 2, 20, 65535] : List Int))).bind fun bt413 => (if 0 ≤ x4 then (if x4 < (x410000.length : Int) then (spec_l9DrawHart.l0 k (wrap64 (x4 + 1)) x1000 bt413.2.1 bt413.2.2 (x410000.set (x4 : Int).toNat bt413.1) x410001 x410002) else (none)) else (none))) else ((spec_l1Below.f x1000 x1001 x1002 12).bind fun bt417 => (if bt417.1 = 0 then ((spec_l1Below.f x1000 bt417.2.1 bt417.2.2 5).bind fun bt420 => (some (x410000, x410001, wrap64 (bt420.1 - 1), bt420.2.1, bt420.2.2))) else (if bt417.1 = 1 then ((spec_l1PickInt.f x1000 bt417.2.1 bt417.2.2 (([(-1), 65536] : List Int))).bind fun bt426 => (if 0 < (x410000.length : Int) then (some ((x410000.set (0 : Int).toNat bt426.1), x410001, x410002, bt426.2.1, bt426.2.2)) else (none))) else (if bt417.1 = 2 then ((spec_l1PickInt.f x1000 bt417.2.1 bt417.2.2 (([(-1), 24] : List Int))).bind fun bt433 => (some (x410000, bt433.1, x410002, bt433.2.1, bt433.2.2))) else (if bt417.1 = 3 then (if 1 ≤ (x410000.length : Int) then (some ((x410000.drop (1 : Int).toNat), x410001, x410002, bt417.2.1, bt417.2.2)) else (none)) else (some (x410000, x410001, x410002, bt417.2.1, bt417.2.2)))))))
def spec_l9DrawHart.f (k : Nat) (s0_0 : List Int) (s0_1 : Int) (s0_2 : Int) : Option (List Int × Int × Int × Int × Int) := (spec_l1Below.f s0_0 s0_1 s0_2 20).bind fun bt401 => ((spec_HartNew.f bt401.1).bind fun bt404 => (spec_l9DrawHart.l0 k 0 s0_0 bt401.2.1 bt401.2.2 bt404.1 bt404.2.1 bt404.2.2))
theorem spec_l9DrawHart.mono_l : ∀ k, (∀ y0 y1 y2 y3 y4 y5 y6, LeO (spec_l9DrawHart.l0 k y0 y1 y2 y3 y4 y5 y6) (spec_l9DrawHart.l0 (k + 1) y0 y1 y2 y3 y4 y5 y6))
 | 0 => fun _ _ _ _ _ _ _ r h => by simp [spec_l9DrawHart.l0] at h
 | k + 1 => by
  have ih0 := spec_l9DrawHart.mono_l k
  ·intros
   unfold spec_l9DrawHart.l0
   exact zL
theorem spec_l9DrawHart.mono : ∀ a0 a1 a2 k, LeO (spec_l9DrawHart.f k a0 a1 a2) (spec_l9DrawHart.f (k + 1) a0 a1 a2) := by
 intro a0 a1 a2 k
 have ih0 := spec_l9DrawHart.mono_l k
 unfold spec_l9DrawHart.f
 exact zL
def spec_l9DrawHart.T5 : Bool × List (List Nat × List Nat) := (true, [([], []), ([0], [0]), ([], []), ([], []), ([], []), ([3, 4], [3, 4]), ([1, 2, 0, 1, 2, 3, 4, 5], [1, 2]), ([6, 5, 5, 0, 1, 2, 3, 4, 5], [5, 6])])
def spec_l9DrawHart.B5 : List Nat := [0, 1, 0, 0, 0, 24, 63, 127]
theorem spec_l9DrawHart.tab5 : rtab .any (opsOf Try.f85 5) = spec_l9DrawHart.T5 := by kernel_rfl
theorem spec_l9DrawHart.bits5 : waitsOk spec_l9DrawHart.T5.2 spec_l9DrawHart.B5 = true := by kernel_rfl
theorem spec_l9DrawHart.calls (k : Nat) (g : Nat) (s0_0 : List Int) (s0_1 : Int) (s0_2 : Int) (r1 : List Int) (r2 : Int) (r3 : Int) (r4 : Int) (r5 : Int) (w0 w : World) (hI : IsS102 w0 w g s0_0 s0_1 s0_2) (hB : Below w0.heap.size w0 w) (h : spec_l9DrawHart.f k s0_0 s0_1 s0_2 = some (r1, r2, r3, r4, r5)) :
  Calls Try.prog 85 #[.pointer (some ⟨g, 0, none⟩)] w fun e w' => ∃ v0_ : Value, e = .returned (.agg #[v0_, .int .i64 r2, .int .i64 r3]) ∧ Kd.Q (Kd.int .i64) 3 w' w.heap.size (fun _ => True) v0_ r1 ∧ IsS102 w0 w' g s0_0 r4 r5 ∧ Below w0.heap.size w0 w' ∧ KeepBut w w' g none := by
 have hu29 := Try.underlying29
 have HI0 := zM hI
 have HK := zM (KeepBut.refl w g none)
 have HL := zM hB.size
 clear hI
 have HW0 := zM hB.size
 have HB := zM hB
 clear hB
 unfold spec_l9DrawHart.f at h
 have H := h
 clear h
 replace H := zO H
 obtain ⟨⟨t401, t402, t403⟩, A2, H⟩ := H
 try dsimp only at H
 replace H := zO H
 obtain ⟨⟨t404, t407, t408⟩, A3, H⟩ := H
 try dsimp only at H
 have H' := zM H
 clear H
 go_enter Try.func85, Try.ntmps85
 go_wp2_with (first | ((with_reducible refine zBx 2 29 #[.slice none 0 0, .int .i64 0, .int .i64 0] ?_); intro gb400 hg w4 hbox hb; replace HB := zM (below_step zB45 hb); have BK400 := zM hbox; have GW400 := zM ((by rw [hg]; exact (keep_size (w := w) (g := g) (row := none) zB46) : w.heap.size ≤ gb400)); have GE400 := zM ((Nat.le_trans HW0.1 (by rw [hg]; exact (keep_size (w := w) (g := g) (row := none) zB46) : w.heap.size ≤ gb400) : w0.heap.size ≤ gb400)); replace HK := zM (KeepBut.trans zB46 (KeepBut.of_below hb g none) (.inl rfl)); have NB0_400 := zM ((by rw [hg]; exact Nat.ne_of_lt (IsS102.lt (show IsS102 w0 _ g s0_0 s0_1 s0_2 from zB44)) : g ≠ gb400)); have NB400_0 := zM ((by rw [hg]; exact Nat.ne_of_gt (IsS102.lt (show IsS102 w0 _ g s0_0 s0_1 s0_2 from zB44)) : gb400 ≠ g)); replace HI0 := zM (IsS102.below zB44 hb); clear hb hbox hg) | ((with_reducible refine zG Try.func67 6 #[.pointer (some ⟨g, 0, none⟩), .int .i64 20] ?_); (with_reducible refine (spec_l1Below.calls g s0_0 s0_1 s0_2 20 t401 t402 t403 w0 _ ?side1 ?side2 A2.1).mono ?_); (case side1 => exact zB48); (case side2 => exact zB45); rintro e w5 ⟨rfl, hi, hb, hk⟩; refine ⟨_, rfl, ?_⟩; replace BK400 := zM (zh hk BK400.1 NB400_0.1); replace HK := zM (KeepBut.trans zB46 hk (.inl rfl)); replace HB := zM hb; replace HI0 := zM hi; clear hb hk hi) | ((with_reducible refine zG Try.func112 7 #[.int .i64 t401] ?_); (with_reducible refine (spec_HartNew.calls t401 t404 t407 t408 _ A3.1).mono ?_); rintro e w6 ⟨v405, rfl, ho0, hb⟩; refine ⟨_, rfl, ?_⟩; have HO406 := zM (Kd.R_lower ho0 (keep_size (w := w) (g := g) (row := none) zB46)); replace BK400 := zM (zb BK400.1 hb); replace HK := zM (KeepBut.trans zB46 (KeepBut.of_below hb g none) (.inl rfl)); replace HB := zM (below_step zB45 hb); replace HI0 := zM (IsS102.below zB48 hb); clear hb ho0) | ((with_reducible refine zBx 3 29 #[.slice none 0 0, .int .i64 0, .int .i64 0] ?_); intro gb409 hg w7 hbox hb; replace HO406 := zM (Kd.R_below (zR HO406.1) hb); replace HB := zM (below_step zB45 hb); have BK409 := zM hbox; have GW409 := zM ((by rw [hg]; exact (keep_size (w := w) (g := g) (row := none) zB46) : w.heap.size ≤ gb409)); have GE409 := zM ((Nat.le_trans HW0.1 (by rw [hg]; exact (keep_size (w := w) (g := g) (row := none) zB46) : w.heap.size ≤ gb409) : w0.heap.size ≤ gb409)); replace HK := zM (KeepBut.trans zB46 (KeepBut.of_below hb g none) (.inl rfl)); have NB400_409 := zM ((zn BK400.1 hg : gb400 ≠ gb409)); have NB409_400 := zM ((zm BK400.1 hg : gb409 ≠ gb400)); replace BK400 := zM (zb BK400.1 hb); have NB0_409 := zM ((by rw [hg]; exact Nat.ne_of_lt (IsS102.lt (show IsS102 w0 _ g s0_0 t402 t403 from zB48)) : g ≠ gb409)); have NB409_0 := zM ((by rw [hg]; exact Nat.ne_of_gt (IsS102.lt (show IsS102 w0 _ g s0_0 t402 t403 from zB48)) : gb409 ≠ g)); replace HI0 := zM (IsS102.below zB48 hb); clear hb hbox hg; obtain ⟨Ao8, co8, eo8⟩ := Kd.R_slice HO406.1; subst eo8; have hnb9 := NB409_400.1; have hnc9 := NB400_409.1; have hnb10 := NB409_0.1; have hnc10 := NB0_409.1; have hcz11 := zc_3 (w := w7) BK409.1))
 go_loopg [4] k (fun kq v4 w' => ∃ (x4_1 : Int) (x1001_1 : Int) (x1002_1 : Int) (x410000_1 : List Int) (u410000 : Value), v4 = .int .i64 x4_1 ∧ Aside0 (spec_l9DrawHart.l0 kq x4_1 s0_0 x1001_1 x1002_1 x410000_1 t407 t408 = some (r1, r2, r3, r4, r5)) ∧ Aside0 (kq ≤ k) ∧ Aside0 (Kd.Q (Kd.int .i64) 3 w' w.heap.size (fun _ => True) u410000 x410000_1) ∧ Aside0 (w'.heap[gb400]? = some (.cells #[(.slice none 0 0), .int .i64 0, .int .i64 0] 29 (0, 0))) ∧ Aside0 (w'.heap[gb409]? = some (.cells #[u410000, .int .i64 t407, .int .i64 t408] 29 (0, 0))) ∧ Aside0 (IsS102 w0 w' g s0_0 x1001_1 x1002_1) ∧ Aside0 (KeepBut w w' g none) ∧ Aside0 (Below w0.heap.size w0 w'))
 case atStart => exact ⟨(0), (t402), (t403), (t404), (.slice Ao8 t404.length co8), zJJ, H', ⟨Nat.le_refl _⟩, ⟨Kd.Q_of_R (by refine zrR ?_; exact Kd.R_mono (zfR (zfR (zfR (Kd.R_types HO406.1 BK409.1 (by decide))))) (fun _ hk => trivial))⟩, ⟨zPq⟩, ⟨by exact zp3 (zK BK409.1)⟩, ⟨zB51⟩, ⟨zB46⟩, ⟨zB45⟩⟩
 case round =>
  clear H'
  obtain ⟨x4_1, x1001_1, x1002_1, x410000_1, u410000, rfl, HA, HK1, HO_410000, BK400, BK409, HI0, HK, HB⟩ := hrel
  cases gk with
  | zero => exact absurd HA.1 (by simp [spec_l9DrawHart.l0])
  | succ k1 =>
   have H := HA.1
   clear HA
   simp only [spec_l9DrawHart.l0] at H
   by_cases c12 : x4_1 < 4
   ·rw [if_pos c12] at H
    have c12b0 := decide_eq_true c12
    clear c12
    generalize hy410 : ((([0, 1, 2, 20, 65535] : List Int)) : List Int) = y410 at H
    have Ny410 := zM hy410.symm
    clear hy410
    replace H := zO H
    obtain ⟨⟨t413, t414, t415⟩, A13, H⟩ := H
    try dsimp only at H
    replace H := zIt H
    obtain ⟨c14b0, H⟩ := H
    replace H := zIt H
    obtain ⟨c15b0, H⟩ := H
    generalize hy416 : ((x410000_1.set (x4_1 : Int).toNat t413) : List Int) = y416 at H
    have Ny416 := zM hy416.symm
    clear hy416
    have H' := zM H
    clear H
    try go_wp2
    replace HO_410000 := zM (Kd.Q_drew HO_410000.1)
    replace BK400 := zM (blk_drew BK400.1)
    replace BK409 := zM (blk_drew BK409.1)
    replace HI0 := zM (IsS102.drew HI0.1)
    replace HK := zM (keep_drew HK.1)
    replace HB := zM (below_drew1 HB.1)
    refine start_ (n := 8) (S := fun w' => w'.cell? ⟨gb409, 0, none⟩ = some (u410000) ∧ w'.cell? ⟨gb409, 1, none⟩ = some (.int .i64 t407) ∧ w'.cell? ⟨gb409, 2, none⟩ = some (.int .i64 t408)) (ds := [7]) #[false, false, false, false, false, false, false, false] (by kernel_rfl) rfl rfl ⟨(blk_cell BK409.1 0).trans rfl, (blk_cell BK409.1 1).trans rfl, (blk_cell BK409.1 2).trans rfl⟩ (fun hHeld => ?_); refine with_tabW spec_l9DrawHart.tab5 spec_l9DrawHart.bits5 (fun HT_ HW_ => ?_)
    generalize wr.drew = w17 at HO_410000 BK400 BK409 HI0 HK HB hHeld ⊢
    refine zPu 0 ?_
    refine zPu 2 ?_
    refine zPu 3 ?_
    refine zTk3 1 hHeld ?_
    refine zOn 4 (some 16) fun K hK => ?_
    refine Kd.R_lit_step (Kd.int .i64) _ 3 ?hg (N := 16) ?hd (xs := ([0, 1, 2, 20, 65535] : List Int)) (inner := [.int .i64 0, .int .i64 1, .int .i64 2, .int .i64 20, .int .i64 65535]) (ok := fun _ => True) (okp := fun _ => True) ?hr ?hp (fun _ hk => hk) trivial (Below.refl _ _) (Nat.le_refl _) (by simp) ?_; (case hd => rfl); (case hg => rfl); (case hr => exact zHH); (case hp => exact (Reps.one (show Kd.M (Kd.int .i64) _ _ _ 0 [.int .i64 0] from rfl) (Reps.one (show Kd.M (Kd.int .i64) _ _ _ 1 [.int .i64 1] from rfl) (Reps.one (show Kd.M (Kd.int .i64) _ _ _ 2 [.int .i64 2] from rfl) (Reps.one (show Kd.M (Kd.int .i64) _ _ _ 20 [.int .i64 20] from rfl) (Reps.one (show Kd.M (Kd.int .i64) _ _ _ 65535 [.int .i64 65535] from rfl) (Reps.none _ _)))))))
    intro v411 w18 ho19 hb hg_ hnew_
    clear hg_ hnew_
    (first | rw [← Ny410.1] at ho19 | (simp only [Int.reduceToNat] at ho19; rw [← Ny410.1] at ho19))
    have n0_ := zM (Kd.Q_elder' (zQ HO_410000.1) (Kd.R_base ho19) hb)
    have n1_ := zM (Kd.R_lower (Kd.R_new' ho19 (Kd.Q_lt (zQ HO_410000.1))) (keep_size (w := w) (g := g) (row := none) zB46))
    have n2_ := zM (zb BK400.1 hb)
    have n3_ := zM (zb BK409.1 hb)
    have n4_ := zM (IsS102.below zB51 hb)
    have n5_ := zM (KeepBut.trans zB46 (KeepBut.of_below hb g none) (.inl rfl))
    have n6_ := zM (below_step zB45 hb)
    clear HO_410000 BK400 BK409 HI0 HK HB
    have HO_410000 := n0_
    have HO412 := n1_
    have BK400 := n2_
    have BK409 := n3_
    have HI0 := n4_
    have HK := n5_
    have HB := n6_
    clear n0_ n1_ n2_ n3_ n4_ n5_ n6_ hb ho19
    obtain ⟨Ao20, co20, eo20⟩ := Kd.R_slice HO412.1
    (first | subst eo20 | (injection eo20 with f1_ f2_ f3_; have f4_ := f1_.symm; have f5_ := f3_.symm; clear f1_ f2_ f3_; subst f4_; subst f5_))
    refine hK.out _ _ zCs fun hHeld => ?_
    clear hK K
    refine zNo ?_
    refine zOn 5 (some 17) fun K hK => ?_
    refine zGs Try.func66 #[.pointer (some ⟨g, 0, none⟩), .slice Ao20 y410.length co20] ?_
    with_reducible refine (spec_l1PickInt.calls g s0_0 x1001_1 x1002_1 _ _ y410 t413 t414 t415 w0 _ ?side1 ?side2 ?side3 ?side4 ?side5 A13.1).mono ?_
    (case side1 => exact zB51)
    (case side2 => exact zB45)
    (case side3 => exact zC (Kd.R_reads' HO412.1).2.2)
    (case side4 => exact (Kd.R_reads' HO412.1).2.1)
    (case side5 => exact far_slice (IsS102.own_ne HI0.1 HO412.1 (by decide)))
    rintro e w21 ⟨rfl, hi, hb, hk⟩
    refine ⟨_, rfl, ?_⟩
    replace HO_410000 := zM (Kd.Q_mono (Kd.Q_keep (IsS102.apartQ (show IsS102 w0 _ g s0_0 x1001_1 x1002_1 from zB51) (zQ HO_410000.1) (by decide)) hk (fun _ h => h.2)) (fun _ h => h.1))
    replace BK400 := zM (zh hk BK400.1 NB400_0.1)
    replace BK409 := zM (zh hk BK409.1 NB409_0.1)
    replace HO412 := zM (Kd.R_mono (Kd.R_keep (IsS102.apart (show IsS102 w0 _ g s0_0 x1001_1 x1002_1 from zB51) (zR HO412.1) (by decide)) hk (fun _ h => h.2)) (fun _ h => h.1))
    replace HK := zM (KeepBut.trans zB46 hk (.inl rfl))
    replace HB := zM hb
    replace HI0 := zM hi
    have p16 : 0 ≤ (x4_1 : Int) := zA
    have q16 : (x4_1 : Int) < ((x410000_1.length : Int) : Int) := zA
    obtain ⟨go16, oo16, co16, eo16, gb16, gl16, cl16, HG16⟩ := Kd.Q_form HO_410000.1 (by omega)
    (first | cases eo16 | (injection eo16 with ea_ en_ ec_; (first | subst ea_ | (injection ea_ with ea_; subst ea_)); subst ec_; clear en_))
    have GB16 := zM gb16
    have GG16 := zM HG16
    clear gb16 gl16 HG16
    obtain ⟨hx16_0, hf16_0⟩ := Kd.Q_cell 0 HO_410000.1 (x4_1 : Int) p16 q16
    replace p16 := eq_true p16
    replace q16 := eq_true q16
    have HN0_go16 := zM (show g ≠ go16 from by have h_ := IsS102.own_neQ HI0.1 HO_410000.1 (by decide); intro e_; exact h_ (by rw [e_]; rfl))
    have HP22 := (Kd.Q_putg HO_410000.1 (x4_1 : Int) zA (by have h_ : (x4_1 : Int) < ((x410000_1.length : Int) : Int) := zA; first | exact h_ | (have e_ := (Kd.Q_reads' HO_410000.1).1; omega) | simpa using h_) t413).1
    rw [← Ny416.1] at HP22
    have HQ22 := zM HP22
    clear HP22
    refine hK.out _ _ zCs fun hHeld => ?_
    clear hK K
    refine zNo ?_
    refine zPu 6 ?_
    refine last_ (i := 7) (N := none) #[true, true, true, true, true, true, true, true] rfl rfl (one_of HT_.1 (by kernel_rfl)) (by decide) (fun K hK => ?_)
    refine skip_ (w1 := ?_) (by rfl) rfl ?_ ?_
    rotate_left
    ·go_simp
     rfl
    refine hK.out _ _ ?_
    clear hK K
    refine done_ (done_of HT_.1 (by kernel_rfl)) ?_
    try go_wp2
    go_roundg k1
    case measure => have := HK1.1; omega
    case rel => exact ⟨(wrap64 (x4_1 + 1)), (t414), (t415), (y416), (.slice (some ⟨go16, oo16, none⟩) x410000_1.length co16), zJJ, H', ⟨by have := HK1.1; omega⟩, ⟨by refine zrQ ?_; exact Kd.Q_mono HQ22.out (fun _ hk => trivial)⟩, ⟨by refine zP ?_; refine blk_far ?_ (by have h_ := Kd.Q_ne HO_410000.1 BK400.1 (by decide); intro e_; exact h_ (by rw [e_]; rfl)) _; refine zP ?_; exact BK400.1⟩, ⟨by refine zP ?_; refine blk_far ?_ (by have h_ := Kd.Q_ne HO_410000.1 BK409.1 (by decide); intro e_; exact h_ (by rw [e_]; rfl)) _; refine zP ?_; exact BK409.1⟩, ⟨zB54⟩, ⟨zB46⟩, ⟨zB56⟩⟩
   rw [if_neg c12] at H
   have c12b0 := decide_eq_false c12
   clear c12
   replace H := zO H
   obtain ⟨⟨t417, t418, t419⟩, A23, H⟩ := H
   try dsimp only at H
   by_cases c24 : t417 = 0
   ·rw [if_pos c24] at H
    have c24b0 : (t417 == 0) = true := beq_iff_eq.mpr c24
    have c24b1 : (t417 != 0) = false := bne_eq_false_iff_eq.mpr c24
    clear c24
    replace H := zO H
    obtain ⟨⟨t420, t421, t422⟩, A25, H⟩ := H
    try dsimp only at H
    simp only [Option.some.injEq, Prod.mk.injEq] at H
    obtain ⟨rfl, rfl, rfl, rfl, rfl⟩ := H
    go_wp2_with (first | ((with_reducible refine zG Try.func67 20 #[.pointer (some ⟨g, 0, none⟩), .int .i64 12] ?_); (with_reducible refine (spec_l1Below.calls g s0_0 x1001_1 x1002_1 12 t417 t418 t419 w0 _ ?side1 ?side2 A23.1).mono ?_); (case side1 => exact zB51); (case side2 => exact zB45); rintro e w26 ⟨rfl, hi, hb, hk⟩; refine ⟨_, rfl, ?_⟩; replace HO_410000 := zM (Kd.Q_mono (Kd.Q_keep (IsS102.apartQ (show IsS102 w0 _ g s0_0 x1001_1 x1002_1 from zB51) (zQ HO_410000.1) (by decide)) hk (fun _ h => h.2)) (fun _ h => h.1)); replace BK400 := zM (zh hk BK400.1 NB400_0.1); replace BK409 := zM (zh hk BK409.1 NB409_0.1); replace HK := zM (KeepBut.trans zB46 hk (.inl rfl)); replace HB := zM hb; replace HI0 := zM hi; clear hb hk hi) | ((with_reducible refine zG Try.func67 24 #[.pointer (some ⟨g, 0, none⟩), .int .i64 5] ?_); (with_reducible refine (spec_l1Below.calls g s0_0 t418 t419 5 t420 t421 t422 w0 _ ?side1 ?side2 A25.1).mono ?_); (case side1 => exact zB51); (case side2 => exact zB45); rintro e w27 ⟨rfl, hi, hb, hk⟩; refine ⟨_, rfl, ?_⟩; replace HO_410000 := zM (Kd.Q_mono (Kd.Q_keep (IsS102.apartQ (show IsS102 w0 _ g s0_0 t418 t419 from zB51) (zQ HO_410000.1) (by decide)) hk (fun _ h => h.2)) (fun _ h => h.1)); replace BK400 := zM (zh hk BK400.1 NB400_0.1); replace BK409 := zM (zh hk BK409.1 NB409_0.1); replace HK := zM (KeepBut.trans zB46 hk (.inl rfl)); replace HB := zM hb; replace HI0 := zM hi; clear hb hk hi; have hnb28 := NB409_400.1; have hnc28 := NB400_409.1; have hnb29 := NB409_0.1; have hnc29 := NB0_409.1; have hcz30 := zc_3 (w := w27) BK409.1; obtain ⟨Ao31, co31, eo31, _⟩ := Kd.Q_slice HO_410000.1; subst eo31; have hnb32 := NB400_0.1; have hnc32 := NB0_400.1; have hcz33 := zc_3 (w := w27) BK400.1))
    refine bodyPost_ret (results_cell_row rfl _ _ gb400 29 #[.slice Ao31 x410000_1.length co31, .int .i64 t407, .int .i64 (wrap64 (t420 - 1))] (0, 0) _ rfl zPq Try.underlying29 rfl (by kernel_rfl)) rfl ?_
    exact ⟨_, zE, by refine zrQ ?_; exact Kd.Q_mono (zfQ (zfQ (zfQ (zgQ (Kd.Q_types (Kd.Q_types HO_410000.1 BK409.1 (by decide)) BK400.1 (by decide)))))) (fun _ hk => trivial), zB51, zB45, zB46⟩
   rw [if_neg c24] at H
   have c24b0 : (t417 == 0) = false := beq_eq_false_iff_ne.mpr c24
   have c24b1 : (t417 != 0) = true := bne_iff_ne.mpr c24
   by_cases c34 : t417 = 1
   rotate_left
   ·rw [if_neg c34] at H
    have c34b0 : (t417 == 1) = false := beq_eq_false_iff_ne.mpr c34
    have c34b1 : (t417 != 1) = true := bne_iff_ne.mpr c34
    by_cases c51 : t417 = 2
    ·rw [if_pos c51] at H
     have c51b0 : (t417 == 2) = true := beq_iff_eq.mpr c51
     have c51b1 : (t417 != 2) = false := bne_eq_false_iff_eq.mpr c51
     clear c51
     generalize hy430 : ((([(-1), 24] : List Int)) : List Int) = y430 at H
     have Ny430 := zM hy430.symm
     clear hy430
     replace H := zO H
     obtain ⟨⟨t433, t434, t435⟩, A52, H⟩ := H
     try dsimp only at H
     simp only [Option.some.injEq, Prod.mk.injEq] at H
     obtain ⟨rfl, rfl, rfl, rfl, rfl⟩ := H
     go_wp2_with (first | ((with_reducible refine zG Try.func67 20 #[.pointer (some ⟨g, 0, none⟩), .int .i64 12] ?_); (with_reducible refine (spec_l1Below.calls g s0_0 x1001_1 x1002_1 12 t417 t418 t419 w0 _ ?side1 ?side2 A23.1).mono ?_); (case side1 => exact zB51); (case side2 => exact zB45); rintro e w53 ⟨rfl, hi, hb, hk⟩; refine ⟨_, rfl, ?_⟩; replace HO_410000 := zM (Kd.Q_mono (Kd.Q_keep (IsS102.apartQ (show IsS102 w0 _ g s0_0 x1001_1 x1002_1 from zB51) (zQ HO_410000.1) (by decide)) hk (fun _ h => h.2)) (fun _ h => h.1)); replace BK400 := zM (zh hk BK400.1 NB400_0.1); replace BK409 := zM (zh hk BK409.1 NB409_0.1); replace HK := zM (KeepBut.trans zB46 hk (.inl rfl)); replace HB := zM hb; replace HI0 := zM hi; clear hb hk hi) | ((with_reducible refine gate_dst (N := 38) rfl ?_); refine Kd.R_lit (Kd.int .i64) _ 3 ?hg (N := 38) ?hd (xs := ([(-1), 24] : List Int)) (inner := [.int .i64 (-1), .int .i64 24]) (ok := fun _ => True) (okp := fun _ => True) ?hr ?hp (fun _ hk => hk) trivial (Below.refl _ _) (Nat.le_refl _) (by simp) ?_; (case hd => rfl); (case hg => rfl); (case hr => exact zHH); (case hp => exact (Reps.one (show Kd.M (Kd.int .i64) _ _ _ (-1) [.int .i64 (-1)] from rfl) (Reps.one (show Kd.M (Kd.int .i64) _ _ _ 24 [.int .i64 24] from rfl) (Reps.none _ _)))); intro v431 w54 ho55 hb hg_ hnew_; clear hg_ hnew_; (first | rw [← Ny430.1] at ho55 | (simp only [Int.reduceToNat] at ho55; rw [← Ny430.1] at ho55)); have HO432 := zM (Kd.R_lower (Kd.R_new' ho55 (Kd.Q_lt (zQ HO_410000.1))) (keep_size (w := w) (g := g) (row := none) zB46)); replace HO_410000 := zM (Kd.Q_elder' (zQ HO_410000.1) (Kd.R_base ho55) hb); replace BK400 := zM (zb BK400.1 hb); replace BK409 := zM (zb BK409.1 hb); replace HK := zM (KeepBut.trans zB46 (KeepBut.of_below hb g none) (.inl rfl)); replace HB := zM (below_step zB45 hb); replace HI0 := zM (IsS102.below zB51 hb); clear hb ho55; obtain ⟨Ao56, co56, eo56⟩ := Kd.R_slice HO432.1; subst eo56) | ((with_reducible refine zG Try.func66 39 #[.pointer (some ⟨g, 0, none⟩), .slice Ao56 y430.length co56] ?_); (with_reducible refine (spec_l1PickInt.calls g s0_0 t418 t419 _ _ y430 t433 t434 t435 w0 _ ?side1 ?side2 ?side3 ?side4 ?side5 A52.1).mono ?_); (case side1 => exact zB51); (case side2 => exact zB45); (case side3 => exact zC (Kd.R_reads' HO432.1).2.2); (case side4 => exact (Kd.R_reads' HO432.1).2.1); (case side5 => exact far_slice (IsS102.own_ne HI0.1 HO432.1 (by decide))); rintro e w57 ⟨rfl, hi, hb, hk⟩; refine ⟨_, rfl, ?_⟩; replace HO_410000 := zM (Kd.Q_mono (Kd.Q_keep (IsS102.apartQ (show IsS102 w0 _ g s0_0 t418 t419 from zB51) (zQ HO_410000.1) (by decide)) hk (fun _ h => h.2)) (fun _ h => h.1)); replace BK400 := zM (zh hk BK400.1 NB400_0.1); replace BK409 := zM (zh hk BK409.1 NB409_0.1); replace HO432 := zM (Kd.R_mono (Kd.R_keep (IsS102.apart (show IsS102 w0 _ g s0_0 t418 t419 from zB51) (zR HO432.1) (by decide)) hk (fun _ h => h.2)) (fun _ h => h.1)); replace HK := zM (KeepBut.trans zB46 hk (.inl rfl)); replace HB := zM hb; replace HI0 := zM hi; clear hb hk hi; have hnb58 := NB409_400.1; have hnc58 := NB400_409.1; have hnb59 := NB409_0.1; have hnc59 := NB0_409.1; have hcz60 := zc_3 (w := w57) BK409.1; obtain ⟨Ao61, co61, eo61, _⟩ := Kd.Q_slice HO_410000.1; subst eo61; have hnb62 := NB400_0.1; have hnc62 := NB0_400.1; have hcz63 := zc_3 (w := w57) BK400.1))
     refine bodyPost_ret (results_cell_row rfl _ _ gb400 29 #[.slice Ao61 x410000_1.length co61, .int .i64 t433, .int .i64 t408] (0, 0) _ rfl zPq Try.underlying29 rfl (by kernel_rfl)) rfl ?_
     exact ⟨_, zE, by refine zrQ ?_; exact Kd.Q_mono (zfQ (zfQ (zfQ (zgQ (Kd.Q_types (Kd.Q_types HO_410000.1 BK409.1 (by decide)) BK400.1 (by decide)))))) (fun _ hk => trivial), zB51, zB45, zB46⟩
    rw [if_neg c51] at H
    have c51b0 : (t417 == 2) = false := beq_eq_false_iff_ne.mpr c51
    have c51b1 : (t417 != 2) = true := bne_iff_ne.mpr c51
    by_cases c64 : t417 = 3
    rotate_left
    ·rw [if_neg c64] at H
     have c64b0 : (t417 == 3) = false := beq_eq_false_iff_ne.mpr c64
     have c64b1 : (t417 != 3) = true := bne_iff_ne.mpr c64
     simp only [Option.some.injEq, Prod.mk.injEq] at H
     obtain ⟨rfl, rfl, rfl, rfl, rfl⟩ := H
     go_wp2_with (first | ((with_reducible refine zG Try.func67 20 #[.pointer (some ⟨g, 0, none⟩), .int .i64 12] ?_); (with_reducible refine (spec_l1Below.calls g s0_0 x1001_1 x1002_1 12 t417 t418 t419 w0 _ ?side1 ?side2 A23.1).mono ?_); (case side1 => exact zB51); (case side2 => exact zB45); rintro e w74 ⟨rfl, hi, hb, hk⟩; refine ⟨_, rfl, ?_⟩; replace HO_410000 := zM (Kd.Q_mono (Kd.Q_keep (IsS102.apartQ (show IsS102 w0 _ g s0_0 x1001_1 x1002_1 from zB51) (zQ HO_410000.1) (by decide)) hk (fun _ h => h.2)) (fun _ h => h.1)); replace BK400 := zM (zh hk BK400.1 NB400_0.1); replace BK409 := zM (zh hk BK409.1 NB409_0.1); replace HK := zM (KeepBut.trans zB46 hk (.inl rfl)); replace HB := zM hb; replace HI0 := zM hi; clear hb hk hi; have hnb75 := NB409_400.1; have hnc75 := NB400_409.1; have hnb76 := NB409_0.1; have hnc76 := NB0_409.1; have hcz77 := zc_3 (w := w74) BK409.1; obtain ⟨Ao78, co78, eo78, _⟩ := Kd.Q_slice HO_410000.1; subst eo78; have hnb79 := NB400_0.1; have hnc79 := NB0_400.1; have hcz80 := zc_3 (w := w74) BK400.1))
     refine bodyPost_ret (results_cell_row rfl _ _ gb400 29 #[.slice Ao78 x410000_1.length co78, .int .i64 t407, .int .i64 t408] (0, 0) _ rfl (by exact zp3 (zK BK400.1)) Try.underlying29 rfl (by kernel_rfl)) rfl ?_
     exact ⟨_, zE, by refine zrQ ?_; exact Kd.Q_mono (zfQ (zfQ (zfQ (Kd.Q_types HO_410000.1 BK400.1 (by decide))))) (fun _ hk => trivial), zB51, zB45, zB46⟩
    rw [if_pos c64] at H
    have c64b0 : (t417 == 3) = true := beq_iff_eq.mpr c64
    have c64b1 : (t417 != 3) = false := bne_eq_false_iff_eq.mpr c64
    clear c64
    replace H := zIp H
    obtain ⟨c65, H⟩ := H
    have c65b0 := eq_true c65
    have c65b1 : decide (1 ≤ (x410000_1.length : Int)) = true := decide_eq_true c65
    clear c65
    generalize hy436 : ((x410000_1.drop (1 : Int).toNat) : List Int) = y436 at H
    have Ny436 := zM hy436.symm
    clear hy436
    simp only [Option.some.injEq, Prod.mk.injEq] at H
    obtain ⟨rfl, rfl, rfl, rfl, rfl⟩ := H
    go_wp2_with (first | ((with_reducible refine zG Try.func67 20 #[.pointer (some ⟨g, 0, none⟩), .int .i64 12] ?_); (with_reducible refine (spec_l1Below.calls g s0_0 x1001_1 x1002_1 12 t417 t418 t419 w0 _ ?side1 ?side2 A23.1).mono ?_); (case side1 => exact zB51); (case side2 => exact zB45); rintro e w66 ⟨rfl, hi, hb, hk⟩; refine ⟨_, rfl, ?_⟩; replace HO_410000 := zM (Kd.Q_mono (Kd.Q_keep (IsS102.apartQ (show IsS102 w0 _ g s0_0 x1001_1 x1002_1 from zB51) (zQ HO_410000.1) (by decide)) hk (fun _ h => h.2)) (fun _ h => h.1)); replace BK400 := zM (zh hk BK400.1 NB400_0.1); replace BK409 := zM (zh hk BK409.1 NB409_0.1); replace HK := zM (KeepBut.trans zB46 hk (.inl rfl)); replace HB := zM hb; replace HI0 := zM hi; clear hb hk hi; have hnb67 := NB409_400.1; have hnc67 := NB400_409.1; have hnb68 := NB409_0.1; have hnc68 := NB0_409.1; have hcz69 := zc_3 (w := w66) BK409.1; obtain ⟨Ao70, co70, eo70, _⟩ := Kd.Q_slice HO_410000.1; subst eo70; have q71 : (1 : Int) ≤ ((x410000_1.length : Int) : Int) := zA; obtain ⟨i071, hi071, _, hsz71, _⟩ := info_parts info3; have hcut71 := cut_from (P := Try.prog) 24 3 .i64 Try.underlying24 hi071 1 hsz71 Ao70 x410000_1.length co70 1 (by omega) q71; have hr71 := Kd.Q_drop (k := (1 : Int).toNat) HO_410000.1 (by omega); obtain ⟨A71, hA71⟩ : ∃ A1, A1 = (if co70 = (1 : Int).toNat then Ao70 else (Ao70 : Option Addr).map (·.add ((1 : Int).toNat * 1))) := ⟨_, rfl⟩; obtain ⟨c71, hc71⟩ : ∃ c1, c1 = co70 - (1 : Int).toNat := ⟨_, rfl⟩; have hy71 : y436.length = x410000_1.length - (1 : Int).toNat := (by rw [Ny436.1, List.length_drop]); rw [← Ny436.1] at hr71; rw [← hy71, ← hA71, ← hc71] at hcut71; replace hr71 : Kd.Q (Kd.int .i64) 3 w66 w.heap.size (fun _ => True) (.slice A71 y436.length c71) y436 := (by rw [hA71, hc71, hy71]; exact hr71); have HE71 : Aside0 ((Value.slice A71 y436.length c71).ownBlock = (.slice Ao70 x410000_1.length co70 : Value).ownBlock) := ⟨by rw [hA71]; split <;> (cases (Ao70 : Option Addr) <;> rfl)⟩; clear hy71 hi071 hsz71 HO_410000 hA71 hc71; have HO438 := zM hr71; clear hr71; replace q71 := eq_true q71; have hnb72 := NB400_0.1; have hnc72 := NB0_400.1; have hcz73 := zc_3 (w := w66) BK400.1))
    refine bodyPost_ret (results_cell_row rfl _ _ gb400 29 #[.slice A71 y436.length c71, .int .i64 t407, .int .i64 t408] (0, 0) _ rfl zPq Try.underlying29 rfl (by kernel_rfl)) rfl ?_
    exact ⟨_, zE, by refine zrQ ?_; exact Kd.Q_mono (zfQ (zfQ (zfQ (zgQ (Kd.Q_types (Kd.Q_types HO438.1 BK409.1 (by decide)) BK400.1 (by decide)))))) (fun _ hk => trivial), zB51, zB45, zB46⟩
   rw [if_pos c34] at H
   have c34b0 : (t417 == 1) = true := beq_iff_eq.mpr c34
   have c34b1 : (t417 != 1) = false := bne_eq_false_iff_eq.mpr c34
   clear c34
   generalize hy423 : ((([(-1), 65536] : List Int)) : List Int) = y423 at H
   have Ny423 := zM hy423.symm
   clear hy423
   replace H := zO H
   obtain ⟨⟨t426, t427, t428⟩, A35, H⟩ := H
   try dsimp only at H
   replace H := zIp H
   obtain ⟨c36, H⟩ := H
   have c36b0 := decide_eq_true c36
   have c36b1 : decide (0 < x410000_1.length) = true := decide_eq_true (by omega)
   clear c36
   generalize hy429 : ((x410000_1.set (0 : Int).toNat t426) : List Int) = y429 at H
   have Ny429 := zM hy429.symm
   clear hy429
   simp only [Option.some.injEq, Prod.mk.injEq] at H
   obtain ⟨rfl, rfl, rfl, rfl, rfl⟩ := H
   try go_wp2_with (first | ((with_reducible refine zG Try.func67 20 #[.pointer (some ⟨g, 0, none⟩), .int .i64 12] ?_); (with_reducible refine (spec_l1Below.calls g s0_0 x1001_1 x1002_1 12 t417 t418 t419 w0 _ ?side1 ?side2 A23.1).mono ?_); (case side1 => exact zB51); (case side2 => exact zB45); rintro e w38 ⟨rfl, hi, hb, hk⟩; refine ⟨_, rfl, ?_⟩; replace HO_410000 := zM (Kd.Q_mono (Kd.Q_keep (IsS102.apartQ (show IsS102 w0 _ g s0_0 x1001_1 x1002_1 from zB51) (zQ HO_410000.1) (by decide)) hk (fun _ h => h.2)) (fun _ h => h.1)); replace BK400 := zM (zh hk BK400.1 NB400_0.1); replace BK409 := zM (zh hk BK409.1 NB409_0.1); replace HK := zM (KeepBut.trans zB46 hk (.inl rfl)); replace HB := zM hb; replace HI0 := zM hi; clear hb hk hi))
   replace HO_410000 := zM (Kd.Q_drew HO_410000.1)
   replace BK400 := zM (blk_drew BK400.1)
   replace BK409 := zM (blk_drew BK409.1)
   replace HI0 := zM (IsS102.drew HI0.1)
   replace HK := zM (keep_drew HK.1)
   replace HB := zM (below_drew1 HB.1)
   refine start_ (n := 7) (S := fun w' => w'.cell? ⟨gb409, 0, none⟩ = some (u410000) ∧ w'.cell? ⟨gb409, 1, none⟩ = some (.int .i64 t407) ∧ w'.cell? ⟨gb409, 2, none⟩ = some (.int .i64 t408)) (ds := [6]) #[false, false, false, false, false, false, false] (by kernel_rfl) rfl rfl ⟨(blk_cell BK409.1 0).trans rfl, (blk_cell BK409.1 1).trans rfl, (blk_cell BK409.1 2).trans rfl⟩ (fun hHeld => ?_)
   generalize w38.drew = w39 at HO_410000 BK400 BK409 HI0 HK HB hHeld ⊢
   refine zPu 0 ?_
   refine zPu 2 ?_
   refine zTk3 1 hHeld ?_
   refine zOn 3 (some 32) fun K hK => ?_
   refine Kd.R_lit_step (Kd.int .i64) _ 3 ?hg (N := 32) ?hd (xs := ([(-1), 65536] : List Int)) (inner := [.int .i64 (-1), .int .i64 65536]) (ok := fun _ => True) (okp := fun _ => True) ?hr ?hp (fun _ hk => hk) trivial (Below.refl _ _) (Nat.le_refl _) (by simp) ?_; (case hd => rfl); (case hg => rfl); (case hr => exact zHH); (case hp => exact (Reps.one (show Kd.M (Kd.int .i64) _ _ _ (-1) [.int .i64 (-1)] from rfl) (Reps.one (show Kd.M (Kd.int .i64) _ _ _ 65536 [.int .i64 65536] from rfl) (Reps.none _ _))))
   intro v424 w40 ho41 hb hg_ hnew_
   clear hg_ hnew_
   (first | rw [← Ny423.1] at ho41 | (simp only [Int.reduceToNat] at ho41; rw [← Ny423.1] at ho41))
   have n0_ := zM (Kd.Q_elder' (zQ HO_410000.1) (Kd.R_base ho41) hb)
   have n1_ := zM (Kd.R_lower (Kd.R_new' ho41 (Kd.Q_lt (zQ HO_410000.1))) (keep_size (w := w) (g := g) (row := none) zB46))
   have n2_ := zM (zb BK400.1 hb)
   have n3_ := zM (zb BK409.1 hb)
   have n4_ := zM (IsS102.below zB51 hb)
   have n5_ := zM (KeepBut.trans zB46 (KeepBut.of_below hb g none) (.inl rfl))
   have n6_ := zM (below_step zB45 hb)
   clear HO_410000 BK400 BK409 HI0 HK HB
   have HO_410000 := n0_
   have HO425 := n1_
   have BK400 := n2_
   have BK409 := n3_
   have HI0 := n4_
   have HK := n5_
   have HB := n6_
   clear n0_ n1_ n2_ n3_ n4_ n5_ n6_ hb ho41
   obtain ⟨Ao42, co42, eo42⟩ := Kd.R_slice HO425.1
   (first | subst eo42 | (injection eo42 with f1_ f2_ f3_; have f4_ := f1_.symm; have f5_ := f3_.symm; clear f1_ f2_ f3_; subst f4_; subst f5_))
   refine hK.out _ _ zCs fun hHeld => ?_
   clear hK K
   refine zNo ?_
   refine zOn 4 (some 33) fun K hK => ?_
   refine zGs Try.func66 #[.pointer (some ⟨g, 0, none⟩), .slice Ao42 y423.length co42] ?_
   with_reducible refine (spec_l1PickInt.calls g s0_0 t418 t419 _ _ y423 t426 t427 t428 w0 _ ?side1 ?side2 ?side3 ?side4 ?side5 A35.1).mono ?_
   (case side1 => exact zB51)
   (case side2 => exact zB45)
   (case side3 => exact zC (Kd.R_reads' HO425.1).2.2)
   (case side4 => exact (Kd.R_reads' HO425.1).2.1)
   (case side5 => exact far_slice (IsS102.own_ne HI0.1 HO425.1 (by decide)))
   rintro e w43 ⟨rfl, hi, hb, hk⟩
   refine ⟨_, rfl, ?_⟩
   replace HO_410000 := zM (Kd.Q_mono (Kd.Q_keep (IsS102.apartQ (show IsS102 w0 _ g s0_0 t418 t419 from zB51) (zQ HO_410000.1) (by decide)) hk (fun _ h => h.2)) (fun _ h => h.1))
   replace BK400 := zM (zh hk BK400.1 NB400_0.1)
   replace BK409 := zM (zh hk BK409.1 NB409_0.1)
   replace HO425 := zM (Kd.R_mono (Kd.R_keep (IsS102.apart (show IsS102 w0 _ g s0_0 t418 t419 from zB51) (zR HO425.1) (by decide)) hk (fun _ h => h.2)) (fun _ h => h.1))
   replace HK := zM (KeepBut.trans zB46 hk (.inl rfl))
   replace HB := zM hb
   replace HI0 := zM hi
   have p37 : 0 ≤ (0 : Int) := (by omega)
   have q37 : (0 : Int) < ((x410000_1.length : Int) : Int) := zA
   have qi37 : (0 < x410000_1.length) = True := eq_true (by omega)
   obtain ⟨go37, oo37, co37, eo37, gb37, gl37, cl37, HG37⟩ := Kd.Q_form HO_410000.1 (by omega)
   (first | cases eo37 | (injection eo37 with ea_ en_ ec_; (first | subst ea_ | (injection ea_ with ea_; subst ea_)); subst ec_; clear en_))
   have GB37 := zM gb37
   have GG37 := zM HG37
   clear gb37 gl37 HG37
   obtain ⟨hx37_0, hf37_0⟩ := Kd.Q_cell 0 HO_410000.1 (0 : Int) p37 q37
   rw [show ((0 : Int)).toNat = 0 from rfl, Nat.add_zero] at hx37_0 hf37_0
   (try rw [show ((0 : Int)).toNat = 0 from rfl] at hx37_0)
   (try simp only [Nat.reduceMul, Nat.zero_mul, Nat.zero_add, Nat.reduceAdd] at hx37_0)
   (try rw [show ((0 : Int)).toNat = 0 from rfl] at hf37_0)
   (try simp only [Nat.reduceMul, Nat.zero_mul, Nat.zero_add, Nat.reduceAdd] at hf37_0)
   replace p37 := eq_true p37
   replace q37 := eq_true q37
   have HN0_go37 := zM (show g ≠ go37 from by have h_ := IsS102.own_neQ HI0.1 HO_410000.1 (by decide); intro e_; exact h_ (by rw [e_]; rfl))
   have HP44 := (Kd.Q_putg HO_410000.1 (0 : Int) (by omega) (by have h_ : (0 : Int) < ((x410000_1.length : Int) : Int) := zA; first | exact h_ | (have e_ := (Kd.Q_reads' HO_410000.1).1; omega) | simpa using h_) t426).1
   rw [← Ny429.1] at HP44
   have HQ44 := zM HP44
   clear HP44
   refine hK.out _ _ zCs fun hHeld => ?_
   clear hK K
   refine zNo ?_
   refine zPu 5 ?_
   refine last_ (i := 6) (N := none) #[true, true, true, true, true, true, true] rfl rfl (by kernel_rfl) (by decide) (fun K hK => ?_)
   refine skip_ (w1 := ?_) (by rfl) rfl ?_ ?_
   rotate_left
   ·go_simp
    rfl
   refine hK.out _ _ ?_
   clear hK K
   refine done_ (by kernel_rfl) ?_
   generalize hw_ : (w43.setCell ⟨go37, oo37, none⟩ (.int .i64 t426)) = w45
   have n0_ : Aside0 (Kd.Q (Kd.int .i64) 3 w45 w.heap.size (fun k_ => some k_ ≠ (.slice Ao42 y423.length co42 : Value).ownBlock) (.slice (some ⟨go37, oo37, none⟩) x410000_1.length co37) y429) := ⟨by rw [← hw_]; refine zrQ ?_; exact Kd.Q_mono HQ44.out (fun _ hk => hk.2)⟩
   have n1_ : Aside0 (Kd.R (Kd.int .i64) 3 w45 w.heap.size (fun k_ => some k_ ≠ (.slice (some ⟨go37, oo37, none⟩) x410000_1.length co37 : Value).ownBlock) (.slice Ao42 y423.length co42) y423) := ⟨by rw [← hw_]; refine zrR ?_; exact Kd.R_mono (Kd.R_far (p := ⟨go37, oo37, none⟩) (Kd.R_mono HO425.1 (fun k_ hk => (⟨hk, fun e_ => hk.2 (by rw [e_]; rfl)⟩ : _ ∧ k_ ≠ go37))) (fun _ hk => hk.2) (.int .i64 t426)) (fun _ hk => hk.1.2)⟩
   have n2_ : Aside0 (w45.heap[gb400]? = some (.cells #[.slice none 0 0, .int .i64 0, .int .i64 0] 29 (0, 0))) := ⟨by rw [← hw_]; refine zP ?_; refine blk_far ?_ (by have h_ := Kd.Q_ne HO_410000.1 BK400.1 (by decide); intro e_; exact h_ (by rw [e_]; rfl)) _; refine zP ?_; exact BK400.1⟩
   have n3_ : Aside0 (w45.heap[gb409]? = some (.cells #[.slice (some ⟨go37, oo37, none⟩) x410000_1.length co37, .int .i64 t407, .int .i64 t408] 29 (0, 0))) := ⟨by rw [← hw_]; refine zP ?_; refine blk_far ?_ (by have h_ := Kd.Q_ne HO_410000.1 BK409.1 (by decide); intro e_; exact h_ (by rw [e_]; rfl)) _; refine zP ?_; exact BK409.1⟩
   have n4_ : Aside0 (IsS102 w0 w45 g s0_0 t427 t428) := ⟨by rw [← hw_]; exact zB57⟩
   have n5_ : Aside0 (KeepBut w w45 g none) := ⟨by rw [← hw_]; exact zB46⟩
   have n6_ : Aside0 (Below w0.heap.size w0 w45) := ⟨by rw [← hw_]; exact zB59⟩
   (try clear HO_410000)
   (try clear HO425)
   (try clear BK400)
   (try clear BK409)
   (try clear HI0)
   (try clear HK)
   (try clear HB)
   clear hw_
   have HO_410000 := n0_
   have HO425 := n1_
   have BK400 := n2_
   have BK409 := n3_
   have HI0 := n4_
   have HK := n5_
   have HB := n6_
   clear n0_ n1_ n2_ n3_ n4_ n5_ n6_
   have hnb46 := NB409_400.1
   have hnc46 := NB400_409.1
   have hnb47 := NB409_0.1
   have hnc47 := NB0_409.1
   have hcz48 := zc_3 (w := w45) BK409.1
   have hnb49 := NB400_0.1
   have hnc49 := NB0_400.1
   have hcz50 := zc_3 (w := w45) BK400.1
   try go_wp2
   refine bodyPost_ret (results_cell_row rfl _ _ gb400 29 #[.slice (some ⟨go37, oo37, none⟩) x410000_1.length co37, .int .i64 t407, .int .i64 t408] (0, 0) _ rfl (by exact zp3 (zK BK400.1)) Try.underlying29 rfl (by kernel_rfl)) rfl ?_
   exact ⟨_, zE, by refine zrQ ?_; exact Kd.Q_mono (zfQ (zfQ (zfQ (Kd.Q_types HO_410000.1 BK400.1 (by decide))))) (fun _ hk => trivial), zB51, zB45, zB46⟩

/-! ### spec_Code: function 128 -/
def spec_Code.f (a0_0 : Int) (a0_1 : Int) (a0_2 : Int) (a0_3 : Int) (a0_4 : Int) : Option (Int × Bool) := (spec_InsOk.f a0_0 a0_1 a0_2 a0_3 a0_4).bind fun t440 => (if t440 = true then (some (wrap64 ((wrap64 ((wrap64 ((wrap64 (a0_0 + (wrap64 (16 * a0_1)))) + (wrap64 (64 * a0_2)))) + (wrap64 (256 * a0_3)))) + (wrap64 (1024 * a0_4))), true)) else (some (0, false)))
theorem spec_Code.calls (a0_0 : Int) (a0_1 : Int) (a0_2 : Int) (a0_3 : Int) (a0_4 : Int) (r1 : Int) (r2 : Bool) (w : World) (h : spec_Code.f a0_0 a0_1 a0_2 a0_3 a0_4 = some (r1, r2)) :
  Calls Try.prog 128 #[.agg #[.int .i64 a0_0, .int .i64 a0_1, .int .i64 a0_2, .int .i64 a0_3, .int .i64 a0_4]] w fun e w' => e = .returned (.tuple #[.int .i64 r1, .bool r2]) ∧ Below w.heap.size w w' := by
 have hu59 := Try.underlying59
 have HB := zM (Below.refl w.heap.size w)
 unfold spec_Code.f at h
 have H := h
 clear h
 replace H := zO H
 obtain ⟨t440, A2, H⟩ := H
 by_cases c3 : t440 = true
 rotate_left
 ·replace c3 := Bool.eq_false_iff.mpr c3
  subst c3
  rw [if_neg zF] at H
  simp only [Option.some.injEq, Prod.mk.injEq] at H
  obtain ⟨rfl, rfl⟩ := H
  go_enter Try.func128, Try.ntmps128
  go_wp2_with (first | ((with_reducible refine zBx 1 59 #[.int .i64 a0_0, .int .i64 a0_1, .int .i64 a0_2, .int .i64 a0_3, .int .i64 a0_4] ?_); intro gb439 hg w8 hbox hb; have BK439 := zM hbox; have GW439 := zM (zW hg (below_size zB0)); have GE439 := zM (zW hg (below_size zB0)); replace HB := zM (below_step zB0 hb); clear hb hbox hg; have hcz9 := zc_5 (w := w8) BK439.1) | ((with_reducible refine zG Try.func124 5 #[.agg #[.int .i64 a0_0, .int .i64 a0_1, .int .i64 a0_2, .int .i64 a0_3, .int .i64 a0_4]] ?_); (with_reducible refine (spec_InsOk.calls a0_0 a0_1 a0_2 a0_3 a0_4 false _ A2.1).mono ?_); rintro e w10 ⟨rfl, hb⟩; refine ⟨_, rfl, ?_⟩; replace BK439 := zM (zb BK439.1 hb); replace HB := zM (below_step zB0 hb); clear hb))
  go_ret2
  exact ⟨zE, zB0⟩
 subst c3
 rw [if_pos rfl] at H
 simp only [Option.some.injEq, Prod.mk.injEq] at H
 obtain ⟨rfl, rfl⟩ := H
 go_enter Try.func128, Try.ntmps128
 go_wp2_with (first | ((with_reducible refine zBx 1 59 #[.int .i64 a0_0, .int .i64 a0_1, .int .i64 a0_2, .int .i64 a0_3, .int .i64 a0_4] ?_); intro gb439 hg w4 hbox hb; have BK439 := zM hbox; have GW439 := zM (zW hg (below_size zB0)); have GE439 := zM (zW hg (below_size zB0)); replace HB := zM (below_step zB0 hb); clear hb hbox hg; have hcz5 := zc_5 (w := w4) BK439.1) | ((with_reducible refine zG Try.func124 5 #[.agg #[.int .i64 a0_0, .int .i64 a0_1, .int .i64 a0_2, .int .i64 a0_3, .int .i64 a0_4]] ?_); (with_reducible refine (spec_InsOk.calls a0_0 a0_1 a0_2 a0_3 a0_4 true _ A2.1).mono ?_); rintro e w6 ⟨rfl, hb⟩; refine ⟨_, rfl, ?_⟩; replace BK439 := zM (zb BK439.1 hb); replace HB := zM (below_step zB0 hb); clear hb; have hcz7 := zc_5 (w := w6) BK439.1))
 go_ret2
 exact ⟨zE, zB0⟩

end Go.Proofs.Ytnjdepmlpdjghaa.PFnAllEnds
