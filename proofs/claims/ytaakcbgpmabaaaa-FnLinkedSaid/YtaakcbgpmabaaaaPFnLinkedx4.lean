-- made by wip/tools/myprint.py out of the seat's translation
import Derived.Test.YtaakcbgpmabaaaaPFnLinkedx0
import Derived.Test.YtaakcbgpmabaaaaPFnLinkedx2
import Derived.Test.YtaakcbgpmabaaaaPFnLinkedx3
namespace Go.Proofs.Ytaakcbgpmabaaaa.PFnLinked
open Go.RowKit Go.Proofs.YtaakcbgpmabaaaaW.PrintWords Go.Proofs.YtaakcbgpmabaaaaW.PrintLast Go.Proofs.YtaakcbgpmabaaaaW.PrintMore
attribute [local go_sem] max2_int min2_int max_two min_two max_three min_three max_four min_four   -- for this text's walks alone
set_option linter.unusedVariables false
set_option linter.unusedSimpArgs false
set_option maxHeartbeats 8000000
set_option maxRecDepth 100000

/-! ### spec_l27DrawPart: function 58 -/
def spec_l27DrawPart.l0 : Nat → Int → List Int → Int → Int → ByteArray → List (S57) → List (S61) → Option (ByteArray × (List (S57)) × (List (S61)) × Int × Int)
 | 0, _, _, _, _, _, _, _ => none
 | k + 1, x4, x1000, x1001, x1002, x206000, x206001, x206002 => (spec_l1Below.f x1000 x1001 x1002 5).bind fun bt206 => (if x4 < (wrap64 (1 + bt206.1)) then ((spec_l8DrawIns.f k x1000 bt206.2.1 bt206.2.2).bind fun bt209 => (if x206001.length < 3518437208883 then ((some (x206001 ++ [(⟨bt209.1, bt209.2.1, bt209.2.2.1, bt209.2.2.2.1, bt209.2.2.2.2.1⟩ : S57)] : List (S57))).bind fun y217 => ((spec_l27Goes.f bt209.1 bt209.2.1 bt209.2.2.1 bt209.2.2.2.1 bt209.2.2.2.2.1).bind fun t220 => (if t220 = true then ((spec_l1Once.f x1000 bt209.2.2.2.2.2.1 bt209.2.2.2.2.2.2 2).bind fun bt221 => (if bt221.1 = true then ((spec_l1Pick.f x1000 bt221.2.1 bt221.2.2 (([(⟨#[109, 97, 105, 110]⟩ : ByteArray), (⟨#[108, 111, 111, 112]⟩ : ByteArray), (⟨#[101, 110, 100]⟩ : ByteArray)] : List ByteArray))).bind fun bt227 => (if x206002.length < 5864062014805 then (spec_l27DrawPart.l0 k (wrap64 (x4 + 1)) x1000 bt227.2.1 bt227.2.2 x206000 y217 (x206002 ++ [(⟨x4, bt227.1⟩ : S61)])) else (none))) else (spec_l27DrawPart.l0 k (wrap64 (x4 + 1)) x1000 bt221.2.1 bt221.2.2 x206000 y217 x206002))) else (spec_l27DrawPart.l0 k (wrap64 (x4 + 1)) x1000 bt209.2.2.2.2.2.1 bt209.2.2.2.2.2.2 x206000 y217 x206002)))) else (none))) else ((spec_l1Below.f x1000 bt206.2.1 bt206.2.2 14).bind fun bt233 => (if bt233.1 = 0 then ((spec_l1Pick.f x1000 bt233.2.1 bt233.2.2 (([(⟨#[]⟩ : ByteArray), (⟨#[97, 98, 99, 100, 101, 102, 103, 104, 105]⟩ : ByteArray), (⟨#[97, 49]⟩ : ByteArray)] : List ByteArray))).bind fun bt239 => (some (bt239.1, x206001, x206002, bt239.2.1, bt239.2.2))) else (if bt233.1 = 1 then ((spec_l1Below.f x1000 bt233.2.1 bt233.2.2 4).bind fun bt242 => (if x206002.length < 5864062014805 then (some (x206000, x206001, (x206002 ++ [(⟨wrap64 (bt242.1 - 1), (⟨#[101, 110, 100]⟩ : ByteArray)⟩ : S61)]), bt242.2.1, bt242.2.2)) else (none))) else (if bt233.1 = 2 then ((spec_l1Below.f x1000 bt233.2.1 bt233.2.2 256).bind fun bt248 => ((spec_l1Below.f x1000 bt248.2.1 bt248.2.2 256).bind fun bt251 => ((spec_l8DrawOne.f k (([(bt248.1) % 256, (bt251.1) % 256] : List Int))).bind fun bt257 => (if 0 < (x206001.length : Int) then (some (x206000, (x206001.set (0 : Int).toNat (⟨bt257.1, bt257.2.1, bt257.2.2.1, bt257.2.2.2.1, bt257.2.2.2.2⟩ : S57)), x206002, bt251.2.1, bt251.2.2)) else (none))))) else (some (x206000, x206001, x206002, bt233.2.1, bt233.2.2)))))))
def spec_l27DrawPart.f (k : Nat) (s0_0 : List Int) (s0_1 : Int) (s0_2 : Int) : Option (ByteArray × (List (S57)) × (List (S61)) × Int × Int) := (spec_l1Pick.f s0_0 s0_1 s0_2 (([(⟨#[109, 97, 105, 110]⟩ : ByteArray), (⟨#[108, 111, 111, 112]⟩ : ByteArray), (⟨#[101, 110, 100]⟩ : ByteArray), (⟨#[103, 101, 116]⟩ : ByteArray)] : List ByteArray))).bind fun bt202 => (spec_l27DrawPart.l0 k 0 s0_0 bt202.2.1 bt202.2.2 bt202.1 ([] : List (S57)) ([] : List (S61)))
theorem spec_l27DrawPart.mono_l : ∀ k, (∀ y0 y1 y2 y3 y4 y5 y6, LeO (spec_l27DrawPart.l0 k y0 y1 y2 y3 y4 y5 y6) (spec_l27DrawPart.l0 (k + 1) y0 y1 y2 y3 y4 y5 y6))
 | 0 => fun _ _ _ _ _ _ _ r h => by simp [spec_l27DrawPart.l0] at h
 | k + 1 => by
  have ih0 := spec_l27DrawPart.mono_l k
  ·intros
   unfold spec_l27DrawPart.l0
   have mo0 := @spec_l8DrawIns.mono
   have mo1 := @spec_l8DrawOne.mono
   exact zL
theorem spec_l27DrawPart.mono : ∀ a0 a1 a2 k, LeO (spec_l27DrawPart.f k a0 a1 a2) (spec_l27DrawPart.f (k + 1) a0 a1 a2) := by
 intro a0 a1 a2 k
 have ih0 := spec_l27DrawPart.mono_l k
 unfold spec_l27DrawPart.f
 have mo0 := @spec_l8DrawIns.mono
 have mo1 := @spec_l8DrawOne.mono
 exact zL
def spec_l27DrawPart.T8 : Bool × List (List Nat × List Nat) := (true, [([], []), ([0], [0]), ([], []), ([], []), ([], []), ([3, 4], [3, 4]), ([2, 5], [2, 5]), ([6], [6]), ([1, 7, 5], [1, 7]), ([0, 1, 2, 3, 4, 5, 6, 7, 8], []), ([9, 8, 8, 0, 1, 2, 3, 4, 5, 6, 7, 8], [8, 9])])
def spec_l27DrawPart.B8 : List Nat := [0, 1, 0, 0, 0, 24, 60, 124, 255, 511, 1023]
theorem spec_l27DrawPart.tab8 : rtab .any (opsOf Try.f58 8) = spec_l27DrawPart.T8 := by kernel_rfl
theorem spec_l27DrawPart.bits8 : waitsOk spec_l27DrawPart.T8.2 spec_l27DrawPart.B8 = true := by kernel_rfl
def spec_l27DrawPart.T13 : Bool × List (List Nat × List Nat) := (true, [([], []), ([0], [0]), ([], []), ([2], [2]), ([3], [3]), ([4], [4]), ([5], [5]), ([1, 6, 3], [1, 6]), ([0, 1, 2, 3, 4, 5, 6, 7], []), ([8, 7, 7, 0, 1, 2, 3, 4, 5, 6, 7], [7, 8])])
def spec_l27DrawPart.B13 : List Nat := [0, 1, 0, 4, 12, 28, 60, 127, 255, 511]
theorem spec_l27DrawPart.tab13 : rtab .any (opsOf Try.f58 13) = spec_l27DrawPart.T13 := by kernel_rfl
theorem spec_l27DrawPart.bits13 : waitsOk spec_l27DrawPart.T13.2 spec_l27DrawPart.B13 = true := by kernel_rfl
def spec_l27DrawPart.T15 : Bool × List (List Nat × List Nat) := (true, [([], []), ([0], [0]), ([], []), ([2], [2]), ([3], [3]), ([], []), ([5, 3], [5]), ([6], [6]), ([4, 7], [4, 7]), ([8, 6], [8]), ([1, 0, 1, 2, 3, 4, 5, 6, 7, 8, 9], [1]), ([10, 9, 9, 0, 1, 2, 3, 4, 5, 6, 7, 8, 9], [9, 10])])
def spec_l27DrawPart.B15 : List Nat := [0, 1, 0, 4, 12, 0, 44, 108, 252, 508, 1023, 2047]
theorem spec_l27DrawPart.tab15 : rtab .any (opsOf Try.f58 15) = spec_l27DrawPart.T15 := by kernel_rfl
theorem spec_l27DrawPart.bits15 : waitsOk spec_l27DrawPart.T15.2 spec_l27DrawPart.B15 = true := by kernel_rfl
theorem spec_l27DrawPart.calls (k : Nat) (g : Nat) (s0_0 : List Int) (s0_1 : Int) (s0_2 : Int) (r1 : ByteArray) (r2 : List (S57)) (r3 : List (S61)) (r4 : Int) (r5 : Int) (w0 w : World) (hI : IsS104 w0 w g s0_0 s0_1 s0_2) (hB : Below w0.heap.size w0 w) (h : spec_l27DrawPart.f k s0_0 s0_1 s0_2 = some (r1, r2, r3, r4, r5)) :
  Calls Try.prog 58 #[.pointer (some ⟨g, 0, none⟩)] w fun e w' => ∃ v1_ v2_ : Value, e = .returned (.agg #[.string r1, v1_, v2_]) ∧ Kd.R k57 57 w' w.heap.size (fun _ => True) v1_ r2 ∧ Kd.R k61 61 w' w.heap.size (fun _ => True) v2_ r3 ∧ IsS104 w0 w' g s0_0 r4 r5 ∧ Below w0.heap.size w0 w' ∧ KeepBut w w' g none := by
 have hu49 := Try.underlying49
 have hu57 := Try.underlying57
 have hu61 := Try.underlying61
 have HI0 := zM hI
 have HK := zM (KeepBut.refl w g none)
 have HL := zM hB.size
 clear hI
 have HW0 := zM hB.size
 have HB := zM hB
 clear hB
 unfold spec_l27DrawPart.f at h
 have H := h
 clear h
 generalize hy199 : ((([(⟨#[109, 97, 105, 110]⟩ : ByteArray), (⟨#[108, 111, 111, 112]⟩ : ByteArray), (⟨#[101, 110, 100]⟩ : ByteArray), (⟨#[103, 101, 116]⟩ : ByteArray)] : List ByteArray)) : List ByteArray) = y199 at H
 have Ny199 := zM hy199.symm
 clear hy199
 replace H := zO H
 obtain ⟨⟨t202, t203, t204⟩, A2, H⟩ := H
 try dsimp only at H
 have H' := zM H
 clear H
 go_enter Try.func58, Try.ntmps58
 go_wp2_with (first | ((with_reducible refine zBx 2 49 #[.string (⟨#[]⟩ : ByteArray), .slice none 0 0, .slice none 0 0] ?_); intro gb198 hg w3 hbox hb; replace HB := zM (below_step zB7 hb); have BK198 := zM hbox; have GW198 := zM ((by rw [hg]; exact (keep_size (w := w) (g := g) (row := none) zB8) : w.heap.size ≤ gb198)); have GE198 := zM ((Nat.le_trans HW0.1 (by rw [hg]; exact (keep_size (w := w) (g := g) (row := none) zB8) : w.heap.size ≤ gb198) : w0.heap.size ≤ gb198)); replace HK := zM (KeepBut.trans zB8 (KeepBut.of_below hb g none) (.inl rfl)); have NB0_198 := zM ((by rw [hg]; exact Nat.ne_of_lt (IsS104.lt (show IsS104 w0 _ g s0_0 s0_1 s0_2 from zB6)) : g ≠ gb198)); have NB198_0 := zM ((by rw [hg]; exact Nat.ne_of_gt (IsS104.lt (show IsS104 w0 _ g s0_0 s0_1 s0_2 from zB6)) : gb198 ≠ g)); replace HI0 := zM (IsS104.below zB6 hb); clear hb hbox hg) | ((with_reducible refine gate_dst (N := 7) rfl ?_); refine Kd.R_lit Kd.string _ 9 ?hg (N := 7) ?hd (xs := ([(⟨#[109, 97, 105, 110]⟩ : ByteArray), (⟨#[108, 111, 111, 112]⟩ : ByteArray), (⟨#[101, 110, 100]⟩ : ByteArray), (⟨#[103, 101, 116]⟩ : ByteArray)] : List ByteArray)) (inner := [.string (⟨#[109, 97, 105, 110]⟩ : ByteArray), .string (⟨#[108, 111, 111, 112]⟩ : ByteArray), .string (⟨#[101, 110, 100]⟩ : ByteArray), .string (⟨#[103, 101, 116]⟩ : ByteArray)]) (ok := fun _ => True) (okp := fun _ => True) ?hr ?hp (fun _ hk => hk) trivial (Below.refl _ _) (Nat.le_refl _) (by simp) ?_; (case hd => rfl); (case hg => rfl); (case hr => exact zHH); (case hp => exact (Reps.one (show Kd.M Kd.string _ _ _ (⟨#[109, 97, 105, 110]⟩ : ByteArray) [.string (⟨#[109, 97, 105, 110]⟩ : ByteArray)] from rfl) (Reps.one (show Kd.M Kd.string _ _ _ (⟨#[108, 111, 111, 112]⟩ : ByteArray) [.string (⟨#[108, 111, 111, 112]⟩ : ByteArray)] from rfl) (Reps.one (show Kd.M Kd.string _ _ _ (⟨#[101, 110, 100]⟩ : ByteArray) [.string (⟨#[101, 110, 100]⟩ : ByteArray)] from rfl) (Reps.one (show Kd.M Kd.string _ _ _ (⟨#[103, 101, 116]⟩ : ByteArray) [.string (⟨#[103, 101, 116]⟩ : ByteArray)] from rfl) (Reps.none _ _)))))); intro v200 w4 ho5 hb hg_ hnew_; clear hg_ hnew_; (first | rw [← Ny199.1] at ho5 | (simp only [Int.reduceToNat] at ho5; rw [← Ny199.1] at ho5)); have HO201 := zM (Kd.R_lower ho5 (keep_size (w := w) (g := g) (row := none) zB8)); replace BK198 := zM (zb BK198.1 hb); replace HK := zM (KeepBut.trans zB8 (KeepBut.of_below hb g none) (.inl rfl)); replace HB := zM (below_step zB7 hb); replace HI0 := zM (IsS104.below zB22 hb); clear hb ho5; obtain ⟨Ao6, co6, eo6⟩ := Kd.R_slice HO201.1; subst eo6) | ((with_reducible refine zG Try.func59 8 #[.pointer (some ⟨g, 0, none⟩), .slice Ao6 y199.length co6] ?_); (with_reducible refine (spec_l1Pick.calls g s0_0 s0_1 s0_2 _ _ y199 t202 t203 t204 w0 _ ?side1 ?side2 ?side3 ?side4 ?side5 A2.1).mono ?_); (case side1 => exact zB22); (case side2 => exact zB7); (case side3 => exact zC (Kd.R_reads' HO201.1).2.2); (case side4 => exact (Kd.R_reads' HO201.1).2.1); (case side5 => exact far_slice (IsS104.own_ne HI0.1 HO201.1 (by decide))); rintro e w7 ⟨rfl, hi, hb, hk⟩; refine ⟨_, rfl, ?_⟩; replace BK198 := zM (zh hk BK198.1 NB198_0.1); replace HO201 := zM (Kd.R_mono (Kd.R_keep (IsS104.apart (show IsS104 w0 _ g s0_0 s0_1 s0_2 from zB22) (zR HO201.1) (by decide)) hk (fun _ h => h.2)) (fun _ h => h.1)); replace HK := zM (KeepBut.trans zB8 hk (.inl rfl)); replace HB := zM hb; replace HI0 := zM hi; clear hb hk hi) | ((with_reducible refine zBx 3 49 #[.string (⟨#[]⟩ : ByteArray), .slice none 0 0, .slice none 0 0] ?_); intro gb205 hg w8 hbox hb; replace HO201 := zM (Kd.R_below (zR HO201.1) hb); replace HB := zM (below_step zB7 hb); have BK205 := zM hbox; have GW205 := zM ((by rw [hg]; exact (keep_size (w := w) (g := g) (row := none) zB8) : w.heap.size ≤ gb205)); have GE205 := zM ((Nat.le_trans HW0.1 (by rw [hg]; exact (keep_size (w := w) (g := g) (row := none) zB8) : w.heap.size ≤ gb205) : w0.heap.size ≤ gb205)); replace HK := zM (KeepBut.trans zB8 (KeepBut.of_below hb g none) (.inl rfl)); have NB198_205 := zM ((zn BK198.1 hg : gb198 ≠ gb205)); have NB205_198 := zM ((zm BK198.1 hg : gb205 ≠ gb198)); replace BK198 := zM (zb BK198.1 hb); have NB0_205 := zM ((by rw [hg]; exact Nat.ne_of_lt (IsS104.lt (show IsS104 w0 _ g s0_0 t203 t204 from zB22)) : g ≠ gb205)); have NB205_0 := zM ((by rw [hg]; exact Nat.ne_of_gt (IsS104.lt (show IsS104 w0 _ g s0_0 t203 t204 from zB22)) : gb205 ≠ g)); replace HI0 := zM (IsS104.below zB22 hb); clear hb hbox hg; have hnb9 := NB205_198.1; have hnc9 := NB198_205.1; have hnb10 := NB205_0.1; have hnc10 := NB0_205.1; have hcz11 := zc_3 (w := w8) BK205.1))
 go_loopg [4] k (fun kq v4 w' => ∃ (x4_1 : Int) (x1001_1 : Int) (x1002_1 : Int) (x206001_1 : List (S57)) (x206002_1 : List (S61)) (u206001 : Value) (u206002 : Value), v4 = .int .i64 x4_1 ∧ Aside0 (spec_l27DrawPart.l0 kq x4_1 s0_0 x1001_1 x1002_1 t202 x206001_1 x206002_1 = some (r1, r2, r3, r4, r5)) ∧ Aside0 (kq ≤ k) ∧ Aside0 (Kd.R k57 57 w' w.heap.size (fun _ => True) u206001 x206001_1) ∧ Aside0 (Kd.R k61 61 w' w.heap.size (fun _ => True) u206002 x206002_1) ∧ Aside0 (w'.heap[gb198]? = some (.cells #[.string (⟨#[]⟩ : ByteArray), (.slice none 0 0), (.slice none 0 0)] 49 (0, 0))) ∧ Aside0 (w'.heap[gb205]? = some (.cells #[.string t202, u206001, u206002] 49 (0, 0))) ∧ Aside0 (IsS104 w0 w' g s0_0 x1001_1 x1002_1) ∧ Aside0 (KeepBut w w' g none) ∧ Aside0 (Below w0.heap.size w0 w'))
 case atStart => exact ⟨(0), (t203), (t204), (([] : List (S57))), (([] : List (S61))), (.slice none 0 0), (.slice none 0 0), zJJ, H', ⟨Nat.le_refl _⟩, ⟨by first | exact Kd.R_nil _ _ _ _ _ | exact Kd.N_nil _ _ _ _ _ | exact Kd.V_nil _ _ _ _ _ | exact Kd.Q_nil _ _ _ _ _ | exact Kd.S_nil _ _ _ _ _⟩, ⟨by first | exact Kd.R_nil _ _ _ _ _ | exact Kd.N_nil _ _ _ _ _ | exact Kd.V_nil _ _ _ _ _ | exact Kd.Q_nil _ _ _ _ _ | exact Kd.S_nil _ _ _ _ _⟩, ⟨zPq⟩, ⟨by exact zp3 (zK BK205.1)⟩, ⟨zB24⟩, ⟨zB8⟩, ⟨zB7⟩⟩
 case round =>
  clear H'
  obtain ⟨x4_1, x1001_1, x1002_1, x206001_1, x206002_1, u206001, u206002, rfl, HA, HK1, HO_206001, HO_206002, BK198, BK205, HI0, HK, HB⟩ := hrel
  cases gk with
  | zero => exact absurd HA.1 (by simp [spec_l27DrawPart.l0])
  | succ k1 =>
   have H := HA.1
   clear HA
   simp only [spec_l27DrawPart.l0] at H
   replace H := zO H
   obtain ⟨⟨t206, t207, t208⟩, A12, H⟩ := H
   try dsimp only at H
   by_cases c13 : x4_1 < (wrap64 (1 + t206))
   rotate_left
   ·rw [if_neg c13] at H
    have c13b0 := decide_eq_false c13
    clear c13
    replace H := zO H
    obtain ⟨⟨t233, t234, t235⟩, A77, H⟩ := H
    try dsimp only at H
    by_cases c78 : t233 = 0
    ·rw [if_pos c78] at H
     have c78b0 : (t233 == 0) = true := beq_iff_eq.mpr c78
     have c78b1 : (t233 != 0) = false := bne_eq_false_iff_eq.mpr c78
     clear c78
     generalize hy236 : ((([(⟨#[]⟩ : ByteArray), (⟨#[97, 98, 99, 100, 101, 102, 103, 104, 105]⟩ : ByteArray), (⟨#[97, 49]⟩ : ByteArray)] : List ByteArray)) : List ByteArray) = y236 at H
     have Ny236 := zM hy236.symm
     clear hy236
     replace H := zO H
     obtain ⟨⟨t239, t240, t241⟩, A79, H⟩ := H
     try dsimp only at H
     simp only [Option.some.injEq, Prod.mk.injEq] at H
     obtain ⟨rfl, rfl, rfl, rfl, rfl⟩ := H
     go_wp2_with (first | ((with_reducible refine zG Try.func43 12 #[.pointer (some ⟨g, 0, none⟩), .int .i64 5] ?_); (with_reducible refine (spec_l1Below.calls g s0_0 x1001_1 x1002_1 5 t206 t207 t208 w0 _ ?side1 ?side2 A12.1).mono ?_); (case side1 => exact zB24); (case side2 => exact zB7); rintro e w80 ⟨rfl, hi, hb, hk⟩; refine ⟨_, rfl, ?_⟩; replace HO_206001 := zM (Kd.R_mono (Kd.R_keep (IsS104.apart (show IsS104 w0 _ g s0_0 x1001_1 x1002_1 from zB24) (zR HO_206001.1) (by decide)) hk (fun _ h => h.2)) (fun _ h => h.1)); replace HO_206002 := zM (Kd.R_mono (Kd.R_keep (IsS104.apart (show IsS104 w0 _ g s0_0 x1001_1 x1002_1 from zB24) (zR HO_206002.1) (by decide)) hk (fun _ h => h.2)) (fun _ h => h.1)); replace BK198 := zM (zh hk BK198.1 NB198_0.1); replace BK205 := zM (zh hk BK205.1 NB205_0.1); replace HK := zM (KeepBut.trans zB8 hk (.inl rfl)); replace HB := zM hb; replace HI0 := zM hi; clear hb hk hi) | ((with_reducible refine zG Try.func43 42 #[.pointer (some ⟨g, 0, none⟩), .int .i64 14] ?_); (with_reducible refine (spec_l1Below.calls g s0_0 t207 t208 14 t233 t234 t235 w0 _ ?side1 ?side2 A77.1).mono ?_); (case side1 => exact zB24); (case side2 => exact zB7); rintro e w81 ⟨rfl, hi, hb, hk⟩; refine ⟨_, rfl, ?_⟩; replace HO_206001 := zM (Kd.R_mono (Kd.R_keep (IsS104.apart (show IsS104 w0 _ g s0_0 t207 t208 from zB24) (zR HO_206001.1) (by decide)) hk (fun _ h => h.2)) (fun _ h => h.1)); replace HO_206002 := zM (Kd.R_mono (Kd.R_keep (IsS104.apart (show IsS104 w0 _ g s0_0 t207 t208 from zB24) (zR HO_206002.1) (by decide)) hk (fun _ h => h.2)) (fun _ h => h.1)); replace BK198 := zM (zh hk BK198.1 NB198_0.1); replace BK205 := zM (zh hk BK205.1 NB205_0.1); replace HK := zM (KeepBut.trans zB8 hk (.inl rfl)); replace HB := zM hb; replace HI0 := zM hi; clear hb hk hi) | ((with_reducible refine gate_dst (N := 46) rfl ?_); refine Kd.R_lit Kd.string _ 9 ?hg (N := 46) ?hd (xs := ([(⟨#[]⟩ : ByteArray), (⟨#[97, 98, 99, 100, 101, 102, 103, 104, 105]⟩ : ByteArray), (⟨#[97, 49]⟩ : ByteArray)] : List ByteArray)) (inner := [.string (⟨#[]⟩ : ByteArray), .string (⟨#[97, 98, 99, 100, 101, 102, 103, 104, 105]⟩ : ByteArray), .string (⟨#[97, 49]⟩ : ByteArray)]) (ok := fun _ => True) (okp := fun _ => True) ?hr ?hp (fun _ hk => hk) trivial (Below.refl _ _) (Nat.le_refl _) (by simp) ?_; (case hd => rfl); (case hg => rfl); (case hr => exact zHH); (case hp => exact (Reps.one (show Kd.M Kd.string _ _ _ (⟨#[]⟩ : ByteArray) [.string (⟨#[]⟩ : ByteArray)] from rfl) (Reps.one (show Kd.M Kd.string _ _ _ (⟨#[97, 98, 99, 100, 101, 102, 103, 104, 105]⟩ : ByteArray) [.string (⟨#[97, 98, 99, 100, 101, 102, 103, 104, 105]⟩ : ByteArray)] from rfl) (Reps.one (show Kd.M Kd.string _ _ _ (⟨#[97, 49]⟩ : ByteArray) [.string (⟨#[97, 49]⟩ : ByteArray)] from rfl) (Reps.none _ _))))); intro v237 w82 ho83 hb hg_ hnew_; clear hg_ hnew_; (first | rw [← Ny236.1] at ho83 | (simp only [Int.reduceToNat] at ho83; rw [← Ny236.1] at ho83)); replace HO_206001 := zM (Kd.R_below (zR HO_206001.1) hb); replace HO_206002 := zM (Kd.R_below (zR HO_206002.1) hb); have HO238 := zM (Kd.R_lower ho83 (keep_size (w := w) (g := g) (row := none) zB8)); replace BK198 := zM (zb BK198.1 hb); replace BK205 := zM (zb BK205.1 hb); replace HK := zM (KeepBut.trans zB8 (KeepBut.of_below hb g none) (.inl rfl)); replace HB := zM (below_step zB7 hb); replace HI0 := zM (IsS104.below zB24 hb); clear hb ho83; obtain ⟨Ao84, co84, eo84⟩ := Kd.R_slice HO238.1; subst eo84) | ((with_reducible refine zG Try.func59 47 #[.pointer (some ⟨g, 0, none⟩), .slice Ao84 y236.length co84] ?_); (with_reducible refine (spec_l1Pick.calls g s0_0 t234 t235 _ _ y236 t239 t240 t241 w0 _ ?side1 ?side2 ?side3 ?side4 ?side5 A79.1).mono ?_); (case side1 => exact zB24); (case side2 => exact zB7); (case side3 => exact zC (Kd.R_reads' HO238.1).2.2); (case side4 => exact (Kd.R_reads' HO238.1).2.1); (case side5 => exact far_slice (IsS104.own_ne HI0.1 HO238.1 (by decide))); rintro e w85 ⟨rfl, hi, hb, hk⟩; refine ⟨_, rfl, ?_⟩; replace HO_206001 := zM (Kd.R_mono (Kd.R_keep (IsS104.apart (show IsS104 w0 _ g s0_0 t234 t235 from zB24) (zR HO_206001.1) (by decide)) hk (fun _ h => h.2)) (fun _ h => h.1)); replace HO_206002 := zM (Kd.R_mono (Kd.R_keep (IsS104.apart (show IsS104 w0 _ g s0_0 t234 t235 from zB24) (zR HO_206002.1) (by decide)) hk (fun _ h => h.2)) (fun _ h => h.1)); replace BK198 := zM (zh hk BK198.1 NB198_0.1); replace BK205 := zM (zh hk BK205.1 NB205_0.1); replace HO238 := zM (Kd.R_mono (Kd.R_keep (IsS104.apart (show IsS104 w0 _ g s0_0 t234 t235 from zB24) (zR HO238.1) (by decide)) hk (fun _ h => h.2)) (fun _ h => h.1)); replace HK := zM (KeepBut.trans zB8 hk (.inl rfl)); replace HB := zM hb; replace HI0 := zM hi; clear hb hk hi; have hnb86 := NB205_198.1; have hnc86 := NB198_205.1; have hnb87 := NB205_0.1; have hnc87 := NB0_205.1; have hcz88 := zc_3 (w := w85) BK205.1; have hnb89 := NB198_0.1; have hnc89 := NB0_198.1; have hcz90 := zc_3 (w := w85) BK198.1; obtain ⟨Ao91, co91, eo91⟩ := Kd.R_slice HO_206001.1; subst eo91; obtain ⟨Ao92, co92, eo92⟩ := Kd.R_slice HO_206002.1; subst eo92))
     refine bodyPost_ret (results_cell_row rfl _ _ gb198 49 #[.string t239, .slice Ao91 x206001_1.length co91, .slice Ao92 x206002_1.length co92] (0, 0) _ rfl zPq Try.underlying49 rfl (by kernel_rfl)) rfl ?_
     exact ⟨_, _, zE, by refine zrR ?_; exact Kd.R_mono (zfR (zfR (zfR (zgR (Kd.R_types (Kd.R_types HO_206001.1 BK205.1 (by decide)) BK198.1 (by decide)))))) (fun _ hk => trivial), by refine zrR ?_; exact Kd.R_mono (zfR (zfR (zfR (zgR (Kd.R_types (Kd.R_types HO_206002.1 BK205.1 (by decide)) BK198.1 (by decide)))))) (fun _ hk => trivial), zB24, zB7, zB8⟩
    rw [if_neg c78] at H
    have c78b0 : (t233 == 0) = false := beq_eq_false_iff_ne.mpr c78
    have c78b1 : (t233 != 0) = true := bne_iff_ne.mpr c78
    by_cases c93 : t233 = 1
    ·rw [if_pos c93] at H
     have c93b0 : (t233 == 1) = true := beq_iff_eq.mpr c93
     have c93b1 : (t233 != 1) = false := bne_eq_false_iff_eq.mpr c93
     clear c93
     replace H := zO H
     obtain ⟨⟨t242, t243, t244⟩, A94, H⟩ := H
     try dsimp only at H
     replace H := zIn H
     obtain ⟨LMc95, H⟩ := H
     generalize hy245 : ((x206002_1 ++ [(⟨wrap64 (t242 - 1), (⟨#[101, 110, 100]⟩ : ByteArray)⟩ : S61)]) : List (S61)) = y245 at H
     have Ny245 := zM hy245.symm
     clear hy245
     simp only [Option.some.injEq, Prod.mk.injEq] at H
     obtain ⟨rfl, rfl, rfl, rfl, rfl⟩ := H
     try go_wp2_with (first | ((with_reducible refine zG Try.func43 12 #[.pointer (some ⟨g, 0, none⟩), .int .i64 5] ?_); (with_reducible refine (spec_l1Below.calls g s0_0 x1001_1 x1002_1 5 t206 t207 t208 w0 _ ?side1 ?side2 A12.1).mono ?_); (case side1 => exact zB24); (case side2 => exact zB7); rintro e w96 ⟨rfl, hi, hb, hk⟩; refine ⟨_, rfl, ?_⟩; replace HO_206001 := zM (Kd.R_mono (Kd.R_keep (IsS104.apart (show IsS104 w0 _ g s0_0 x1001_1 x1002_1 from zB24) (zR HO_206001.1) (by decide)) hk (fun _ h => h.2)) (fun _ h => h.1)); replace HO_206002 := zM (Kd.R_mono (Kd.R_keep (IsS104.apart (show IsS104 w0 _ g s0_0 x1001_1 x1002_1 from zB24) (zR HO_206002.1) (by decide)) hk (fun _ h => h.2)) (fun _ h => h.1)); replace BK198 := zM (zh hk BK198.1 NB198_0.1); replace BK205 := zM (zh hk BK205.1 NB205_0.1); replace HK := zM (KeepBut.trans zB8 hk (.inl rfl)); replace HB := zM hb; replace HI0 := zM hi; clear hb hk hi) | ((with_reducible refine zG Try.func43 42 #[.pointer (some ⟨g, 0, none⟩), .int .i64 14] ?_); (with_reducible refine (spec_l1Below.calls g s0_0 t207 t208 14 t233 t234 t235 w0 _ ?side1 ?side2 A77.1).mono ?_); (case side1 => exact zB24); (case side2 => exact zB7); rintro e w97 ⟨rfl, hi, hb, hk⟩; refine ⟨_, rfl, ?_⟩; replace HO_206001 := zM (Kd.R_mono (Kd.R_keep (IsS104.apart (show IsS104 w0 _ g s0_0 t207 t208 from zB24) (zR HO_206001.1) (by decide)) hk (fun _ h => h.2)) (fun _ h => h.1)); replace HO_206002 := zM (Kd.R_mono (Kd.R_keep (IsS104.apart (show IsS104 w0 _ g s0_0 t207 t208 from zB24) (zR HO_206002.1) (by decide)) hk (fun _ h => h.2)) (fun _ h => h.1)); replace BK198 := zM (zh hk BK198.1 NB198_0.1); replace BK205 := zM (zh hk BK205.1 NB205_0.1); replace HK := zM (KeepBut.trans zB8 hk (.inl rfl)); replace HB := zM hb; replace HI0 := zM hi; clear hb hk hi))
     replace HO_206001 := zM (Kd.R_drew HO_206001.1)
     replace HO_206002 := zM (Kd.R_drew HO_206002.1)
     replace BK198 := zM (blk_drew BK198.1)
     replace BK205 := zM (blk_drew BK205.1)
     replace HI0 := zM (IsS104.drew HI0.1)
     replace HK := zM (keep_drew HK.1)
     replace HB := zM (below_drew1 HB.1)
     refine start_ (n := 10) (S := fun w' => w'.cell? ⟨gb205, 0, none⟩ = some (.string t202) ∧ w'.cell? ⟨gb205, 1, none⟩ = some (u206001) ∧ w'.cell? ⟨gb205, 2, none⟩ = some (u206002)) (ds := [9]) #[false, false, false, false, false, false, false, false, false, false] (by kernel_rfl) rfl rfl ⟨(blk_cell BK205.1 0).trans rfl, (blk_cell BK205.1 1).trans rfl, (blk_cell BK205.1 2).trans rfl⟩ (fun hHeld => ?_); refine with_tabW spec_l27DrawPart.tab13 spec_l27DrawPart.bits13 (fun HT_ HW_ => ?_)
     generalize w97.drew = w98 at HO_206001 HO_206002 BK198 BK205 HI0 HK HB hHeld ⊢
     refine zPu 0 ?_
     refine zPu 2 ?_
     refine zTk3 1 hHeld ?_
     refine zOn 3 (some 54) fun K hK => ?_
     refine zGs Try.func43 #[.pointer (some ⟨g, 0, none⟩), .int .i64 4] ?_
     with_reducible refine (spec_l1Below.calls g s0_0 t234 t235 4 t242 t243 t244 w0 _ ?side1 ?side2 A94.1).mono ?_
     (case side1 => exact zB24)
     (case side2 => exact zB7)
     rintro e w99 ⟨rfl, hi, hb, hk⟩
     refine ⟨_, rfl, ?_⟩
     replace HO_206001 := zM (Kd.R_mono (Kd.R_keep (IsS104.apart (show IsS104 w0 _ g s0_0 t234 t235 from zB24) (zR HO_206001.1) (by decide)) hk (fun _ h => h.2)) (fun _ h => h.1))
     replace HO_206002 := zM (Kd.R_mono (Kd.R_keep (IsS104.apart (show IsS104 w0 _ g s0_0 t234 t235 from zB24) (zR HO_206002.1) (by decide)) hk (fun _ h => h.2)) (fun _ h => h.1))
     replace BK198 := zM (zh hk BK198.1 NB198_0.1)
     replace BK205 := zM (zh hk BK205.1 NB205_0.1)
     replace HK := zM (KeepBut.trans zB8 hk (.inl rfl))
     replace HB := zM hb
     replace HI0 := zM hi
     refine hK.out _ _ zCs fun hHeld => ?_
     clear hK K
     refine zNo ?_
     refine zPu 4 ?_
     refine zPu 5 ?_
     refine zOn 6 (some 57) fun K hK => ?_
     refine value_ (w1 := ?_) (v := ?_) (by rfl) rfl ?_ ?_
     rotate_left 2
     ·go_simp
      constructor
      ·rfl
      ·rfl
     refine hK.out _ _ ⟨(blk_cell (blk_alloc BK205.1 _) 0).trans rfl, (blk_cell (blk_alloc BK205.1 _) 1).trans rfl, (blk_cell (blk_alloc BK205.1 _) 2).trans rfl⟩ (fun hHeld => ?_)
     clear hK K
     refine zNo ?_
     refine zOn 7 (some 58) fun K hK => ?_
     refine Kd.R_append_step k61 w.heap.size (by rfl) (.tmp 52) (.tmp 57) 47 61 (.agg #[(.int .i64 0), (.string ⟨#[]⟩)]) 24 rfl Try.underlying47 info61 rfl (by decide) (by omega) u206002 x206002_1 (⟨wrap64 (t242 - 1), (⟨#[101, 110, 100]⟩ : ByteArray)⟩ : S61) [.int .i64 (wrap64 (t242 - 1)), .string (⟨#[101, 110, 100]⟩ : ByteArray)] (fun _ => True) (fun _ => False) rfl rfl ?aP (fun _ hk => hk.elim) ?aF ?aO (Below.refl _ _) ?aS ?aL ?_
     (case aP => exact k61_mkM _ _ _ (⟨wrap64 (t242 - 1), (⟨#[101, 110, 100]⟩ : ByteArray)⟩ : S61))
     (case aF => exact (fun _ _ => trivial))
     (case aO => exact (zR HO_206002.1))
     (case aS => exact (keep_size (w := w) (g := g) (row := none) zB8))
     (case aL => have := LMc95.out; omega)
     intro v246 w100 ho hb hg hat
     rw [← Ny245.1] at ho
     have n0_ := zM (Kd.R_over' (zR HO_206001.1) (Kd.R_typed (zR HO_206002.1)) (by decide) hg)
     have n1_ := zM (zg BK198.1 hg (Kd.R_ne HO_206002.1 BK198.1 (by decide)))
     have n2_ := zM (zg BK205.1 hg (Kd.R_ne HO_206002.1 BK205.1 (by decide)))
     have n3_ := zM (IsS104.grown zB24 hg (IsS104.own_ne HI0.1 HO_206002.1 (by decide)))
     have n4_ := zM (below_weaken zB7 HL.1 hb)
     have n5_ := zM (KeepBut.trans zB8 (KeepBut.of_grown hg g) (Kd.R_base2 HO_206002.1))
     have n6_ := zM ho
     clear HO_206001 BK198 BK205 HI0 HB HK HO_206002
     have HO_206001 := n0_
     have BK198 := n1_
     have BK205 := n2_
     have HI0 := n3_
     have HB := n4_
     have HK := n5_
     have HO247 := n6_
     clear n0_ n1_ n2_ n3_ n4_ n5_ n6_ ho hb hg hat
     obtain ⟨Ao101, co101, eo101⟩ := Kd.R_slice HO247.1
     (first | subst eo101 | (injection eo101 with f1_ f2_ f3_; have f4_ := f1_.symm; have f5_ := f3_.symm; clear f1_ f2_ f3_; subst f4_; subst f5_))
     refine hK.out _ _ zCs fun hHeld => ?_
     clear hK K
     refine zNo ?_
     refine zPu 8 ?_
     refine last_ (i := 9) (N := none) #[true, true, true, true, true, true, true, true, true, true] rfl rfl (one_of HT_.1 (by kernel_rfl)) (by decide) (fun K hK => ?_)
     obtain ⟨hs102, hfs102⟩ := zHs BK205.1 2
     have hns102_0 := NB198_205.1
     have hms102_0 := NB205_198.1
     refine skip_ (w1 := ?_) (by rfl) rfl ?_ ?_
     rotate_left
     ·go_simp
      rfl
     refine hK.out _ _ ?_
     clear hK K
     refine done_ (done_of HT_.1 (by kernel_rfl)) ?_
     have hnb103 := NB205_198.1
     have hnc103 := NB198_205.1
     have hnb104 := NB205_0.1
     have hnc104 := NB0_205.1
     have hcz105 := zc_3 (w := w100) BK205.1
     have hnb106 := NB198_0.1
     have hnc106 := NB0_198.1
     have hcz107 := zc_3 (w := w100) BK198.1
     obtain ⟨Ao108, co108, eo108⟩ := Kd.R_slice HO_206001.1
     subst eo108
     try go_wp2
     refine bodyPost_ret (results_cell_row rfl _ _ gb198 49 #[.string t202, .slice Ao108 x206001_1.length co108, .slice Ao101 y245.length co101] (0, 0) _ rfl zPq Try.underlying49 rfl (by kernel_rfl)) rfl ?_
     exact ⟨_, _, zE, by refine zrR ?_; exact Kd.R_mono (zfR (zfR (zfR (zgR (Kd.R_types (Kd.R_types HO_206001.1 BK205.1 (by decide)) BK198.1 (by decide)))))) (fun _ hk => trivial), by refine zrR ?_; exact Kd.R_mono (zfR (zfR (zfR (zgR (Kd.R_types (Kd.R_types HO247.1 BK205.1 (by decide)) BK198.1 (by decide)))))) (fun _ hk => trivial), zB24, zB7, zB8⟩
    rw [if_neg c93] at H
    have c93b0 : (t233 == 1) = false := beq_eq_false_iff_ne.mpr c93
    have c93b1 : (t233 != 1) = true := bne_iff_ne.mpr c93
    by_cases c109 : t233 = 2
    rotate_left
    ·rw [if_neg c109] at H
     have c109b0 : (t233 == 2) = false := beq_eq_false_iff_ne.mpr c109
     have c109b1 : (t233 != 2) = true := bne_iff_ne.mpr c109
     simp only [Option.some.injEq, Prod.mk.injEq] at H
     obtain ⟨rfl, rfl, rfl, rfl, rfl⟩ := H
     go_wp2_with (first | ((with_reducible refine zG Try.func43 12 #[.pointer (some ⟨g, 0, none⟩), .int .i64 5] ?_); (with_reducible refine (spec_l1Below.calls g s0_0 x1001_1 x1002_1 5 t206 t207 t208 w0 _ ?side1 ?side2 A12.1).mono ?_); (case side1 => exact zB24); (case side2 => exact zB7); rintro e w132 ⟨rfl, hi, hb, hk⟩; refine ⟨_, rfl, ?_⟩; replace HO_206001 := zM (Kd.R_mono (Kd.R_keep (IsS104.apart (show IsS104 w0 _ g s0_0 x1001_1 x1002_1 from zB24) (zR HO_206001.1) (by decide)) hk (fun _ h => h.2)) (fun _ h => h.1)); replace HO_206002 := zM (Kd.R_mono (Kd.R_keep (IsS104.apart (show IsS104 w0 _ g s0_0 x1001_1 x1002_1 from zB24) (zR HO_206002.1) (by decide)) hk (fun _ h => h.2)) (fun _ h => h.1)); replace BK198 := zM (zh hk BK198.1 NB198_0.1); replace BK205 := zM (zh hk BK205.1 NB205_0.1); replace HK := zM (KeepBut.trans zB8 hk (.inl rfl)); replace HB := zM hb; replace HI0 := zM hi; clear hb hk hi) | ((with_reducible refine zG Try.func43 42 #[.pointer (some ⟨g, 0, none⟩), .int .i64 14] ?_); (with_reducible refine (spec_l1Below.calls g s0_0 t207 t208 14 t233 t234 t235 w0 _ ?side1 ?side2 A77.1).mono ?_); (case side1 => exact zB24); (case side2 => exact zB7); rintro e w133 ⟨rfl, hi, hb, hk⟩; refine ⟨_, rfl, ?_⟩; replace HO_206001 := zM (Kd.R_mono (Kd.R_keep (IsS104.apart (show IsS104 w0 _ g s0_0 t207 t208 from zB24) (zR HO_206001.1) (by decide)) hk (fun _ h => h.2)) (fun _ h => h.1)); replace HO_206002 := zM (Kd.R_mono (Kd.R_keep (IsS104.apart (show IsS104 w0 _ g s0_0 t207 t208 from zB24) (zR HO_206002.1) (by decide)) hk (fun _ h => h.2)) (fun _ h => h.1)); replace BK198 := zM (zh hk BK198.1 NB198_0.1); replace BK205 := zM (zh hk BK205.1 NB205_0.1); replace HK := zM (KeepBut.trans zB8 hk (.inl rfl)); replace HB := zM hb; replace HI0 := zM hi; clear hb hk hi; have hnb134 := NB205_198.1; have hnc134 := NB198_205.1; have hnb135 := NB205_0.1; have hnc135 := NB0_205.1; have hcz136 := zc_3 (w := w133) BK205.1; have hnb137 := NB198_0.1; have hnc137 := NB0_198.1; have hcz138 := zc_3 (w := w133) BK198.1; obtain ⟨Ao139, co139, eo139⟩ := Kd.R_slice HO_206001.1; subst eo139; obtain ⟨Ao140, co140, eo140⟩ := Kd.R_slice HO_206002.1; subst eo140))
     refine bodyPost_ret (results_cell_row rfl _ _ gb198 49 #[.string t202, .slice Ao139 x206001_1.length co139, .slice Ao140 x206002_1.length co140] (0, 0) _ rfl (by exact zp3 (zK BK198.1)) Try.underlying49 rfl (by kernel_rfl)) rfl ?_
     exact ⟨_, _, zE, by refine zrR ?_; exact Kd.R_mono (zfR (zfR (zfR (Kd.R_types HO_206001.1 BK198.1 (by decide))))) (fun _ hk => trivial), by refine zrR ?_; exact Kd.R_mono (zfR (zfR (zfR (Kd.R_types HO_206002.1 BK198.1 (by decide))))) (fun _ hk => trivial), zB24, zB7, zB8⟩
    rw [if_pos c109] at H
    have c109b0 : (t233 == 2) = true := beq_iff_eq.mpr c109
    have c109b1 : (t233 != 2) = false := bne_eq_false_iff_eq.mpr c109
    clear c109
    replace H := zO H
    obtain ⟨⟨t248, t249, t250⟩, A110, H⟩ := H
    try dsimp only at H
    replace H := zO H
    obtain ⟨⟨t251, t252, t253⟩, A111, H⟩ := H
    try dsimp only at H
    generalize hy254 : ((([(t248) % 256, (t251) % 256] : List Int)) : List Int) = y254 at H
    have Ny254 := zM hy254.symm
    clear hy254
    replace H := zO H
    obtain ⟨⟨t257, t258, t259, t260, t261⟩, A112, H⟩ := H
    try dsimp only at H
    replace H := zIp H
    obtain ⟨c113, H⟩ := H
    have c113b0 := decide_eq_true c113
    have c113b1 : decide (0 < x206001_1.length) = true := decide_eq_true (by omega)
    clear c113
    generalize hy262 : ((x206001_1.set (0 : Int).toNat (⟨t257, t258, t259, t260, t261⟩ : S57)) : List (S57)) = y262 at H
    have Ny262 := zM hy262.symm
    clear hy262
    simp only [Option.some.injEq, Prod.mk.injEq] at H
    obtain ⟨rfl, rfl, rfl, rfl, rfl⟩ := H
    try go_wp2_with (first | ((with_reducible refine zG Try.func43 12 #[.pointer (some ⟨g, 0, none⟩), .int .i64 5] ?_); (with_reducible refine (spec_l1Below.calls g s0_0 x1001_1 x1002_1 5 t206 t207 t208 w0 _ ?side1 ?side2 A12.1).mono ?_); (case side1 => exact zB24); (case side2 => exact zB7); rintro e w115 ⟨rfl, hi, hb, hk⟩; refine ⟨_, rfl, ?_⟩; replace HO_206001 := zM (Kd.R_mono (Kd.R_keep (IsS104.apart (show IsS104 w0 _ g s0_0 x1001_1 x1002_1 from zB24) (zR HO_206001.1) (by decide)) hk (fun _ h => h.2)) (fun _ h => h.1)); replace HO_206002 := zM (Kd.R_mono (Kd.R_keep (IsS104.apart (show IsS104 w0 _ g s0_0 x1001_1 x1002_1 from zB24) (zR HO_206002.1) (by decide)) hk (fun _ h => h.2)) (fun _ h => h.1)); replace BK198 := zM (zh hk BK198.1 NB198_0.1); replace BK205 := zM (zh hk BK205.1 NB205_0.1); replace HK := zM (KeepBut.trans zB8 hk (.inl rfl)); replace HB := zM hb; replace HI0 := zM hi; clear hb hk hi) | ((with_reducible refine zG Try.func43 42 #[.pointer (some ⟨g, 0, none⟩), .int .i64 14] ?_); (with_reducible refine (spec_l1Below.calls g s0_0 t207 t208 14 t233 t234 t235 w0 _ ?side1 ?side2 A77.1).mono ?_); (case side1 => exact zB24); (case side2 => exact zB7); rintro e w116 ⟨rfl, hi, hb, hk⟩; refine ⟨_, rfl, ?_⟩; replace HO_206001 := zM (Kd.R_mono (Kd.R_keep (IsS104.apart (show IsS104 w0 _ g s0_0 t207 t208 from zB24) (zR HO_206001.1) (by decide)) hk (fun _ h => h.2)) (fun _ h => h.1)); replace HO_206002 := zM (Kd.R_mono (Kd.R_keep (IsS104.apart (show IsS104 w0 _ g s0_0 t207 t208 from zB24) (zR HO_206002.1) (by decide)) hk (fun _ h => h.2)) (fun _ h => h.1)); replace BK198 := zM (zh hk BK198.1 NB198_0.1); replace BK205 := zM (zh hk BK205.1 NB205_0.1); replace HK := zM (KeepBut.trans zB8 hk (.inl rfl)); replace HB := zM hb; replace HI0 := zM hi; clear hb hk hi))
    replace HO_206001 := zM (Kd.R_drew HO_206001.1)
    replace HO_206002 := zM (Kd.R_drew HO_206002.1)
    replace BK198 := zM (blk_drew BK198.1)
    replace BK205 := zM (blk_drew BK205.1)
    replace HI0 := zM (IsS104.drew HI0.1)
    replace HK := zM (keep_drew HK.1)
    replace HB := zM (below_drew1 HB.1)
    refine start_ (n := 12) (S := fun w' => w'.cell? ⟨gb205, 0, none⟩ = some (.string t202) ∧ w'.cell? ⟨gb205, 1, none⟩ = some (u206001) ∧ w'.cell? ⟨gb205, 2, none⟩ = some (u206002)) (ds := [11]) #[false, false, false, false, false, false, false, false, false, false, false, false] (by kernel_rfl) rfl rfl ⟨(blk_cell BK205.1 0).trans rfl, (blk_cell BK205.1 1).trans rfl, (blk_cell BK205.1 2).trans rfl⟩ (fun hHeld => ?_); refine with_tabW spec_l27DrawPart.tab15 spec_l27DrawPart.bits15 (fun HT_ HW_ => ?_)
    generalize w116.drew = w117 at HO_206001 HO_206002 BK198 BK205 HI0 HK HB hHeld ⊢
    refine zPu 0 ?_
    refine zPu 2 ?_
    refine zPu 5 ?_
    refine zTk3 1 hHeld ?_
    refine zOn 3 (some 65) fun K hK => ?_
    refine zGs Try.func43 #[.pointer (some ⟨g, 0, none⟩), .int .i64 256] ?_
    with_reducible refine (spec_l1Below.calls g s0_0 t234 t235 256 t248 t249 t250 w0 _ ?side1 ?side2 A110.1).mono ?_
    (case side1 => exact zB24)
    (case side2 => exact zB7)
    rintro e w118 ⟨rfl, hi, hb, hk⟩
    refine ⟨_, rfl, ?_⟩
    replace HO_206001 := zM (Kd.R_mono (Kd.R_keep (IsS104.apart (show IsS104 w0 _ g s0_0 t234 t235 from zB24) (zR HO_206001.1) (by decide)) hk (fun _ h => h.2)) (fun _ h => h.1))
    replace HO_206002 := zM (Kd.R_mono (Kd.R_keep (IsS104.apart (show IsS104 w0 _ g s0_0 t234 t235 from zB24) (zR HO_206002.1) (by decide)) hk (fun _ h => h.2)) (fun _ h => h.1))
    replace BK198 := zM (zh hk BK198.1 NB198_0.1)
    replace BK205 := zM (zh hk BK205.1 NB205_0.1)
    replace HK := zM (KeepBut.trans zB8 hk (.inl rfl))
    replace HB := zM hb
    replace HI0 := zM hi
    refine hK.out _ _ zCs fun hHeld => ?_
    clear hK K
    refine zNo ?_
    refine zPu 4 ?_
    refine zOn 6 (some 68) fun K hK => ?_
    refine zGs Try.func43 #[.pointer (some ⟨g, 0, none⟩), .int .i64 256] ?_
    with_reducible refine (spec_l1Below.calls g s0_0 t249 t250 256 t251 t252 t253 w0 _ ?side1 ?side2 A111.1).mono ?_
    (case side1 => exact zB24)
    (case side2 => exact zB7)
    rintro e w119 ⟨rfl, hi, hb, hk⟩
    refine ⟨_, rfl, ?_⟩
    replace HO_206001 := zM (Kd.R_mono (Kd.R_keep (IsS104.apart (show IsS104 w0 _ g s0_0 t249 t250 from zB24) (zR HO_206001.1) (by decide)) hk (fun _ h => h.2)) (fun _ h => h.1))
    replace HO_206002 := zM (Kd.R_mono (Kd.R_keep (IsS104.apart (show IsS104 w0 _ g s0_0 t249 t250 from zB24) (zR HO_206002.1) (by decide)) hk (fun _ h => h.2)) (fun _ h => h.1))
    replace BK198 := zM (zh hk BK198.1 NB198_0.1)
    replace BK205 := zM (zh hk BK205.1 NB205_0.1)
    replace HK := zM (KeepBut.trans zB8 hk (.inl rfl))
    replace HB := zM hb
    replace HI0 := zM hi
    refine hK.out _ _ zCs fun hHeld => ?_
    clear hK K
    refine zNo ?_
    refine zPu 7 ?_
    refine zOn 8 (some 70) fun K hK => ?_
    refine Kd.R_lit_step (Kd.int .u8) _ 5 ?hg (N := 70) ?hd (xs := ([(t248) % 256, (t251) % 256] : List Int)) (inner := [.int .u8 ((t248) % 256), .int .u8 ((t251) % 256)]) (ok := fun _ => True) (okp := fun _ => True) ?hr ?hp (fun _ hk => hk) trivial (Below.refl _ _) (Nat.le_refl _) (by simp) ?_; (case hd => rfl); (case hg => rfl); (case hr => exact zHH); (case hp => exact (Reps.one (show Kd.M (Kd.int .u8) _ _ _ ((t248) % 256) [.int .u8 ((t248) % 256)] from rfl) (Reps.one (show Kd.M (Kd.int .u8) _ _ _ ((t251) % 256) [.int .u8 ((t251) % 256)] from rfl) (Reps.none _ _))))
    intro v255 w120 ho121 hb hg_ hnew_
    clear hg_ hnew_
    (first | rw [← Ny254.1] at ho121 | (simp only [Int.reduceToNat] at ho121; rw [← Ny254.1] at ho121))
    have n0_ := zM (Kd.R_below (zR HO_206001.1) hb)
    have n1_ := zM (Kd.R_below (zR HO_206002.1) hb)
    have n2_ := zM (Kd.R_lower ho121 (keep_size (w := w) (g := g) (row := none) zB8))
    have n3_ := zM (zb BK198.1 hb)
    have n4_ := zM (zb BK205.1 hb)
    have n5_ := zM (IsS104.below zB24 hb)
    have n6_ := zM (KeepBut.trans zB8 (KeepBut.of_below hb g none) (.inl rfl))
    have n7_ := zM (below_step zB7 hb)
    clear HO_206001 HO_206002 BK198 BK205 HI0 HK HB
    have HO_206001 := n0_
    have HO_206002 := n1_
    have HO256 := n2_
    have BK198 := n3_
    have BK205 := n4_
    have HI0 := n5_
    have HK := n6_
    have HB := n7_
    clear n0_ n1_ n2_ n3_ n4_ n5_ n6_ n7_ hb ho121
    obtain ⟨Ao122, co122, eo122⟩ := Kd.R_slice HO256.1
    (first | subst eo122 | (injection eo122 with f1_ f2_ f3_; have f4_ := f1_.symm; have f5_ := f3_.symm; clear f1_ f2_ f3_; subst f4_; subst f5_))
    refine hK.out _ _ zCs fun hHeld => ?_
    clear hK K
    refine zNo ?_
    refine zOn 9 (some 71) fun K hK => ?_
    refine zGs Try.func94 #[.slice Ao122 y254.length co122] ?_
    with_reducible refine (spec_l8DrawOne.calls k1 _ _ y254 t257 t258 t259 t260 t261 _ ?side1 ?side2 A112.1).mono ?_
    (case side1 => exact zC (Kd.R_reads' HO256.1).2.2)
    (case side2 => exact (Kd.R_reads' HO256.1).2.1)
    rintro e w123 ⟨rfl, hb⟩
    refine ⟨_, rfl, ?_⟩
    replace HO_206001 := zM (Kd.R_below (zR HO_206001.1) hb)
    replace HO_206002 := zM (Kd.R_below (zR HO_206002.1) hb)
    replace HO256 := zM (Kd.R_below (zR HO256.1) hb)
    replace BK198 := zM (zb BK198.1 hb)
    replace BK205 := zM (zb BK205.1 hb)
    replace HK := zM (KeepBut.trans zB8 (KeepBut.of_below hb g none) (.inl rfl))
    replace HB := zM (below_step zB7 hb)
    replace HI0 := zM (IsS104.below zB24 hb)
    have p114 : 0 ≤ (0 : Int) := (by omega)
    have q114 : (0 : Int) < ((x206001_1.length : Int) : Int) := zA
    have qi114 : (0 < x206001_1.length) = True := eq_true (by omega)
    obtain ⟨go114, co114, eo114, gb114, gl114, cl114, HG114⟩ := Kd.R_form HO_206001.1 (by omega)
    (first | cases eo114 | (injection eo114 with ea_ en_ ec_; (first | subst ea_ | (injection ea_ with ea_; subst ea_)); subst ec_; clear en_))
    have GB114 := zM gb114
    have GG114 := zM HG114
    clear gb114 gl114 HG114
    obtain ⟨ce114, hcl114, hM114, hcc114, hfr114⟩ := Kd.R_elem HO_206001.1 z57 (0 : Int) p114 q114
    obtain rfl := k57_openM hM114
    have hx114_0 : World.cell? _ ⟨go114, (0 : Int).toNat * 5, none⟩ = some (.int .i64 ((rd_T57 x206001_1 0).f0)) := hcc114 0 _ rfl
    have hx114_1 : World.cell? _ ⟨go114, (0 : Int).toNat * 5 + 1, none⟩ = some (.int .i64 ((rd_T57 x206001_1 0).f1)) := hcc114 1 _ rfl
    have hx114_2 : World.cell? _ ⟨go114, (0 : Int).toNat * 5 + 2, none⟩ = some (.int .i64 ((rd_T57 x206001_1 0).f2)) := hcc114 2 _ rfl
    have hx114_3 : World.cell? _ ⟨go114, (0 : Int).toNat * 5 + 3, none⟩ = some (.int .i64 ((rd_T57 x206001_1 0).f3)) := hcc114 3 _ rfl
    have hx114_4 : World.cell? _ ⟨go114, (0 : Int).toNat * 5 + 4, none⟩ = some (.int .i64 ((rd_T57 x206001_1 0).f4)) := hcc114 4 _ rfl
    have hf114_0 : World.frozen? _ ⟨go114, (0 : Int).toNat * 5, none⟩ = false := hfr114 0
    have hf114_1 : World.frozen? _ ⟨go114, (0 : Int).toNat * 5 + 1, none⟩ = false := hfr114 1
    have hf114_2 : World.frozen? _ ⟨go114, (0 : Int).toNat * 5 + 2, none⟩ = false := hfr114 2
    have hf114_3 : World.frozen? _ ⟨go114, (0 : Int).toNat * 5 + 3, none⟩ = false := hfr114 3
    have hf114_4 : World.frozen? _ ⟨go114, (0 : Int).toNat * 5 + 4, none⟩ = false := hfr114 4
    clear hcl114 hcc114 hfr114 hM114
    (try rw [show ((0 : Int)).toNat = 0 from rfl] at hx114_0)
    (try simp only [Nat.reduceMul, Nat.zero_mul, Nat.zero_add, Nat.reduceAdd] at hx114_0)
    (try rw [show ((0 : Int)).toNat = 0 from rfl] at hf114_0)
    (try simp only [Nat.reduceMul, Nat.zero_mul, Nat.zero_add, Nat.reduceAdd] at hf114_0)
    (try rw [show ((0 : Int)).toNat = 0 from rfl] at hx114_1)
    (try simp only [Nat.reduceMul, Nat.zero_mul, Nat.zero_add, Nat.reduceAdd] at hx114_1)
    (try rw [show ((0 : Int)).toNat = 0 from rfl] at hf114_1)
    (try simp only [Nat.reduceMul, Nat.zero_mul, Nat.zero_add, Nat.reduceAdd] at hf114_1)
    (try rw [show ((0 : Int)).toNat = 0 from rfl] at hx114_2)
    (try simp only [Nat.reduceMul, Nat.zero_mul, Nat.zero_add, Nat.reduceAdd] at hx114_2)
    (try rw [show ((0 : Int)).toNat = 0 from rfl] at hf114_2)
    (try simp only [Nat.reduceMul, Nat.zero_mul, Nat.zero_add, Nat.reduceAdd] at hf114_2)
    (try rw [show ((0 : Int)).toNat = 0 from rfl] at hx114_3)
    (try simp only [Nat.reduceMul, Nat.zero_mul, Nat.zero_add, Nat.reduceAdd] at hx114_3)
    (try rw [show ((0 : Int)).toNat = 0 from rfl] at hf114_3)
    (try simp only [Nat.reduceMul, Nat.zero_mul, Nat.zero_add, Nat.reduceAdd] at hf114_3)
    (try rw [show ((0 : Int)).toNat = 0 from rfl] at hx114_4)
    (try simp only [Nat.reduceMul, Nat.zero_mul, Nat.zero_add, Nat.reduceAdd] at hx114_4)
    (try rw [show ((0 : Int)).toNat = 0 from rfl] at hf114_4)
    (try simp only [Nat.reduceMul, Nat.zero_mul, Nat.zero_add, Nat.reduceAdd] at hf114_4)
    replace p114 := eq_true p114
    replace q114 := eq_true q114
    have HN0_go114 := zM (show g ≠ go114 from by have h_ := IsS104.own_ne HI0.1 HO_206001.1 (by decide); intro e_; exact h_ (by rw [e_]; rfl))
    obtain ⟨ce124, hcl124, hM124, hcc124, hfr124⟩ := Kd.R_elem HO_206001.1 z57 (0 : Int) (by omega) (by have h_ : (0 : Int) < ((x206001_1.length : Int) : Int) := zA; first | exact h_ | (have e_ := (Kd.R_reads' HO_206001.1).1; omega) | simpa using h_)
    obtain rfl := k57_openM hM124
    have HP124 := (Kd.R_seg HO_206001.1 (0 : Int) (by omega) (by have h_ : (0 : Int) < ((x206001_1.length : Int) : Int) := zA; first | exact h_ | (have e_ := (Kd.R_reads' HO_206001.1).1; omega) | simpa using h_) (seg := [.int .i64 t257, .int .i64 t258, .int .i64 t259, .int .i64 t260, .int .i64 t261]) (j := 0) hcl124 hcc124 (show 5 ≤ 5 from by decide) (x' := (⟨t257, t258, t259, t260, t261⟩ : S57)) (k57_mkM _ _ _ (⟨t257, t258, t259, t260, t261⟩ : S57) ) (fun _ hk => hk)).1
    rw [← Ny262.1] at HP124
    have HQ124 := zM HP124
    clear hcl124 hcc124 hfr124 hM124 HP124
    refine hK.out _ _ zCs fun hHeld => ?_
    clear hK K
    refine zNo ?_
    refine zPu 10 ?_
    refine last_ (i := 11) (N := none) #[true, true, true, true, true, true, true, true, true, true, true, true] rfl rfl (one_of HT_.1 (by kernel_rfl)) (by decide) (fun K hK => ?_)
    refine skip_ (w1 := ?_) (by rfl) rfl ?_ ?_
    rotate_left
    ·go_simp
     rfl
    refine hK.out _ _ ?_
    clear hK K
    refine done_ (done_of HT_.1 (by kernel_rfl)) ?_
    generalize hw_ : (((((w123.setCell ⟨go114, 0, none⟩ (.int .i64 t257)).setCell ⟨go114, 1, none⟩ (.int .i64 t258)).setCell ⟨go114, 2, none⟩ (.int .i64 t259)).setCell ⟨go114, 3, none⟩ (.int .i64 t260)).setCell ⟨go114, 4, none⟩ (.int .i64 t261)) = w125
    have n0_ : Aside0 (Kd.R k57 57 w125 w.heap.size (fun _ => True) (.slice (some ⟨go114, 0, none⟩) x206001_1.length co114) y262) := ⟨by rw [← hw_]; exact zR HQ124.out⟩
    have n1_ : Aside0 (Kd.R k61 61 w125 w.heap.size (fun _ => True) u206002 x206002_1) := ⟨by rw [← hw_]; refine zrR ?_; exact Kd.R_mono (zfR (zfR (zfR (zfR (zfR (Kd.R_types HO_206002.1 GG114.out (by decide))))))) (fun _ hk => trivial)⟩
    have n2_ : Aside0 (Kd.R (Kd.int .u8) 5 w125 w.heap.size (fun _ => True) (.slice Ao122 y254.length co122) y254) := ⟨by rw [← hw_]; refine zrR ?_; exact Kd.R_mono (zfR (zfR (zfR (zfR (zfR (Kd.R_types HO256.1 GG114.out (by decide))))))) (fun _ hk => trivial)⟩
    have n3_ : Aside0 (w125.heap[gb198]? = some (.cells #[.string (⟨#[]⟩ : ByteArray), .slice none 0 0, .slice none 0 0] 49 (0, 0))) := ⟨by rw [← hw_]; refine zP ?_; refine blk_far ?_ (by have h_ := Kd.R_ne HO_206001.1 BK198.1 (by decide); intro e_; exact h_ (by rw [e_]; rfl)) _; refine zP ?_; refine blk_far ?_ (by have h_ := Kd.R_ne HO_206001.1 BK198.1 (by decide); intro e_; exact h_ (by rw [e_]; rfl)) _; refine zP ?_; refine blk_far ?_ (by have h_ := Kd.R_ne HO_206001.1 BK198.1 (by decide); intro e_; exact h_ (by rw [e_]; rfl)) _; refine zP ?_; refine blk_far ?_ (by have h_ := Kd.R_ne HO_206001.1 BK198.1 (by decide); intro e_; exact h_ (by rw [e_]; rfl)) _; refine zP ?_; refine blk_far ?_ (by have h_ := Kd.R_ne HO_206001.1 BK198.1 (by decide); intro e_; exact h_ (by rw [e_]; rfl)) _; refine zP ?_; exact BK198.1⟩
    have n4_ : Aside0 (w125.heap[gb205]? = some (.cells #[.string t202, .slice (some ⟨go114, 0, none⟩) x206001_1.length co114, u206002] 49 (0, 0))) := ⟨by rw [← hw_]; refine zP ?_; refine blk_far ?_ (by have h_ := Kd.R_ne HO_206001.1 BK205.1 (by decide); intro e_; exact h_ (by rw [e_]; rfl)) _; refine zP ?_; refine blk_far ?_ (by have h_ := Kd.R_ne HO_206001.1 BK205.1 (by decide); intro e_; exact h_ (by rw [e_]; rfl)) _; refine zP ?_; refine blk_far ?_ (by have h_ := Kd.R_ne HO_206001.1 BK205.1 (by decide); intro e_; exact h_ (by rw [e_]; rfl)) _; refine zP ?_; refine blk_far ?_ (by have h_ := Kd.R_ne HO_206001.1 BK205.1 (by decide); intro e_; exact h_ (by rw [e_]; rfl)) _; refine zP ?_; refine blk_far ?_ (by have h_ := Kd.R_ne HO_206001.1 BK205.1 (by decide); intro e_; exact h_ (by rw [e_]; rfl)) _; refine zP ?_; exact BK205.1⟩
    have n5_ : Aside0 (IsS104 w0 w125 g s0_0 t252 t253) := ⟨by rw [← hw_]; exact zB30⟩
    have n6_ : Aside0 (KeepBut w w125 g none) := ⟨by rw [← hw_]; exact zB8⟩
    have n7_ : Aside0 (Below w0.heap.size w0 w125) := ⟨by rw [← hw_]; exact zB32⟩
    (try clear HO_206001)
    (try clear HO_206002)
    (try clear HO256)
    (try clear BK198)
    (try clear BK205)
    (try clear HI0)
    (try clear HK)
    (try clear HB)
    clear hw_
    have HO_206001 := n0_
    have HO_206002 := n1_
    have HO256 := n2_
    have BK198 := n3_
    have BK205 := n4_
    have HI0 := n5_
    have HK := n6_
    have HB := n7_
    clear n0_ n1_ n2_ n3_ n4_ n5_ n6_ n7_
    have hnb126 := NB205_198.1
    have hnc126 := NB198_205.1
    have hnb127 := NB205_0.1
    have hnc127 := NB0_205.1
    have hcz128 := zc_3 (w := w125) BK205.1
    have hnb129 := NB198_0.1
    have hnc129 := NB0_198.1
    have hcz130 := zc_3 (w := w125) BK198.1
    obtain ⟨Ao131, co131, eo131⟩ := Kd.R_slice HO_206002.1
    subst eo131
    try go_wp2
    refine bodyPost_ret (results_cell_row rfl _ _ gb198 49 #[.string t202, .slice (some ⟨go114, 0, none⟩) x206001_1.length co114, .slice Ao131 x206002_1.length co131] (0, 0) _ rfl (by exact zp3 (zK BK198.1)) Try.underlying49 rfl (by kernel_rfl)) rfl ?_
    exact ⟨_, _, zE, by refine zrR ?_; exact Kd.R_mono (zfR (zfR (zfR (Kd.R_types HO_206001.1 BK198.1 (by decide))))) (fun _ hk => trivial), by refine zrR ?_; exact Kd.R_mono (zfR (zfR (zfR (Kd.R_types HO_206002.1 BK198.1 (by decide))))) (fun _ hk => trivial), zB24, zB7, zB8⟩
   rw [if_pos c13] at H
   have c13b0 := decide_eq_true c13
   clear c13
   replace H := zO H
   obtain ⟨⟨t209, t210, t211, t212, t213, t214, t215⟩, A14, H⟩ := H
   try dsimp only at H
   replace H := zIn H
   obtain ⟨LMc15, H⟩ := H
   replace H := zY H
   obtain ⟨y217, Ny217, H⟩ := H
   replace H := zO H
   obtain ⟨t220, A16, H⟩ := H
   by_cases c17 : t220 = true
   rotate_left
   ·replace c17 := Bool.eq_false_iff.mpr c17
    subst c17
    rw [if_neg zF] at H
    have H' := zM H
    clear H
    go_wp2_with (first | ((with_reducible refine zG Try.func43 12 #[.pointer (some ⟨g, 0, none⟩), .int .i64 5] ?_); (with_reducible refine (spec_l1Below.calls g s0_0 x1001_1 x1002_1 5 t206 t207 t208 w0 _ ?side1 ?side2 A12.1).mono ?_); (case side1 => exact zB24); (case side2 => exact zB7); rintro e w62 ⟨rfl, hi, hb, hk⟩; refine ⟨_, rfl, ?_⟩; replace HO_206001 := zM (Kd.R_mono (Kd.R_keep (IsS104.apart (show IsS104 w0 _ g s0_0 x1001_1 x1002_1 from zB24) (zR HO_206001.1) (by decide)) hk (fun _ h => h.2)) (fun _ h => h.1)); replace HO_206002 := zM (Kd.R_mono (Kd.R_keep (IsS104.apart (show IsS104 w0 _ g s0_0 x1001_1 x1002_1 from zB24) (zR HO_206002.1) (by decide)) hk (fun _ h => h.2)) (fun _ h => h.1)); replace BK198 := zM (zh hk BK198.1 NB198_0.1); replace BK205 := zM (zh hk BK205.1 NB205_0.1); replace HK := zM (KeepBut.trans zB8 hk (.inl rfl)); replace HB := zM hb; replace HI0 := zM hi; clear hb hk hi) | ((with_reducible refine zG Try.func93 18 #[.pointer (some ⟨g, 0, none⟩)] ?_); (with_reducible refine (spec_l8DrawIns.calls k1 g s0_0 t207 t208 t209 t210 t211 t212 t213 t214 t215 w0 _ ?side1 ?side2 A14.1).mono ?_); (case side1 => exact zB24); (case side2 => exact zB7); rintro e w63 ⟨rfl, hi, hb, hk⟩; refine ⟨_, rfl, ?_⟩; replace HO_206001 := zM (Kd.R_mono (Kd.R_keep (IsS104.apart (show IsS104 w0 _ g s0_0 t207 t208 from zB24) (zR HO_206001.1) (by decide)) hk (fun _ h => h.2)) (fun _ h => h.1)); replace HO_206002 := zM (Kd.R_mono (Kd.R_keep (IsS104.apart (show IsS104 w0 _ g s0_0 t207 t208 from zB24) (zR HO_206002.1) (by decide)) hk (fun _ h => h.2)) (fun _ h => h.1)); replace BK198 := zM (zh hk BK198.1 NB198_0.1); replace BK205 := zM (zh hk BK205.1 NB205_0.1); replace HK := zM (KeepBut.trans zB8 hk (.inl rfl)); replace HB := zM hb; replace HI0 := zM hi; clear hb hk hi) | ((with_reducible refine zBx 5 57 #[.int .i64 0, .int .i64 0, .int .i64 0, .int .i64 0, .int .i64 0] ?_); intro gb216 hg w64 hbox hb; replace HO_206001 := zM (Kd.R_below (Kd.R_elderB (zR HO_206001.1) gb216 (Nat.le_of_eq hg.symm)) hb); replace HO_206002 := zM (Kd.R_below (zR HO_206002.1) hb); replace HB := zM (below_step zB7 hb); have BK216 := zM hbox; have GW216 := zM ((by rw [hg]; exact (keep_size (w := w) (g := g) (row := none) zB8) : w.heap.size ≤ gb216)); have GE216 := zM ((Nat.le_trans HW0.1 (by rw [hg]; exact (keep_size (w := w) (g := g) (row := none) zB8) : w.heap.size ≤ gb216) : w0.heap.size ≤ gb216)); replace HK := zM (KeepBut.trans zB8 (KeepBut.of_below hb g none) (.inl rfl)); have NB198_216 := zM ((zn BK198.1 hg : gb198 ≠ gb216)); have NB216_198 := zM ((zm BK198.1 hg : gb216 ≠ gb198)); replace BK198 := zM (zb BK198.1 hb); have NB205_216 := zM ((zn BK205.1 hg : gb205 ≠ gb216)); have NB216_205 := zM ((zm BK205.1 hg : gb216 ≠ gb205)); replace BK205 := zM (zb BK205.1 hb); have NB0_216 := zM ((by rw [hg]; exact Nat.ne_of_lt (IsS104.lt (show IsS104 w0 _ g s0_0 t214 t215 from zB24)) : g ≠ gb216)); have NB216_0 := zM ((by rw [hg]; exact Nat.ne_of_gt (IsS104.lt (show IsS104 w0 _ g s0_0 t214 t215 from zB24)) : gb216 ≠ g)); replace HI0 := zM (IsS104.below zB24 hb); clear hb hbox hg; have hnb65 := NB216_198.1; have hnc65 := NB198_216.1; have hnb66 := NB216_205.1; have hnc66 := NB205_216.1; have hnb67 := NB216_0.1; have hnc67 := NB0_216.1; have hcz68 := zc_5 (w := w64) BK216.1; have hnb69 := NB205_198.1; have hnc69 := NB198_205.1; have hnb70 := NB205_0.1; have hnc70 := NB0_205.1; have hcz71 := zc_3 (w := w64) BK205.1) | ((with_reducible refine gate_builtin (b := .append) (xs := #[.tmp 20, .tmp 22]) rfl ?_); at_builtin; refine Kd.R_append k57 w.heap.size rfl (.tmp 20) (.tmp 22) 46 57 (.agg #[(.int .i64 0), (.int .i64 0), (.int .i64 0), (.int .i64 0), (.int .i64 0)]) 40 rfl Try.underlying46 info57 rfl (by decide) (by omega) u206001 x206001_1 (⟨t209, t210, t211, t212, t213⟩ : S57) [.int .i64 t209, .int .i64 t210, .int .i64 t211, .int .i64 t212, .int .i64 t213] (fun k_ => k_ ≠ gb216) (fun _ => False) rfl (by first | (go_simp; done) | (go_simp; rfl)) ?aP (fun _ hk => hk.elim) ?aF ?aO (Below.refl _ _) ?aS ?aL ?_; (case aP => exact k57_mkM _ _ _ (⟨t209, t210, t211, t212, t213⟩ : S57)); (case aF => exact (fun k_ hk => Kd.freshB (g := gb216) (o := .cells #[.int .i64 t209, .int .i64 t210, .int .i64 t211, .int .i64 t212, .int .i64 t213] 57 (0, 0)) (by exact zp5 (zK BK216.1)) k_ hk)); (case aO => exact (by refine zrR ?_; exact Kd.R_mono (zfR (zfR (zfR (zfR (zfR (Kd.R_mono HO_206001.1 (fun k_ hk => (⟨hk, hk.2⟩ : _ ∧ k_ ≠ gb216)))))))) (fun _ hk => hk.1.2))); (case aS => exact (keep_size (w := w) (g := g) (row := none) zB8)); (case aL => have := LMc15.out; omega); intro v218 w72 ho hb hg hat; rw [← Ny217.1] at ho; replace HO_206002 := zM (Kd.R_over' (by refine zrR ?_; exact (Kd.R_mono (zfR (zfR (zfR (zfR (zfR (Kd.R_types HO_206002.1 BK216.1 (by decide))))))) (fun _ h_ => h_.1))) (Kd.R_typed (by refine zrR ?_; exact (Kd.R_mono (zfR (zfR (zfR (zfR (zfR (Kd.R_mono HO_206001.1 (fun k_ hk => (⟨hk, hk.2⟩ : _ ∧ k_ ≠ gb216)))))))) (fun _ h_ => h_.1)))) (by decide) hg); replace BK198 := zM (blk_grown (g := gb198) (o := .cells #[.string (⟨#[]⟩ : ByteArray), .slice none 0 0, .slice none 0 0] 49 (0, 0)) zPq hg (Kd.R_ne HO_206001.1 BK198.1 (by decide))); replace BK205 := zM (blk_grown (g := gb205) (o := .cells #[.string t202, u206001, u206002] 49 (0, 0)) zPq hg (Kd.R_ne HO_206001.1 BK205.1 (by decide))); replace BK216 := zM (blk_grown (g := gb216) (o := .cells #[.int .i64 t209, .int .i64 t210, .int .i64 t211, .int .i64 t212, .int .i64 t213] 57 (0, 0)) (by exact zp5 (zK BK216.1)) hg (Kd.R_away HO_206001.1 (fun _ hk => hk.2))); replace HB := zM (below_weaken zB7 HL.1 hb); replace HI0 := zM (IsS104.grown (show IsS104 w0 _ g s0_0 t214 t215 from zB28) hg (IsS104.own_ne HI0.1 HO_206001.1 (by decide))); replace HK := zM (KeepBut.trans zB8 (KeepBut.of_grown hg g) (Kd.R_base2 HO_206001.1)); have HO219 := zM ho; clear HO_206001; clear ho hb hg hat; obtain ⟨Ao73, co73, eo73⟩ := Kd.R_slice HO219.1; subst eo73; have hcz74 := zc_3 (w := w72) BK205.1; have hcz75 := zc_5 (w := w72) BK216.1) | ((with_reducible refine zG Try.func68 26 #[.agg #[.int .i64 t209, .int .i64 t210, .int .i64 t211, .int .i64 t212, .int .i64 t213]] ?_); (with_reducible refine (spec_l27Goes.calls t209 t210 t211 t212 t213 false _ A16.1).mono ?_); rintro e w76 ⟨rfl, hb⟩; refine ⟨_, rfl, ?_⟩; replace HO_206002 := zM (Kd.R_below (by refine zrR ?_; exact (Kd.R_mono (zfR (Kd.R_types HO_206002.1 BK205.1 (by decide))) (fun _ h_ => h_.1))) hb); replace HO219 := zM (Kd.R_below (by refine zrR ?_; exact (Kd.R_mono (zfR (Kd.R_types HO219.1 BK205.1 (by decide))) (fun _ h_ => h_.1))) hb); replace BK198 := zM (zf BK198.1 hb); replace BK205 := zM (blk_below (g := gb205) (o := .cells #[.string t202, .slice Ao73 y217.length co73, u206002] 49 (0, 0)) zPq hb); replace BK216 := zM (zf BK216.1 hb); replace HK := zM (KeepBut.trans zB8 (KeepBut.of_below hb g none) (.inl rfl)); replace HB := zM (below_step zB7 hb); replace HI0 := zM (IsS104.below (show IsS104 w0 (w72.setCell ⟨gb205, 1, none⟩ (.slice Ao73 y217.length co73)) g s0_0 t214 t215 from zB28) hb); clear hb))
    go_roundg k1
    case measure => have := HK1.1; omega
    case rel => exact ⟨(wrap64 (x4_1 + 1)), (t214), (t215), (y217), (x206002_1), (.slice Ao73 y217.length co73), (u206002), zJJ, H', ⟨by have := HK1.1; omega⟩, ⟨by refine zrR ?_; exact Kd.R_mono HO219.1 (fun _ hk => trivial)⟩, ⟨zR HO_206002.1⟩, ⟨zK BK198.1⟩, ⟨zK BK205.1⟩, ⟨zB28⟩, ⟨zB8⟩, ⟨zB7⟩⟩
   subst c17
   rw [if_pos rfl] at H
   replace H := zO H
   obtain ⟨⟨t221, t222, t223⟩, A18, H⟩ := H
   try dsimp only at H
   by_cases c19 : t221 = true
   rotate_left
   ·replace c19 := Bool.eq_false_iff.mpr c19
    subst c19
    rw [if_neg zF] at H
    have H' := zM H
    clear H
    go_wp2_with (first | ((with_reducible refine zG Try.func43 12 #[.pointer (some ⟨g, 0, none⟩), .int .i64 5] ?_); (with_reducible refine (spec_l1Below.calls g s0_0 x1001_1 x1002_1 5 t206 t207 t208 w0 _ ?side1 ?side2 A12.1).mono ?_); (case side1 => exact zB24); (case side2 => exact zB7); rintro e w46 ⟨rfl, hi, hb, hk⟩; refine ⟨_, rfl, ?_⟩; replace HO_206001 := zM (Kd.R_mono (Kd.R_keep (IsS104.apart (show IsS104 w0 _ g s0_0 x1001_1 x1002_1 from zB24) (zR HO_206001.1) (by decide)) hk (fun _ h => h.2)) (fun _ h => h.1)); replace HO_206002 := zM (Kd.R_mono (Kd.R_keep (IsS104.apart (show IsS104 w0 _ g s0_0 x1001_1 x1002_1 from zB24) (zR HO_206002.1) (by decide)) hk (fun _ h => h.2)) (fun _ h => h.1)); replace BK198 := zM (zh hk BK198.1 NB198_0.1); replace BK205 := zM (zh hk BK205.1 NB205_0.1); replace HK := zM (KeepBut.trans zB8 hk (.inl rfl)); replace HB := zM hb; replace HI0 := zM hi; clear hb hk hi) | ((with_reducible refine zG Try.func93 18 #[.pointer (some ⟨g, 0, none⟩)] ?_); (with_reducible refine (spec_l8DrawIns.calls k1 g s0_0 t207 t208 t209 t210 t211 t212 t213 t214 t215 w0 _ ?side1 ?side2 A14.1).mono ?_); (case side1 => exact zB24); (case side2 => exact zB7); rintro e w47 ⟨rfl, hi, hb, hk⟩; refine ⟨_, rfl, ?_⟩; replace HO_206001 := zM (Kd.R_mono (Kd.R_keep (IsS104.apart (show IsS104 w0 _ g s0_0 t207 t208 from zB24) (zR HO_206001.1) (by decide)) hk (fun _ h => h.2)) (fun _ h => h.1)); replace HO_206002 := zM (Kd.R_mono (Kd.R_keep (IsS104.apart (show IsS104 w0 _ g s0_0 t207 t208 from zB24) (zR HO_206002.1) (by decide)) hk (fun _ h => h.2)) (fun _ h => h.1)); replace BK198 := zM (zh hk BK198.1 NB198_0.1); replace BK205 := zM (zh hk BK205.1 NB205_0.1); replace HK := zM (KeepBut.trans zB8 hk (.inl rfl)); replace HB := zM hb; replace HI0 := zM hi; clear hb hk hi) | ((with_reducible refine zBx 5 57 #[.int .i64 0, .int .i64 0, .int .i64 0, .int .i64 0, .int .i64 0] ?_); intro gb216 hg w48 hbox hb; replace HO_206001 := zM (Kd.R_below (Kd.R_elderB (zR HO_206001.1) gb216 (Nat.le_of_eq hg.symm)) hb); replace HO_206002 := zM (Kd.R_below (zR HO_206002.1) hb); replace HB := zM (below_step zB7 hb); have BK216 := zM hbox; have GW216 := zM ((by rw [hg]; exact (keep_size (w := w) (g := g) (row := none) zB8) : w.heap.size ≤ gb216)); have GE216 := zM ((Nat.le_trans HW0.1 (by rw [hg]; exact (keep_size (w := w) (g := g) (row := none) zB8) : w.heap.size ≤ gb216) : w0.heap.size ≤ gb216)); replace HK := zM (KeepBut.trans zB8 (KeepBut.of_below hb g none) (.inl rfl)); have NB198_216 := zM ((zn BK198.1 hg : gb198 ≠ gb216)); have NB216_198 := zM ((zm BK198.1 hg : gb216 ≠ gb198)); replace BK198 := zM (zb BK198.1 hb); have NB205_216 := zM ((zn BK205.1 hg : gb205 ≠ gb216)); have NB216_205 := zM ((zm BK205.1 hg : gb216 ≠ gb205)); replace BK205 := zM (zb BK205.1 hb); have NB0_216 := zM ((by rw [hg]; exact Nat.ne_of_lt (IsS104.lt (show IsS104 w0 _ g s0_0 t214 t215 from zB24)) : g ≠ gb216)); have NB216_0 := zM ((by rw [hg]; exact Nat.ne_of_gt (IsS104.lt (show IsS104 w0 _ g s0_0 t214 t215 from zB24)) : gb216 ≠ g)); replace HI0 := zM (IsS104.below zB24 hb); clear hb hbox hg; have hnb49 := NB216_198.1; have hnc49 := NB198_216.1; have hnb50 := NB216_205.1; have hnc50 := NB205_216.1; have hnb51 := NB216_0.1; have hnc51 := NB0_216.1; have hcz52 := zc_5 (w := w48) BK216.1; have hnb53 := NB205_198.1; have hnc53 := NB198_205.1; have hnb54 := NB205_0.1; have hnc54 := NB0_205.1; have hcz55 := zc_3 (w := w48) BK205.1) | ((with_reducible refine gate_builtin (b := .append) (xs := #[.tmp 20, .tmp 22]) rfl ?_); at_builtin; refine Kd.R_append k57 w.heap.size rfl (.tmp 20) (.tmp 22) 46 57 (.agg #[(.int .i64 0), (.int .i64 0), (.int .i64 0), (.int .i64 0), (.int .i64 0)]) 40 rfl Try.underlying46 info57 rfl (by decide) (by omega) u206001 x206001_1 (⟨t209, t210, t211, t212, t213⟩ : S57) [.int .i64 t209, .int .i64 t210, .int .i64 t211, .int .i64 t212, .int .i64 t213] (fun k_ => k_ ≠ gb216) (fun _ => False) rfl (by first | (go_simp; done) | (go_simp; rfl)) ?aP (fun _ hk => hk.elim) ?aF ?aO (Below.refl _ _) ?aS ?aL ?_; (case aP => exact k57_mkM _ _ _ (⟨t209, t210, t211, t212, t213⟩ : S57)); (case aF => exact (fun k_ hk => Kd.freshB (g := gb216) (o := .cells #[.int .i64 t209, .int .i64 t210, .int .i64 t211, .int .i64 t212, .int .i64 t213] 57 (0, 0)) (by exact zp5 (zK BK216.1)) k_ hk)); (case aO => exact (by refine zrR ?_; exact Kd.R_mono (zfR (zfR (zfR (zfR (zfR (Kd.R_mono HO_206001.1 (fun k_ hk => (⟨hk, hk.2⟩ : _ ∧ k_ ≠ gb216)))))))) (fun _ hk => hk.1.2))); (case aS => exact (keep_size (w := w) (g := g) (row := none) zB8)); (case aL => have := LMc15.out; omega); intro v218 w56 ho hb hg hat; rw [← Ny217.1] at ho; replace HO_206002 := zM (Kd.R_over' (by refine zrR ?_; exact (Kd.R_mono (zfR (zfR (zfR (zfR (zfR (Kd.R_types HO_206002.1 BK216.1 (by decide))))))) (fun _ h_ => h_.1))) (Kd.R_typed (by refine zrR ?_; exact (Kd.R_mono (zfR (zfR (zfR (zfR (zfR (Kd.R_mono HO_206001.1 (fun k_ hk => (⟨hk, hk.2⟩ : _ ∧ k_ ≠ gb216)))))))) (fun _ h_ => h_.1)))) (by decide) hg); replace BK198 := zM (blk_grown (g := gb198) (o := .cells #[.string (⟨#[]⟩ : ByteArray), .slice none 0 0, .slice none 0 0] 49 (0, 0)) zPq hg (Kd.R_ne HO_206001.1 BK198.1 (by decide))); replace BK205 := zM (blk_grown (g := gb205) (o := .cells #[.string t202, u206001, u206002] 49 (0, 0)) zPq hg (Kd.R_ne HO_206001.1 BK205.1 (by decide))); replace BK216 := zM (blk_grown (g := gb216) (o := .cells #[.int .i64 t209, .int .i64 t210, .int .i64 t211, .int .i64 t212, .int .i64 t213] 57 (0, 0)) (by exact zp5 (zK BK216.1)) hg (Kd.R_away HO_206001.1 (fun _ hk => hk.2))); replace HB := zM (below_weaken zB7 HL.1 hb); replace HI0 := zM (IsS104.grown (show IsS104 w0 _ g s0_0 t214 t215 from zB28) hg (IsS104.own_ne HI0.1 HO_206001.1 (by decide))); replace HK := zM (KeepBut.trans zB8 (KeepBut.of_grown hg g) (Kd.R_base2 HO_206001.1)); have HO219 := zM ho; clear HO_206001; clear ho hb hg hat; obtain ⟨Ao57, co57, eo57⟩ := Kd.R_slice HO219.1; subst eo57; have hcz58 := zc_3 (w := w56) BK205.1; have hcz59 := zc_5 (w := w56) BK216.1) | ((with_reducible refine zG Try.func68 26 #[.agg #[.int .i64 t209, .int .i64 t210, .int .i64 t211, .int .i64 t212, .int .i64 t213]] ?_); (with_reducible refine (spec_l27Goes.calls t209 t210 t211 t212 t213 true _ A16.1).mono ?_); rintro e w60 ⟨rfl, hb⟩; refine ⟨_, rfl, ?_⟩; replace HO_206002 := zM (Kd.R_below (by refine zrR ?_; exact (Kd.R_mono (zfR (Kd.R_types HO_206002.1 BK205.1 (by decide))) (fun _ h_ => h_.1))) hb); replace HO219 := zM (Kd.R_below (by refine zrR ?_; exact (Kd.R_mono (zfR (Kd.R_types HO219.1 BK205.1 (by decide))) (fun _ h_ => h_.1))) hb); replace BK198 := zM (zf BK198.1 hb); replace BK205 := zM (blk_below (g := gb205) (o := .cells #[.string t202, .slice Ao57 y217.length co57, u206002] 49 (0, 0)) zPq hb); replace BK216 := zM (zf BK216.1 hb); replace HK := zM (KeepBut.trans zB8 (KeepBut.of_below hb g none) (.inl rfl)); replace HB := zM (below_step zB7 hb); replace HI0 := zM (IsS104.below (show IsS104 w0 (w56.setCell ⟨gb205, 1, none⟩ (.slice Ao57 y217.length co57)) g s0_0 t214 t215 from zB28) hb); clear hb) | (go_at_call 41; (with_reducible refine (spec_l1Once.calls g s0_0 t214 t215 2 false t222 t223 w0 _ ?side1 ?side2 A18.1).mono ?_); (case side1 => exact zB28); (case side2 => exact zB7); rintro e w61 ⟨rfl, hi, hb, hk⟩; replace HO_206002 := zM (Kd.R_mono (Kd.R_keep (IsS104.apart (show IsS104 w0 _ g s0_0 t214 t215 from zB28) (zR HO_206002.1) (by decide)) hk (fun _ h => h.2)) (fun _ h => h.1)); replace BK198 := zM (zh hk BK198.1 NB198_0.1); replace BK205 := zM (zh hk BK205.1 NB205_0.1); replace BK216 := zM (zh hk BK216.1 NB216_0.1); replace HO219 := zM (Kd.R_mono (Kd.R_keep (IsS104.apart (show IsS104 w0 _ g s0_0 t214 t215 from zB28) (zR HO219.1) (by decide)) hk (fun _ h => h.2)) (fun _ h => h.1)); replace HK := zM (KeepBut.trans zB8 hk (.inl rfl)); replace HB := zM hb; replace HI0 := zM hi; clear hb hk hi))
    go_roundg k1
    case measure => have := HK1.1; omega
    case rel => exact ⟨(wrap64 (x4_1 + 1)), (t222), (t223), (y217), (x206002_1), (.slice Ao57 y217.length co57), (u206002), zJJ, H', ⟨by have := HK1.1; omega⟩, ⟨by refine zrR ?_; exact Kd.R_mono HO219.1 (fun _ hk => trivial)⟩, ⟨zR HO_206002.1⟩, ⟨zK BK198.1⟩, ⟨zK BK205.1⟩, ⟨zB28⟩, ⟨zB8⟩, ⟨zB7⟩⟩
   subst c19
   rw [if_pos rfl] at H
   generalize hy224 : ((([(⟨#[109, 97, 105, 110]⟩ : ByteArray), (⟨#[108, 111, 111, 112]⟩ : ByteArray), (⟨#[101, 110, 100]⟩ : ByteArray)] : List ByteArray)) : List ByteArray) = y224 at H
   have Ny224 := zM hy224.symm
   clear hy224
   replace H := zO H
   obtain ⟨⟨t227, t228, t229⟩, A20, H⟩ := H
   try dsimp only at H
   replace H := zIn H
   obtain ⟨LMc21, H⟩ := H
   generalize hy230 : ((x206002_1 ++ [(⟨x4_1, t227⟩ : S61)]) : List (S61)) = y230 at H
   have Ny230 := zM hy230.symm
   clear hy230
   have H' := zM H
   clear H
   try go_wp2_with (first | ((with_reducible refine zG Try.func43 12 #[.pointer (some ⟨g, 0, none⟩), .int .i64 5] ?_); (with_reducible refine (spec_l1Below.calls g s0_0 x1001_1 x1002_1 5 t206 t207 t208 w0 _ ?side1 ?side2 A12.1).mono ?_); (case side1 => exact zB24); (case side2 => exact zB7); rintro e w22 ⟨rfl, hi, hb, hk⟩; refine ⟨_, rfl, ?_⟩; replace HO_206001 := zM (Kd.R_mono (Kd.R_keep (IsS104.apart (show IsS104 w0 _ g s0_0 x1001_1 x1002_1 from zB24) (zR HO_206001.1) (by decide)) hk (fun _ h => h.2)) (fun _ h => h.1)); replace HO_206002 := zM (Kd.R_mono (Kd.R_keep (IsS104.apart (show IsS104 w0 _ g s0_0 x1001_1 x1002_1 from zB24) (zR HO_206002.1) (by decide)) hk (fun _ h => h.2)) (fun _ h => h.1)); replace BK198 := zM (zh hk BK198.1 NB198_0.1); replace BK205 := zM (zh hk BK205.1 NB205_0.1); replace HK := zM (KeepBut.trans zB8 hk (.inl rfl)); replace HB := zM hb; replace HI0 := zM hi; clear hb hk hi) | ((with_reducible refine zG Try.func93 18 #[.pointer (some ⟨g, 0, none⟩)] ?_); (with_reducible refine (spec_l8DrawIns.calls k1 g s0_0 t207 t208 t209 t210 t211 t212 t213 t214 t215 w0 _ ?side1 ?side2 A14.1).mono ?_); (case side1 => exact zB24); (case side2 => exact zB7); rintro e w23 ⟨rfl, hi, hb, hk⟩; refine ⟨_, rfl, ?_⟩; replace HO_206001 := zM (Kd.R_mono (Kd.R_keep (IsS104.apart (show IsS104 w0 _ g s0_0 t207 t208 from zB24) (zR HO_206001.1) (by decide)) hk (fun _ h => h.2)) (fun _ h => h.1)); replace HO_206002 := zM (Kd.R_mono (Kd.R_keep (IsS104.apart (show IsS104 w0 _ g s0_0 t207 t208 from zB24) (zR HO_206002.1) (by decide)) hk (fun _ h => h.2)) (fun _ h => h.1)); replace BK198 := zM (zh hk BK198.1 NB198_0.1); replace BK205 := zM (zh hk BK205.1 NB205_0.1); replace HK := zM (KeepBut.trans zB8 hk (.inl rfl)); replace HB := zM hb; replace HI0 := zM hi; clear hb hk hi) | ((with_reducible refine zBx 5 57 #[.int .i64 0, .int .i64 0, .int .i64 0, .int .i64 0, .int .i64 0] ?_); intro gb216 hg w24 hbox hb; replace HO_206001 := zM (Kd.R_below (Kd.R_elderB (zR HO_206001.1) gb216 (Nat.le_of_eq hg.symm)) hb); replace HO_206002 := zM (Kd.R_below (zR HO_206002.1) hb); replace HB := zM (below_step zB7 hb); have BK216 := zM hbox; have GW216 := zM ((by rw [hg]; exact (keep_size (w := w) (g := g) (row := none) zB8) : w.heap.size ≤ gb216)); have GE216 := zM ((Nat.le_trans HW0.1 (by rw [hg]; exact (keep_size (w := w) (g := g) (row := none) zB8) : w.heap.size ≤ gb216) : w0.heap.size ≤ gb216)); replace HK := zM (KeepBut.trans zB8 (KeepBut.of_below hb g none) (.inl rfl)); have NB198_216 := zM ((zn BK198.1 hg : gb198 ≠ gb216)); have NB216_198 := zM ((zm BK198.1 hg : gb216 ≠ gb198)); replace BK198 := zM (zb BK198.1 hb); have NB205_216 := zM ((zn BK205.1 hg : gb205 ≠ gb216)); have NB216_205 := zM ((zm BK205.1 hg : gb216 ≠ gb205)); replace BK205 := zM (zb BK205.1 hb); have NB0_216 := zM ((by rw [hg]; exact Nat.ne_of_lt (IsS104.lt (show IsS104 w0 _ g s0_0 t214 t215 from zB24)) : g ≠ gb216)); have NB216_0 := zM ((by rw [hg]; exact Nat.ne_of_gt (IsS104.lt (show IsS104 w0 _ g s0_0 t214 t215 from zB24)) : gb216 ≠ g)); replace HI0 := zM (IsS104.below zB24 hb); clear hb hbox hg; have hnb25 := NB216_198.1; have hnc25 := NB198_216.1; have hnb26 := NB216_205.1; have hnc26 := NB205_216.1; have hnb27 := NB216_0.1; have hnc27 := NB0_216.1; have hcz28 := zc_5 (w := w24) BK216.1; have hnb29 := NB205_198.1; have hnc29 := NB198_205.1; have hnb30 := NB205_0.1; have hnc30 := NB0_205.1; have hcz31 := zc_3 (w := w24) BK205.1) | ((with_reducible refine gate_builtin (b := .append) (xs := #[.tmp 20, .tmp 22]) rfl ?_); at_builtin; refine Kd.R_append k57 w.heap.size rfl (.tmp 20) (.tmp 22) 46 57 (.agg #[(.int .i64 0), (.int .i64 0), (.int .i64 0), (.int .i64 0), (.int .i64 0)]) 40 rfl Try.underlying46 info57 rfl (by decide) (by omega) u206001 x206001_1 (⟨t209, t210, t211, t212, t213⟩ : S57) [.int .i64 t209, .int .i64 t210, .int .i64 t211, .int .i64 t212, .int .i64 t213] (fun k_ => k_ ≠ gb216) (fun _ => False) rfl (by first | (go_simp; done) | (go_simp; rfl)) ?aP (fun _ hk => hk.elim) ?aF ?aO (Below.refl _ _) ?aS ?aL ?_; (case aP => exact k57_mkM _ _ _ (⟨t209, t210, t211, t212, t213⟩ : S57)); (case aF => exact (fun k_ hk => Kd.freshB (g := gb216) (o := .cells #[.int .i64 t209, .int .i64 t210, .int .i64 t211, .int .i64 t212, .int .i64 t213] 57 (0, 0)) (by exact zp5 (zK BK216.1)) k_ hk)); (case aO => exact (by refine zrR ?_; exact Kd.R_mono (zfR (zfR (zfR (zfR (zfR (Kd.R_mono HO_206001.1 (fun k_ hk => (⟨hk, hk.2⟩ : _ ∧ k_ ≠ gb216)))))))) (fun _ hk => hk.1.2))); (case aS => exact (keep_size (w := w) (g := g) (row := none) zB8)); (case aL => have := LMc15.out; omega); intro v218 w32 ho hb hg hat; rw [← Ny217.1] at ho; replace HO_206002 := zM (Kd.R_over' (by refine zrR ?_; exact (Kd.R_mono (zfR (zfR (zfR (zfR (zfR (Kd.R_types HO_206002.1 BK216.1 (by decide))))))) (fun _ h_ => h_.1))) (Kd.R_typed (by refine zrR ?_; exact (Kd.R_mono (zfR (zfR (zfR (zfR (zfR (Kd.R_mono HO_206001.1 (fun k_ hk => (⟨hk, hk.2⟩ : _ ∧ k_ ≠ gb216)))))))) (fun _ h_ => h_.1)))) (by decide) hg); replace BK198 := zM (blk_grown (g := gb198) (o := .cells #[.string (⟨#[]⟩ : ByteArray), .slice none 0 0, .slice none 0 0] 49 (0, 0)) zPq hg (Kd.R_ne HO_206001.1 BK198.1 (by decide))); replace BK205 := zM (blk_grown (g := gb205) (o := .cells #[.string t202, u206001, u206002] 49 (0, 0)) zPq hg (Kd.R_ne HO_206001.1 BK205.1 (by decide))); replace BK216 := zM (blk_grown (g := gb216) (o := .cells #[.int .i64 t209, .int .i64 t210, .int .i64 t211, .int .i64 t212, .int .i64 t213] 57 (0, 0)) (by exact zp5 (zK BK216.1)) hg (Kd.R_away HO_206001.1 (fun _ hk => hk.2))); replace HB := zM (below_weaken zB7 HL.1 hb); replace HI0 := zM (IsS104.grown (show IsS104 w0 _ g s0_0 t214 t215 from zB28) hg (IsS104.own_ne HI0.1 HO_206001.1 (by decide))); replace HK := zM (KeepBut.trans zB8 (KeepBut.of_grown hg g) (Kd.R_base2 HO_206001.1)); have HO219 := zM ho; clear HO_206001; clear ho hb hg hat; obtain ⟨Ao33, co33, eo33⟩ := Kd.R_slice HO219.1; subst eo33; have hcz34 := zc_3 (w := w32) BK205.1; have hcz35 := zc_5 (w := w32) BK216.1) | ((with_reducible refine zG Try.func68 26 #[.agg #[.int .i64 t209, .int .i64 t210, .int .i64 t211, .int .i64 t212, .int .i64 t213]] ?_); (with_reducible refine (spec_l27Goes.calls t209 t210 t211 t212 t213 true _ A16.1).mono ?_); rintro e w36 ⟨rfl, hb⟩; refine ⟨_, rfl, ?_⟩; replace HO_206002 := zM (Kd.R_below (by refine zrR ?_; exact (Kd.R_mono (zfR (Kd.R_types HO_206002.1 BK205.1 (by decide))) (fun _ h_ => h_.1))) hb); replace HO219 := zM (Kd.R_below (by refine zrR ?_; exact (Kd.R_mono (zfR (Kd.R_types HO219.1 BK205.1 (by decide))) (fun _ h_ => h_.1))) hb); replace BK198 := zM (zf BK198.1 hb); replace BK205 := zM (blk_below (g := gb205) (o := .cells #[.string t202, .slice Ao33 y217.length co33, u206002] 49 (0, 0)) zPq hb); replace BK216 := zM (zf BK216.1 hb); replace HK := zM (KeepBut.trans zB8 (KeepBut.of_below hb g none) (.inl rfl)); replace HB := zM (below_step zB7 hb); replace HI0 := zM (IsS104.below (show IsS104 w0 (w32.setCell ⟨gb205, 1, none⟩ (.slice Ao33 y217.length co33)) g s0_0 t214 t215 from zB28) hb); clear hb) | (go_at_call 41; (with_reducible refine (spec_l1Once.calls g s0_0 t214 t215 2 true t222 t223 w0 _ ?side1 ?side2 A18.1).mono ?_); (case side1 => exact zB28); (case side2 => exact zB7); rintro e w37 ⟨rfl, hi, hb, hk⟩; replace HO_206002 := zM (Kd.R_mono (Kd.R_keep (IsS104.apart (show IsS104 w0 _ g s0_0 t214 t215 from zB28) (zR HO_206002.1) (by decide)) hk (fun _ h => h.2)) (fun _ h => h.1)); replace BK198 := zM (zh hk BK198.1 NB198_0.1); replace BK205 := zM (zh hk BK205.1 NB205_0.1); replace BK216 := zM (zh hk BK216.1 NB216_0.1); replace HO219 := zM (Kd.R_mono (Kd.R_keep (IsS104.apart (show IsS104 w0 _ g s0_0 t214 t215 from zB28) (zR HO219.1) (by decide)) hk (fun _ h => h.2)) (fun _ h => h.1)); replace HK := zM (KeepBut.trans zB8 hk (.inl rfl)); replace HB := zM hb; replace HI0 := zM hi; clear hb hk hi))
   replace HO_206002 := zM (Kd.R_drew HO_206002.1)
   replace HO219 := zM (Kd.R_drew HO219.1)
   replace BK198 := zM (blk_drew BK198.1)
   replace BK205 := zM (blk_drew BK205.1)
   replace BK216 := zM (blk_drew BK216.1)
   replace HI0 := zM (IsS104.drew HI0.1)
   replace HK := zM (keep_drew HK.1)
   replace HB := zM (below_drew1 HB.1)
   refine start_ (n := 11) (S := fun w' => w'.cell? ⟨gb205, 0, none⟩ = some (.string t202) ∧ w'.cell? ⟨gb205, 1, none⟩ = some (.slice Ao33 y217.length co33) ∧ w'.cell? ⟨gb205, 2, none⟩ = some (u206002)) (ds := [10]) #[false, false, false, false, false, false, false, false, false, false, false] (by kernel_rfl) rfl rfl ⟨(blk_cell BK205.1 0).trans rfl, (blk_cell BK205.1 1).trans rfl, (blk_cell BK205.1 2).trans rfl⟩ (fun hHeld => ?_); refine with_tabW spec_l27DrawPart.tab8 spec_l27DrawPart.bits8 (fun HT_ HW_ => ?_)
   generalize w37.drew = w38 at HO_206002 HO219 BK198 BK205 BK216 HI0 HK HB hHeld ⊢
   refine zPu 0 ?_
   refine zPu 2 ?_
   refine zPu 3 ?_
   refine zTk3 1 hHeld ?_
   refine zOn 4 (some 35) fun K hK => ?_
   refine Kd.R_lit_step Kd.string _ 9 ?hg (N := 35) ?hd (xs := ([(⟨#[109, 97, 105, 110]⟩ : ByteArray), (⟨#[108, 111, 111, 112]⟩ : ByteArray), (⟨#[101, 110, 100]⟩ : ByteArray)] : List ByteArray)) (inner := [.string (⟨#[109, 97, 105, 110]⟩ : ByteArray), .string (⟨#[108, 111, 111, 112]⟩ : ByteArray), .string (⟨#[101, 110, 100]⟩ : ByteArray)]) (ok := fun _ => True) (okp := fun _ => True) ?hr ?hp (fun _ hk => hk) trivial (Below.refl _ _) (Nat.le_refl _) (by simp) ?_; (case hd => rfl); (case hg => rfl); (case hr => exact zHH); (case hp => exact (Reps.one (show Kd.M Kd.string _ _ _ (⟨#[109, 97, 105, 110]⟩ : ByteArray) [.string (⟨#[109, 97, 105, 110]⟩ : ByteArray)] from rfl) (Reps.one (show Kd.M Kd.string _ _ _ (⟨#[108, 111, 111, 112]⟩ : ByteArray) [.string (⟨#[108, 111, 111, 112]⟩ : ByteArray)] from rfl) (Reps.one (show Kd.M Kd.string _ _ _ (⟨#[101, 110, 100]⟩ : ByteArray) [.string (⟨#[101, 110, 100]⟩ : ByteArray)] from rfl) (Reps.none _ _)))))
   intro v225 w39 ho40 hb hg_ hnew_
   clear hg_ hnew_
   (first | rw [← Ny224.1] at ho40 | (simp only [Int.reduceToNat] at ho40; rw [← Ny224.1] at ho40))
   have n0_ := zM (Kd.R_below (zR HO_206002.1) hb)
   have n1_ := zM (Kd.R_below (zR HO219.1) hb)
   have n2_ := zM (Kd.R_lower ho40 (keep_size (w := w) (g := g) (row := none) zB8))
   have n3_ := zM (zb BK198.1 hb)
   have n4_ := zM (zb BK205.1 hb)
   have n5_ := zM (IsS104.below zB28 hb)
   have n6_ := zM (zb BK216.1 hb)
   have n7_ := zM (KeepBut.trans zB8 (KeepBut.of_below hb g none) (.inl rfl))
   have n8_ := zM (below_step zB7 hb)
   clear HO_206002 HO219 BK198 BK205 HI0 BK216 HK HB
   have HO_206002 := n0_
   have HO219 := n1_
   have HO226 := n2_
   have BK198 := n3_
   have BK205 := n4_
   have HI0 := n5_
   have BK216 := n6_
   have HK := n7_
   have HB := n8_
   clear n0_ n1_ n2_ n3_ n4_ n5_ n6_ n7_ n8_ hb ho40
   obtain ⟨Ao41, co41, eo41⟩ := Kd.R_slice HO226.1
   (first | subst eo41 | (injection eo41 with f1_ f2_ f3_; have f4_ := f1_.symm; have f5_ := f3_.symm; clear f1_ f2_ f3_; subst f4_; subst f5_))
   refine hK.out _ _ zCs fun hHeld => ?_
   clear hK K
   refine zNo ?_
   refine zOn 5 (some 36) fun K hK => ?_
   refine zGs Try.func59 #[.pointer (some ⟨g, 0, none⟩), .slice Ao41 y224.length co41] ?_
   with_reducible refine (spec_l1Pick.calls g s0_0 t222 t223 _ _ y224 t227 t228 t229 w0 _ ?side1 ?side2 ?side3 ?side4 ?side5 A20.1).mono ?_
   (case side1 => exact zB28)
   (case side2 => exact zB7)
   (case side3 => exact zC (Kd.R_reads' HO226.1).2.2)
   (case side4 => exact (Kd.R_reads' HO226.1).2.1)
   (case side5 => exact far_slice (IsS104.own_ne HI0.1 HO226.1 (by decide)))
   rintro e w42 ⟨rfl, hi, hb, hk⟩
   refine ⟨_, rfl, ?_⟩
   replace HO_206002 := zM (Kd.R_mono (Kd.R_keep (IsS104.apart (show IsS104 w0 _ g s0_0 t222 t223 from zB28) (zR HO_206002.1) (by decide)) hk (fun _ h => h.2)) (fun _ h => h.1))
   replace BK198 := zM (zh hk BK198.1 NB198_0.1)
   replace BK205 := zM (zh hk BK205.1 NB205_0.1)
   replace BK216 := zM (zh hk BK216.1 NB216_0.1)
   replace HO219 := zM (Kd.R_mono (Kd.R_keep (IsS104.apart (show IsS104 w0 _ g s0_0 t222 t223 from zB28) (zR HO219.1) (by decide)) hk (fun _ h => h.2)) (fun _ h => h.1))
   replace HO226 := zM (Kd.R_mono (Kd.R_keep (IsS104.apart (show IsS104 w0 _ g s0_0 t222 t223 from zB28) (zR HO226.1) (by decide)) hk (fun _ h => h.2)) (fun _ h => h.1))
   replace HK := zM (KeepBut.trans zB8 hk (.inl rfl))
   replace HB := zM hb
   replace HI0 := zM hi
   refine hK.out _ _ zCs fun hHeld => ?_
   clear hK K
   refine zNo ?_
   refine zPu 6 ?_
   refine zOn 7 (some 38) fun K hK => ?_
   refine value_ (w1 := ?_) (v := ?_) (by rfl) rfl ?_ ?_
   rotate_left 2
   ·go_simp
    constructor
    ·rfl
    ·rfl
   refine hK.out _ _ ⟨(blk_cell (blk_alloc BK205.1 _) 0).trans rfl, (blk_cell (blk_alloc BK205.1 _) 1).trans rfl, (blk_cell (blk_alloc BK205.1 _) 2).trans rfl⟩ (fun hHeld => ?_)
   clear hK K
   refine zNo ?_
   refine zOn 8 (some 39) fun K hK => ?_
   refine Kd.R_append_step k61 w.heap.size (by rfl) (.tmp 32) (.tmp 38) 47 61 (.agg #[(.int .i64 0), (.string ⟨#[]⟩)]) 24 rfl Try.underlying47 info61 rfl (by decide) (by omega) u206002 x206002_1 (⟨x4_1, t227⟩ : S61) [.int .i64 x4_1, .string t227] (fun _ => True) (fun _ => False) rfl rfl ?aP (fun _ hk => hk.elim) ?aF ?aO (Below.refl _ _) ?aS ?aL ?_
   (case aP => exact k61_mkM _ _ _ (⟨x4_1, t227⟩ : S61))
   (case aF => exact (fun _ _ => trivial))
   (case aO => exact (zR HO_206002.1))
   (case aS => exact (keep_size (w := w) (g := g) (row := none) zB8))
   (case aL => have := LMc21.out; omega)
   intro v231 w43 ho hb hg hat
   rw [← Ny230.1] at ho
   have n0_ := zM (zg BK198.1 hg (Kd.R_ne HO_206002.1 BK198.1 (by decide)))
   have n1_ := zM (zg BK205.1 hg (Kd.R_ne HO_206002.1 BK205.1 (by decide)))
   have n2_ := zM (IsS104.grown zB28 hg (IsS104.own_ne HI0.1 HO_206002.1 (by decide)))
   have n3_ := zM (zg BK216.1 hg (Kd.R_ne HO_206002.1 BK216.1 (by decide)))
   have n4_ := zM (Kd.R_over' (zR HO219.1) (Kd.R_typed (zR HO_206002.1)) (by decide) hg)
   have n5_ := zM (Kd.R_over' (zR HO226.1) (Kd.R_typed (zR HO_206002.1)) (by decide) hg)
   have n6_ := zM (below_weaken zB7 HL.1 hb)
   have n7_ := zM (KeepBut.trans zB8 (KeepBut.of_grown hg g) (Kd.R_base2 HO_206002.1))
   have n8_ := zM ho
   clear BK198 BK205 HI0 BK216 HO219 HO226 HB HK HO_206002
   have BK198 := n0_
   have BK205 := n1_
   have HI0 := n2_
   have BK216 := n3_
   have HO219 := n4_
   have HO226 := n5_
   have HB := n6_
   have HK := n7_
   have HO232 := n8_
   clear n0_ n1_ n2_ n3_ n4_ n5_ n6_ n7_ n8_ ho hb hg hat
   obtain ⟨Ao44, co44, eo44⟩ := Kd.R_slice HO232.1
   (first | subst eo44 | (injection eo44 with f1_ f2_ f3_; have f4_ := f1_.symm; have f5_ := f3_.symm; clear f1_ f2_ f3_; subst f4_; subst f5_))
   refine hK.out _ _ zCs fun hHeld => ?_
   clear hK K
   refine zNo ?_
   refine zPu 9 ?_
   refine last_ (i := 10) (N := none) #[true, true, true, true, true, true, true, true, true, true, true] rfl rfl (one_of HT_.1 (by kernel_rfl)) (by decide) (fun K hK => ?_)
   obtain ⟨hs45, hfs45⟩ := zHs BK205.1 2
   have hns45_0 := NB198_205.1
   have hns45_2 := NB216_205.1
   have hms45_0 := NB205_198.1
   have hms45_2 := NB205_216.1
   refine skip_ (w1 := ?_) (by rfl) rfl ?_ ?_
   rotate_left
   ·go_simp
    rfl
   refine hK.out _ _ ?_
   clear hK K
   refine done_ (done_of HT_.1 (by kernel_rfl)) ?_
   try go_wp2
   go_roundg k1
   case measure => have := HK1.1; omega
   case rel => exact ⟨(wrap64 (x4_1 + 1)), (t228), (t229), (y217), (y230), (.slice Ao33 y217.length co33), (.slice Ao44 y230.length co44), zJJ, H', ⟨by have := HK1.1; omega⟩, ⟨by refine zrR ?_; exact Kd.R_mono (zfR (Kd.R_types HO219.1 BK205.1 (by decide))) (fun _ hk => trivial)⟩, ⟨by refine zrR ?_; exact Kd.R_mono (zfR (Kd.R_types HO232.1 BK205.1 (by decide))) (fun _ hk => trivial)⟩, ⟨by refine zP ?_; refine blk_far ?_ NB198_205.1 _; refine zP ?_; exact BK198.1⟩, ⟨by refine zP ?_; refine blk_put (cs := #[.string t202, .slice Ao33 y217.length co33, u206002]) ?_ 2 _ rfl; refine zP ?_; exact BK205.1⟩, ⟨zB28⟩, ⟨zB8⟩, ⟨zB7⟩⟩

end Go.Proofs.Ytaakcbgpmabaaaa.PFnLinked
