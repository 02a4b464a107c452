-- made by wip/tools/myprint.py out of the seat's translation
import Derived.Test.YtaakcbgpmabaaaaPFnLinkedx0
import Derived.Test.YtaakcbgpmabaaaaPFnLinkedx5
import Derived.Test.YtaakcbgpmabaaaaPFnLinkedx6
namespace Go.Proofs.Ytaakcbgpmabaaaa.PFnLinked
open Go.RowKit Go.Proofs.YtaakcbgpmabaaaaW.PrintWords Go.Proofs.YtaakcbgpmabaaaaW.PrintLast Go.Proofs.YtaakcbgpmabaaaaW.PrintMore
attribute [local go_sem] max2_int min2_int max_two min_two max_three min_three max_four min_four   -- for this text's walks alone
set_option linter.unusedVariables false
set_option linter.unusedSimpArgs false
set_option maxHeartbeats 8000000
set_option maxRecDepth 100000
abbrev zq7_0 : Array Bool := #[false, false, false, false, false, false, false, false, false, false, false, false, false, false, false, false, false, false, false, false, false, false, false, false, false, false, false, false, false, false, false, false, false]

/-! ### impl_PartOk: function 26 -/
mutual
def impl_PartOk.j0 : Nat → Bool → ByteArray → List (S57) → List (S61) → Option (Bool)
 | 0, _, _, _, _ => none
 | k + 1, x26, x310000, x310001, x310002 => if x26 = true then (some false) else (impl_PartOk.l0 k x310002 (x310002.length : Int) 0 x310000 x310001 x310002)
def impl_PartOk.l0 : Nat → List (S61) → Int → Int → ByteArray → List (S57) → List (S61) → Option (Bool)
 | 0, _, _, _, _, _, _ => none
 | k + 1, x28, x29, x30, x310000, x310001, x310002 => if x30 < x29 then (if 0 ≤ x30 then (if x30 < (x28.length : Int) then ((impl_from.f ((rd_T61 x28 x30).f0) 0 (wrap64 ((x310001.length : Int) - 1))).bind fun t315 => (if t315 = true then (if x30 ≤ (x310002.length : Int) then ((impl_isRef.f (x310002.take (x30 : Int).toNat) ((rd_T61 x28 x30).f0)).bind fun t320 => (if t320 = true then (some false) else (if 0 ≤ ((rd_T61 x28 x30).f0) then (if ((rd_T61 x28 x30).f0) < (x310001.length : Int) then ((impl_goesTo.f ((rd_T57 x310001 ((rd_T61 x28 x30).f0)).f0) ((rd_T57 x310001 ((rd_T61 x28 x30).f0)).f1) ((rd_T57 x310001 ((rd_T61 x28 x30).f0)).f2) ((rd_T57 x310001 ((rd_T61 x28 x30).f0)).f3) ((rd_T57 x310001 ((rd_T61 x28 x30).f0)).f4)).bind fun t322 => (if t322 = true then ((impl_nameOk.f k ((rd_T61 x28 x30).f1)).bind fun t323 => (if t323 = true then (impl_PartOk.l0 k x28 x29 (wrap64 (x30 + 1)) x310000 x310001 x310002) else (some false))) else (some false))) else (none)) else (none)))) else (none)) else (some false))) else (none)) else (none)) else (some true)
end
def impl_PartOk.f (k : Nat) (a0_0 : ByteArray) (l0_1 : List (S57)) (l0_2 : List (S61)) : Option (Bool) := (impl_nameOk.f k a0_0).bind fun t310 => (if t310 = true then ((impl_from.f (l0_1.length : Int) 1 24).bind fun t311 => (if t311 = true then (if (l0_2.length : Int) > 24 then (impl_PartOk.j0 k true a0_0 l0_1 l0_2) else ((slices_ContainsFunc_at_impl_PartOk_1.f k l0_1 0).bind fun t312 => (impl_PartOk.j0 k t312 a0_0 l0_1 l0_2))) else (impl_PartOk.j0 k true a0_0 l0_1 l0_2))) else (impl_PartOk.j0 k true a0_0 l0_1 l0_2))
theorem impl_PartOk.mono_l : ∀ k, (∀ y0 y1 y2 y3, LeO (impl_PartOk.j0 k y0 y1 y2 y3) (impl_PartOk.j0 (k + 1) y0 y1 y2 y3)) ∧ (∀ y0 y1 y2 y3 y4 y5, LeO (impl_PartOk.l0 k y0 y1 y2 y3 y4 y5) (impl_PartOk.l0 (k + 1) y0 y1 y2 y3 y4 y5))
 | 0 => ⟨fun _ _ _ _ r h => by simp [impl_PartOk.j0] at h, fun _ _ _ _ _ _ r h => by simp [impl_PartOk.l0] at h⟩
 | k + 1 => by
  obtain ⟨ih0, ih1⟩ := impl_PartOk.mono_l k
  refine ⟨?_, ?_⟩
  ·intros
   unfold impl_PartOk.j0
   have mo0 := @impl_nameOk.mono
   have mo1 := @slices_ContainsFunc_at_impl_PartOk_1.mono
   exact zL
  ·intros
   unfold impl_PartOk.l0
   have mo0 := @impl_nameOk.mono
   have mo1 := @slices_ContainsFunc_at_impl_PartOk_1.mono
   exact zL
theorem impl_PartOk.mono : ∀ a0 a1 a2 k, LeO (impl_PartOk.f k a0 a1 a2) (impl_PartOk.f (k + 1) a0 a1 a2) := by
 intro a0 a1 a2 k
 obtain ⟨ih0, ih1⟩ := impl_PartOk.mono_l k
 unfold impl_PartOk.f
 have mo0 := @impl_nameOk.mono
 have mo1 := @slices_ContainsFunc_at_impl_PartOk_1.mono
 exact zL
def impl_PartOk.T6 : Bool × List (List Nat × List Nat) := (true, [([], []), ([0], [0]), ([], []), ([2], [2]), ([3], [3]), ([4], [4]), ([1, 5], [1, 5]), ([6], [6]), ([7, 6], [7]), ([8], [8]), ([9, 8], [8, 9]), ([8], [8]), ([10, 11, 8], [8, 10, 11]), ([8], [8]), ([13, 8], [8, 13]), ([12, 14, 8, 8], [8, 12, 14]), ([8, 15], [8, 15]), ([16, 15], [16]), ([17], [17]), ([18, 17], [17, 18]), ([17], [17]), ([20, 17], [17, 20]), ([19, 21, 17], [17, 19, 21]), ([22, 17], [17, 22]), ([23, 17, 17], [17, 23]), ([24, 17], [17, 24]), ([17, 25], [17, 25]), ([26, 24], [26]), ([27], [27]), ([28, 27], [27, 28]), ([29, 27, 27], [27, 29]), ([30, 27], [27, 30]), ([27, 31], [27, 31])])
def impl_PartOk.B6 : List Nat := [0, 1, 0, 4, 12, 28, 63, 127, 255, 511, 1023, 511, 4095, 511, 8703, 32767, 65535, 131071, 262143, 524287, 262143, 1310719, 4194303, 8388607, 16777215, 33554431, 67108863, 134217727, 268435455, 536870911, 1073741823, 2147483647, 4294967295]
theorem impl_PartOk.tab6 : rtab .any (opsOf Try.f26 6) = impl_PartOk.T6 := by kernel_rfl
theorem impl_PartOk.bits6 : waitsOk impl_PartOk.T6.2 impl_PartOk.B6 = true := by kernel_rfl
theorem impl_PartOk.calls (k : Nat) (a0_0 : ByteArray) (A0_1 : Option Addr) (c0_1 : Nat) (l0_1 : List (S57)) (A0_2 : Option Addr) (c0_2 : Nat) (l0_2 : List (S61)) (r : Bool) (w : World) (hr0_1 : Kd.C k57 w A0_1 l0_1.length l0_1) (hc0_1 : l0_1.length ≤ c0_1) (hr0_2 : Kd.C k61 w A0_2 l0_2.length l0_2) (hc0_2 : l0_2.length ≤ c0_2) (h : impl_PartOk.f k a0_0 l0_1 l0_2 = some r) :
  Calls Try.prog 26 #[.agg #[.string a0_0, .slice A0_1 l0_1.length c0_1, .slice A0_2 l0_2.length c0_2]] w fun e w' => e = .returned (.bool r) ∧ Below w.heap.size w w' := by
 have hu49 := Try.underlying49
 have hu61 := Try.underlying61
 have hu57 := Try.underlying57
 have HR0_1 := zM hr0_1
 have HC0_1 := zM hc0_1
 clear hr0_1 hc0_1
 have HR0_2 := zM hr0_2
 have HC0_2 := zM hc0_2
 clear hr0_2 hc0_2
 have HB := zM (Below.refl w.heap.size w)
 unfold impl_PartOk.f at h
 have H := h
 clear h
 have HC2 := zM H
 clear H
 go_enter Try.func26, Try.ntmps26
 go_upto_region 1 with (first | ((with_reducible refine gate_dst (N := 1) rfl ?_); (try (refine gate_guard (by rfl) ?_; dsimp only)); (with_reducible refine zBx 1 49 #[.string a0_0, .slice A0_1 l0_1.length c0_1, .slice A0_2 l0_2.length c0_2] ?_); intro gb309 hg w3 hbox hb; have BK309 := zM hbox; have GW309 := zM (zW hg (below_size zB0)); have GE309 := zM (zW hg (below_size zB0)); replace HB := zM (below_step zB0 hb); clear hb hbox hg))
 (try simp only [Act.put, List.setIfInBounds_toArray, List.set_cons_zero, List.set_cons_succ])
 go_cut [26] (fun v26 wc => ∃ (kq : Nat) (x26_1 : Bool), v26 = .bool x26_1 ∧ Aside0 (impl_PartOk.j0 kq x26_1 a0_0 l0_1 l0_2 = some r) ∧ Aside0 (kq ≤ k) ∧ Aside0 (wc.heap[gb309]? = some (.cells #[.string a0_0, (.slice A0_1 l0_1.length c0_1), (.slice A0_2 l0_2.length c0_2)] 49 (0, 0))) ∧ Aside0 (Below w.heap.size w wc))
 case first =>
  have H := HC2.1
  clear HC2
  replace H := zO H
  obtain ⟨t310, A4, H⟩ := H
  by_cases c5 : t310 = true
  rotate_left
  ·replace c5 := Bool.eq_false_iff.mpr c5
   subst c5
   rw [if_neg zF] at H
   have H' := zM H
   clear H
   have hcz14 := zc_3 (w := w3) BK309.1
   go_wp2_with (first | ((with_reducible refine zG Try.func60 7 #[.string a0_0] ?_); (with_reducible refine (impl_nameOk.calls k a0_0 false _ A4.1).mono ?_); rintro e w' ⟨rfl, ⟨nd, rfl⟩⟩; refine ⟨_, rfl, ?_⟩))
   go_meet
   case rel => exact ⟨_, (true), zJJ, H', ⟨by first | omega | exact Nat.le_refl _⟩, ⟨zK BK309.1⟩, ⟨zB0⟩⟩
  subst c5
  rw [if_pos rfl] at H
  replace H := zO H
  obtain ⟨t311, A6, H⟩ := H
  by_cases c7 : t311 = true
  rotate_left
  ·replace c7 := Bool.eq_false_iff.mpr c7
   subst c7
   rw [if_neg zF] at H
   have H' := zM H
   clear H
   have hcz13 := zc_3 (w := w3) BK309.1
   go_wp2_with (first | ((with_reducible refine zG Try.func60 7 #[.string a0_0] ?_); (with_reducible refine (impl_nameOk.calls k a0_0 true _ A4.1).mono ?_); rintro e w' ⟨rfl, ⟨nd, rfl⟩⟩; refine ⟨_, rfl, ?_⟩) | (go_at_call 37; (with_reducible refine (impl_from.calls (l0_1.length : Int) 1 24 false _ A6.1).mono ?_); rintro e w' ⟨rfl, ⟨nd, rfl⟩⟩))
   go_meet
   case rel => exact ⟨_, (true), zJJ, H', ⟨by first | omega | exact Nat.le_refl _⟩, ⟨zK BK309.1⟩, ⟨zB0⟩⟩
  subst c7
  rw [if_pos rfl] at H
  by_cases c8 : (l0_2.length : Int) > 24
  ·rw [if_pos c8] at H
   have c8b0 := decide_eq_true c8
   have c8b1 : decide (24 < l0_2.length) = true := decide_eq_true (by omega)
   clear c8
   (first | rw [c8b0] | (simp only [i64_w, i32_w]; rw [c8b0]) | skip)
   have H' := zM H
   clear H
   have hcz9 := zc_3 (w := w3) BK309.1
   go_wp2_with (first | ((with_reducible refine zG Try.func60 7 #[.string a0_0] ?_); (with_reducible refine (impl_nameOk.calls k a0_0 true _ A4.1).mono ?_); rintro e w' ⟨rfl, ⟨nd, rfl⟩⟩; refine ⟨_, rfl, ?_⟩) | (go_at_call 37; (with_reducible refine (impl_from.calls (l0_1.length : Int) 1 24 true _ A6.1).mono ?_); rintro e w' ⟨rfl, ⟨nd, rfl⟩⟩))
   go_meet
   case rel => exact ⟨_, (true), zJJ, H', ⟨by first | omega | exact Nat.le_refl _⟩, ⟨zK BK309.1⟩, ⟨zB0⟩⟩
  rw [if_neg c8] at H
  have c8b0 := decide_eq_false c8
  have c8b1 : decide (24 < l0_2.length) = false := decide_eq_false (by omega)
  clear c8
  (first | rw [c8b0] | (simp only [i64_w, i32_w]; rw [c8b0]) | skip)
  replace H := zO H
  obtain ⟨t312, A10, H⟩ := H
  have H' := zM H
  clear H
  have hcz11 := zc_3 (w := w3) BK309.1
  go_wp2_with (first | ((with_reducible refine zG Try.func60 7 #[.string a0_0] ?_); (with_reducible refine (impl_nameOk.calls k a0_0 true _ A4.1).mono ?_); rintro e w' ⟨rfl, ⟨nd, rfl⟩⟩; refine ⟨_, rfl, ?_⟩) | (go_at_call 37; (with_reducible refine (impl_from.calls (l0_1.length : Int) 1 24 true _ A6.1).mono ?_); rintro e w' ⟨rfl, ⟨nd, rfl⟩⟩) | (go_at_call 61; (with_reducible refine (slices_ContainsFunc_at_impl_PartOk_1.calls k _ _ l0_1 0 t312 _ ?side1 ?side2 A10.1).mono ?_); (case side1 => repeat (first | exact (Kd.C_below HR0_1.1 zB0) | (with_reducible refine Kd.C_alloc ?_ _) | (with_reducible refine Kd.C_drewN ?_ _) | (with_reducible refine Kd.C_drew ?_))); (case side2 => exact HC0_1.1); rintro e w12 ⟨rfl, hb⟩; replace BK309 := zM (zb BK309.1 hb); replace HB := zM (below_step zB0 hb); clear hb))
  go_meet
  case rel => exact ⟨_, (t312), zJJ, H', ⟨by first | omega | exact Nat.le_refl _⟩, ⟨zK BK309.1⟩, ⟨zB0⟩⟩
 case rest =>
  clear HC2
  obtain ⟨kq, x26_1, rfl, HA, HJ1, BK309, HB⟩ := hcut
  cases kq with
  | zero => exact absurd HA.1 (by simp [impl_PartOk.j0])
  | succ kj1 =>
   have H := HA.1
   clear HA
   simp only [impl_PartOk.j0] at H
   by_cases c15 : x26_1 = true
   ·subst c15
    rw [if_pos rfl] at H
    obtain rfl := Option.some.inj H
    go_wp2
    go_ret
    exact ⟨zE, zB0⟩
   replace c15 := Bool.eq_false_iff.mpr c15
   subst c15
   rw [if_neg zF] at H
   have H' := zM H
   clear H
   have hcz16 := zc_3 (w := wc) BK309.1
   go_wp2
   go_loopg [30] kj1 (fun kq v30 w' => ∃ (x30_2 : Int), v30 = .int .i64 x30_2 ∧ Aside0 (impl_PartOk.l0 kq l0_2 (l0_2.length : Int) x30_2 a0_0 l0_1 l0_2 = some r) ∧ Aside0 (kq ≤ kj1) ∧ Aside0 (w'.heap[gb309]? = some (.cells #[.string a0_0, (.slice A0_1 l0_1.length c0_1), (.slice A0_2 l0_2.length c0_2)] 49 (0, 0))) ∧ Aside0 (Below w.heap.size w w'))
   case atStart => exact ⟨(0), zJJ, H', ⟨Nat.le_refl _⟩, ⟨zK BK309.1⟩, ⟨zB0⟩⟩
   case round =>
    clear H'
    obtain ⟨x30_2, rfl, HA, HK2, BK309, HB⟩ := hrel
    cases gk with
    | zero => exact absurd HA.1 (by simp [impl_PartOk.l0])
    | succ k2 =>
     have H := HA.1
     clear HA
     simp only [impl_PartOk.l0] at H
     by_cases c17 : x30_2 < (l0_2.length : Int)
     rotate_left
     ·rw [if_neg c17] at H
      have c17b0 := decide_eq_false c17
      clear c17
      obtain rfl := Option.some.inj H
      go_wp2
      go_ret
      exact ⟨zE, zB0⟩
     rw [if_pos c17] at H
     have c17b0 := decide_eq_true c17
     clear c17
     replace H := zIt H
     obtain ⟨c18b0, H⟩ := H
     replace H := zIt H
     obtain ⟨c19b0, H⟩ := H
     replace H := zO H
     obtain ⟨t315, A20, H⟩ := H
     by_cases c21 : t315 = true
     rotate_left
     ·replace c21 := Bool.eq_false_iff.mpr c21
      subst c21
      rw [if_neg zF] at H
      obtain rfl := Option.some.inj H
      obtain ⟨p313, q313, ad313, e313, hx313_0, hx313_1⟩ := zRd (at_T61 HR0_2.1 x30_2)
      cases e313
      replace hx313_0 := zHx HB.1 hx313_0
      replace hx313_1 := zHx HB.1 hx313_1
      try go_wp2_with (first | ((with_reducible refine gate_dst (N := 4) rfl ?_); (try (refine gate_guard (by rfl) ?_; dsimp only)); (with_reducible refine zBx 4 61 #[.int .i64 0, .string (⟨#[]⟩ : ByteArray)] ?_); intro gb314 hg w63 hbox hb; have BK314 := zM hbox; have GW314 := zM (zW hg (below_size zB0)); have GE314 := zM (zW hg (below_size zB0)); replace HB := zM (below_step zB0 hb); have NB309_314 := zM ((zn BK309.1 hg : gb309 ≠ gb314)); have NB314_309 := zM ((zm BK309.1 hg : gb314 ≠ gb309)); replace BK309 := zM (zb BK309.1 hb); clear hb hbox hg; have hnb64 := NB314_309.1; have hnc64 := NB309_314.1; have hcz65 := zc_2 (w := w63) BK314.1))
      generalize hw_ : ((w63.setCell ⟨gb314, 0, none⟩ (.int .i64 ((rd_T61 l0_2 x30_2).f0))).setCell ⟨gb314, 1, none⟩ (.string ((rd_T61 l0_2 x30_2).f1))) = w66
      have n0_ : Aside0 (w66.heap[gb309]? = some (.cells #[.string a0_0, .slice A0_1 l0_1.length c0_1, .slice (some ad313) l0_2.length c0_2] 49 (0, 0))) := ⟨by rw [← hw_]; exact zPq⟩
      have n1_ : Aside0 (w66.heap[gb314]? = some (.cells #[.int .i64 ((rd_T61 l0_2 x30_2).f0), .string ((rd_T61 l0_2 x30_2).f1)] 61 (0, 0))) := ⟨by rw [← hw_]; exact zp2 (zK BK314.1)⟩
      have n2_ : Aside0 (Below w.heap.size w w66) := ⟨by rw [← hw_]; exact zB0⟩
      (try clear BK309)
      (try clear BK314)
      (try clear HB)
      clear hw_
      have BK309 := n0_
      have BK314 := n1_
      have HB := n2_
      clear n0_ n1_ n2_
      replace BK309 := zM (blk_drew BK309.1)
      replace BK314 := zM (blk_drew BK314.1)
      replace HB := zM (below_drew1 HB.1)
      refine start_ (n := 33) (S := fun w' => w'.cell? ⟨gb314, 0, none⟩ = some (.int .i64 ((rd_T61 l0_2 x30_2).f0)) ∧ w'.cell? ⟨gb314, 1, none⟩ = some (.string ((rd_T61 l0_2 x30_2).f1)) ∧ w'.cell? ⟨gb309, 0, none⟩ = some (.string a0_0) ∧ w'.cell? ⟨gb309, 1, none⟩ = some (.slice A0_1 l0_1.length c0_1) ∧ w'.cell? ⟨gb309, 2, none⟩ = some (.slice (some ad313) l0_2.length c0_2)) (ds := []) zq7_0 (by kernel_rfl) rfl rfl ⟨(blk_cell BK314.1 0).trans rfl, (blk_cell BK314.1 1).trans rfl, (blk_cell BK309.1 0).trans rfl, (blk_cell BK309.1 1).trans rfl, (blk_cell BK309.1 2).trans rfl⟩ (fun hHeld => ?_); refine with_tabW impl_PartOk.tab6 impl_PartOk.bits6 (fun HT_ HW_ => ?_)
      generalize w66.drew = w67 at BK309 BK314 HB hHeld ⊢
      refine zPu 0 ?_
      refine zPu 2 ?_
      refine zTk5 1 hHeld ?_
      refine zTk5 3 hHeld ?_
      refine zPu 4 ?_
      refine zPu 5 ?_
      refine zOn 6 (some 41) fun K hK => ?_
      refine zGs Try.func37 #[.int .i64 ((rd_T61 l0_2 x30_2).f0), .int .i64 0, .int .i64 (wrap64 ((l0_1.length : Int) - 1))] ?_
      with_reducible refine (impl_from.calls ((rd_T61 l0_2 x30_2).f0) 0 (wrap64 ((l0_1.length : Int) - 1)) false _ A20.1).mono ?_
      rintro e w' ⟨rfl, ⟨nd, rfl⟩⟩
      refine ⟨_, rfl, ?_⟩
      refine hK.out _ _ zCs fun hHeld => ?_
      clear hK K
      refine zNo ?_
      refine zPu 7 ?_
      refine zPu 8 ?_
      refine zPn 9 ?_
      refine zPn 10 ?_
      refine zPn 11 ?_
      refine zPn 12 ?_
      refine zPn 13 ?_
      refine zPn 14 ?_
      refine zPn 15 ?_
      refine zPu 16 ?_
      refine zPu 17 ?_
      refine zPn 18 ?_
      refine zPn 19 ?_
      refine zPn 20 ?_
      refine zPn 21 ?_
      refine zPn 22 ?_
      refine zPn 23 ?_
      refine zPn 24 ?_
      refine zPn 25 ?_
      refine zPu 26 ?_
      refine zPu 27 ?_
      refine zPn 28 ?_
      refine zPn 29 ?_
      refine zPn 30 ?_
      refine zPn 31 ?_
      refine zPu 32 ?_
      refine done_ (done_of HT_.1 (by kernel_rfl)) ?_
      try go_wp2
      go_ret
      exact ⟨zE, zB0⟩
     subst c21
     rw [if_pos rfl] at H
     have c22b0 := eq_true (zA : 0 ≤ x30_2)
     replace H := zIp H
     obtain ⟨c23, H⟩ := H
     have c23b0 := eq_true c23
     have c23b1 : decide (x30_2 ≤ (l0_2.length : Int)) = true := decide_eq_true c23
     clear c23
     generalize hy316 : ((l0_2.take (x30_2 : Int).toNat) : List (S61)) = y316 at H
     have Ny316 := zM hy316.symm
     clear hy316
     replace H := zO H
     obtain ⟨t320, A24, H⟩ := H
     by_cases c25 : t320 = true
     ·subst c25
      rw [if_pos rfl] at H
      obtain rfl := Option.some.inj H
      obtain ⟨p313, q313, ad313, e313, hx313_0, hx313_1⟩ := zRd (at_T61 HR0_2.1 x30_2)
      cases e313
      replace hx313_0 := zHx HB.1 hx313_0
      replace hx313_1 := zHx HB.1 hx313_1
      try go_wp2_with (first | ((with_reducible refine gate_dst (N := 4) rfl ?_); (try (refine gate_guard (by rfl) ?_; dsimp only)); (with_reducible refine zBx 4 61 #[.int .i64 0, .string (⟨#[]⟩ : ByteArray)] ?_); intro gb314 hg w26 hbox hb; have BK314 := zM hbox; have GW314 := zM (zW hg (below_size zB0)); have GE314 := zM (zW hg (below_size zB0)); replace HB := zM (below_step zB0 hb); have NB309_314 := zM ((zn BK309.1 hg : gb309 ≠ gb314)); have NB314_309 := zM ((zm BK309.1 hg : gb314 ≠ gb309)); replace BK309 := zM (zb BK309.1 hb); clear hb hbox hg; have hnb27 := NB314_309.1; have hnc27 := NB309_314.1; have hcz28 := zc_2 (w := w26) BK314.1))
      generalize hw_ : ((w26.setCell ⟨gb314, 0, none⟩ (.int .i64 ((rd_T61 l0_2 x30_2).f0))).setCell ⟨gb314, 1, none⟩ (.string ((rd_T61 l0_2 x30_2).f1))) = w29
      have n0_ : Aside0 (w29.heap[gb309]? = some (.cells #[.string a0_0, .slice A0_1 l0_1.length c0_1, .slice (some ad313) l0_2.length c0_2] 49 (0, 0))) := ⟨by rw [← hw_]; exact zPq⟩
      have n1_ : Aside0 (w29.heap[gb314]? = some (.cells #[.int .i64 ((rd_T61 l0_2 x30_2).f0), .string ((rd_T61 l0_2 x30_2).f1)] 61 (0, 0))) := ⟨by rw [← hw_]; exact zp2 (zK BK314.1)⟩
      have n2_ : Aside0 (Below w.heap.size w w29) := ⟨by rw [← hw_]; exact zB0⟩
      (try clear BK309)
      (try clear BK314)
      (try clear HB)
      clear hw_
      have BK309 := n0_
      have BK314 := n1_
      have HB := n2_
      clear n0_ n1_ n2_
      replace BK309 := zM (blk_drew BK309.1)
      replace BK314 := zM (blk_drew BK314.1)
      replace HB := zM (below_drew1 HB.1)
      refine start_ (n := 33) (S := fun w' => w'.cell? ⟨gb314, 0, none⟩ = some (.int .i64 ((rd_T61 l0_2 x30_2).f0)) ∧ w'.cell? ⟨gb314, 1, none⟩ = some (.string ((rd_T61 l0_2 x30_2).f1)) ∧ w'.cell? ⟨gb309, 0, none⟩ = some (.string a0_0) ∧ w'.cell? ⟨gb309, 1, none⟩ = some (.slice A0_1 l0_1.length c0_1) ∧ w'.cell? ⟨gb309, 2, none⟩ = some (.slice (some ad313) l0_2.length c0_2)) (ds := []) zq7_0 (by kernel_rfl) rfl rfl ⟨(blk_cell BK314.1 0).trans rfl, (blk_cell BK314.1 1).trans rfl, (blk_cell BK309.1 0).trans rfl, (blk_cell BK309.1 1).trans rfl, (blk_cell BK309.1 2).trans rfl⟩ (fun hHeld => ?_); refine with_tabW impl_PartOk.tab6 impl_PartOk.bits6 (fun HT_ HW_ => ?_)
      generalize w29.drew = w30 at BK309 BK314 HB hHeld ⊢
      refine zPu 0 ?_
      refine zPu 2 ?_
      refine zTk5 1 hHeld ?_
      refine zTk5 3 hHeld ?_
      refine zPu 4 ?_
      refine zPu 5 ?_
      refine zOn 6 (some 41) fun K hK => ?_
      refine zGs Try.func37 #[.int .i64 ((rd_T61 l0_2 x30_2).f0), .int .i64 0, .int .i64 (wrap64 ((l0_1.length : Int) - 1))] ?_
      with_reducible refine (impl_from.calls ((rd_T61 l0_2 x30_2).f0) 0 (wrap64 ((l0_1.length : Int) - 1)) true _ A20.1).mono ?_
      rintro e w' ⟨rfl, ⟨nd, rfl⟩⟩
      refine ⟨_, rfl, ?_⟩
      have q31 : (x30_2 : Int) ≤ ((l0_2.length : Int) : Int) := zA
      obtain ⟨i031, hi031, _, hsz31, _⟩ := info_parts info61
      have hroom31 : l0_2.length ≤ c0_2 := HC0_2.1
      have hC31 : Kd.C k61 _ (some ad313) l0_2.length l0_2 := HR0_2.1
      have hcut31 := cut_to (P := Try.prog) 47 61 .i64 Try.underlying47 hi031 (some ad313) l0_2.length c0_2 x30_2 zA q31 hroom31
      have hr31 := Kd.C_take (m := (x30_2 : Int).toNat) hC31 (by omega)
      have hy31 : y316.length = (x30_2 : Int).toNat := (by rw [Ny316.1, List.length_take]; omega)
      rw [← Ny316.1] at hr31
      rw [← hy31] at hcut31
      have HR319 := zM hr31
      have HC319 := zM (show y316.length ≤ c0_2 from by omega)
      clear hr31 hC31 hroom31 hi031 hsz31
      have KY31 := zM hy31
      clear hy31
      replace q31 := eq_true q31
      refine hK.out _ _ zCs fun hHeld => ?_
      clear hK K
      refine zNo ?_
      refine zPu 7 ?_
      refine zPu 8 ?_
      refine zPu 9 ?_
      refine zPu 11 ?_
      refine zPu 13 ?_
      refine zTk5 10 hHeld ?_
      refine zPu 12 ?_
      refine zTk5 14 hHeld ?_
      refine zOn 15 (some 50) fun K hK => ?_
      refine zGs Try.func64 #[.slice (some ad313) y316.length c0_2, .int .i64 ((rd_T61 l0_2 x30_2).f0)] ?_
      with_reducible refine (impl_isRef.calls _ _ y316 ((rd_T61 l0_2 x30_2).f0) true _ ?side1 ?side2 A24.1).mono ?_
      (case side1 => repeat (first | exact (Kd.C_below HR319.1 zB0) | (with_reducible refine Kd.C_alloc ?_ _) | (with_reducible refine Kd.C_drewN ?_ _) | (with_reducible refine Kd.C_drew ?_)))
      (case side2 => exact HC319.1)
      rintro e w32 ⟨rfl, hb⟩
      refine ⟨_, rfl, ?_⟩
      replace BK309 := zM (zb BK309.1 hb)
      replace BK314 := zM (zb BK314.1 hb)
      replace HB := zM (below_step zB0 hb)
      refine hK.out _ _ zCs fun hHeld => ?_
      clear hK K
      refine zNo ?_
      refine zPu 16 ?_
      refine zPu 17 ?_
      refine zPn 18 ?_
      refine zPn 19 ?_
      refine zPn 20 ?_
      refine zPn 21 ?_
      refine zPn 22 ?_
      refine zPn 23 ?_
      refine zPn 24 ?_
      refine zPn 25 ?_
      refine zPu 26 ?_
      refine zPu 27 ?_
      refine zPn 28 ?_
      refine zPn 29 ?_
      refine zPn 30 ?_
      refine zPn 31 ?_
      refine zPu 32 ?_
      refine done_ (done_of HT_.1 (by kernel_rfl)) ?_
      try go_wp2
      go_ret
      exact ⟨zE, zB0⟩
     replace c25 := Bool.eq_false_iff.mpr c25
     subst c25
     rw [if_neg zF] at H
     replace H := zIt H
     obtain ⟨c33b0, H⟩ := H
     replace H := zIt H
     obtain ⟨c34b0, H⟩ := H
     replace H := zO H
     obtain ⟨t322, A35, H⟩ := H
     by_cases c36 : t322 = true
     rotate_left
     ·replace c36 := Bool.eq_false_iff.mpr c36
      subst c36
      rw [if_neg zF] at H
      obtain rfl := Option.some.inj H
      obtain ⟨p313, q313, ad313, e313, hx313_0, hx313_1⟩ := zRd (at_T61 HR0_2.1 x30_2)
      cases e313
      replace hx313_0 := zHx HB.1 hx313_0
      replace hx313_1 := zHx HB.1 hx313_1
      try go_wp2_with (first | ((with_reducible refine gate_dst (N := 4) rfl ?_); (try (refine gate_guard (by rfl) ?_; dsimp only)); (with_reducible refine zBx 4 61 #[.int .i64 0, .string (⟨#[]⟩ : ByteArray)] ?_); intro gb314 hg w55 hbox hb; have BK314 := zM hbox; have GW314 := zM (zW hg (below_size zB0)); have GE314 := zM (zW hg (below_size zB0)); replace HB := zM (below_step zB0 hb); have NB309_314 := zM ((zn BK309.1 hg : gb309 ≠ gb314)); have NB314_309 := zM ((zm BK309.1 hg : gb314 ≠ gb309)); replace BK309 := zM (zb BK309.1 hb); clear hb hbox hg; have hnb56 := NB314_309.1; have hnc56 := NB309_314.1; have hcz57 := zc_2 (w := w55) BK314.1))
      generalize hw_ : ((w55.setCell ⟨gb314, 0, none⟩ (.int .i64 ((rd_T61 l0_2 x30_2).f0))).setCell ⟨gb314, 1, none⟩ (.string ((rd_T61 l0_2 x30_2).f1))) = w58
      have n0_ : Aside0 (w58.heap[gb309]? = some (.cells #[.string a0_0, .slice A0_1 l0_1.length c0_1, .slice (some ad313) l0_2.length c0_2] 49 (0, 0))) := ⟨by rw [← hw_]; exact zPq⟩
      have n1_ : Aside0 (w58.heap[gb314]? = some (.cells #[.int .i64 ((rd_T61 l0_2 x30_2).f0), .string ((rd_T61 l0_2 x30_2).f1)] 61 (0, 0))) := ⟨by rw [← hw_]; exact zp2 (zK BK314.1)⟩
      have n2_ : Aside0 (Below w.heap.size w w58) := ⟨by rw [← hw_]; exact zB0⟩
      (try clear BK309)
      (try clear BK314)
      (try clear HB)
      clear hw_
      have BK309 := n0_
      have BK314 := n1_
      have HB := n2_
      clear n0_ n1_ n2_
      replace BK309 := zM (blk_drew BK309.1)
      replace BK314 := zM (blk_drew BK314.1)
      replace HB := zM (below_drew1 HB.1)
      obtain ⟨p321, q321, ad321, e321, hx321_0, hx321_1, hx321_2, hx321_3, hx321_4⟩ := zRd (at_T57 HR0_1.1 ((rd_T61 l0_2 x30_2).f0))
      have hw321_4 := hx321_4
      have hw321_3 := hx321_3
      have hw321_2 := hx321_2
      have hw321_1 := hx321_1
      have hw321_0 := hx321_0
      cases e321
      replace hx321_0 := zHx HB.1 hx321_0
      replace hx321_1 := zHx HB.1 hx321_1
      replace hx321_2 := zHx HB.1 hx321_2
      replace hx321_3 := zHx HB.1 hx321_3
      replace hx321_4 := zHx HB.1 hx321_4
      refine start_ (n := 33) (S := fun w' => w'.cell? ⟨gb314, 0, none⟩ = some (.int .i64 ((rd_T61 l0_2 x30_2).f0)) ∧ w'.cell? ⟨gb314, 1, none⟩ = some (.string ((rd_T61 l0_2 x30_2).f1)) ∧ w'.cell? ⟨gb309, 0, none⟩ = some (.string a0_0) ∧ w'.cell? ⟨gb309, 1, none⟩ = some (.slice (some ad321) l0_1.length c0_1) ∧ w'.cell? ⟨gb309, 2, none⟩ = some (.slice (some ad313) l0_2.length c0_2) ∧ w'.cell? (ad321.add ((((rd_T61 l0_2 x30_2).f0)).toNat * 5)) = some (.int .i64 ((rd_T57 l0_1 ((rd_T61 l0_2 x30_2).f0)).f0)) ∧ w'.cell? ⟨(ad321.add ((((rd_T61 l0_2 x30_2).f0)).toNat * 5)).block, (ad321.add ((((rd_T61 l0_2 x30_2).f0)).toNat * 5)).off + 1, none⟩ = some (.int .i64 ((rd_T57 l0_1 ((rd_T61 l0_2 x30_2).f0)).f1)) ∧ w'.cell? ⟨(ad321.add ((((rd_T61 l0_2 x30_2).f0)).toNat * 5)).block, (ad321.add ((((rd_T61 l0_2 x30_2).f0)).toNat * 5)).off + 2, none⟩ = some (.int .i64 ((rd_T57 l0_1 ((rd_T61 l0_2 x30_2).f0)).f2)) ∧ w'.cell? ⟨(ad321.add ((((rd_T61 l0_2 x30_2).f0)).toNat * 5)).block, (ad321.add ((((rd_T61 l0_2 x30_2).f0)).toNat * 5)).off + 3, none⟩ = some (.int .i64 ((rd_T57 l0_1 ((rd_T61 l0_2 x30_2).f0)).f3)) ∧ w'.cell? ⟨(ad321.add ((((rd_T61 l0_2 x30_2).f0)).toNat * 5)).block, (ad321.add ((((rd_T61 l0_2 x30_2).f0)).toNat * 5)).off + 4, none⟩ = some (.int .i64 ((rd_T57 l0_1 ((rd_T61 l0_2 x30_2).f0)).f4))) (ds := []) zq7_0 (by kernel_rfl) rfl rfl ⟨(blk_cell BK314.1 0).trans rfl, (blk_cell BK314.1 1).trans rfl, (blk_cell BK309.1 0).trans rfl, (blk_cell BK309.1 1).trans rfl, (blk_cell BK309.1 2).trans rfl, ((HB.1.cell (World.block_lt_of_cell? w _ hw321_0)).trans hw321_0), ((HB.1.cell (World.block_lt_of_cell? w _ hw321_1)).trans hw321_1), ((HB.1.cell (World.block_lt_of_cell? w _ hw321_2)).trans hw321_2), ((HB.1.cell (World.block_lt_of_cell? w _ hw321_3)).trans hw321_3), ((HB.1.cell (World.block_lt_of_cell? w _ hw321_4)).trans hw321_4)⟩ (fun hHeld => ?_); refine with_tabW impl_PartOk.tab6 impl_PartOk.bits6 (fun HT_ HW_ => ?_)
      generalize w58.drew = w59 at BK309 BK314 HB hx321_0 hx321_1 hx321_2 hx321_3 hx321_4 hHeld ⊢
      refine zPu 0 ?_
      refine zPu 2 ?_
      refine zTk10 1 hHeld ?_
      refine zTk10 3 hHeld ?_
      refine zPu 4 ?_
      refine zPu 5 ?_
      refine zOn 6 (some 41) fun K hK => ?_
      refine zGs Try.func37 #[.int .i64 ((rd_T61 l0_2 x30_2).f0), .int .i64 0, .int .i64 (wrap64 ((l0_1.length : Int) - 1))] ?_
      with_reducible refine (impl_from.calls ((rd_T61 l0_2 x30_2).f0) 0 (wrap64 ((l0_1.length : Int) - 1)) true _ A20.1).mono ?_
      rintro e w' ⟨rfl, ⟨nd, rfl⟩⟩
      refine ⟨_, rfl, ?_⟩
      have q60 : (x30_2 : Int) ≤ ((l0_2.length : Int) : Int) := zA
      obtain ⟨i060, hi060, _, hsz60, _⟩ := info_parts info61
      have hroom60 : l0_2.length ≤ c0_2 := HC0_2.1
      have hC60 : Kd.C k61 _ (some ad313) l0_2.length l0_2 := HR0_2.1
      have hcut60 := cut_to (P := Try.prog) 47 61 .i64 Try.underlying47 hi060 (some ad313) l0_2.length c0_2 x30_2 zA q60 hroom60
      have hr60 := Kd.C_take (m := (x30_2 : Int).toNat) hC60 (by omega)
      have hy60 : y316.length = (x30_2 : Int).toNat := (by rw [Ny316.1, List.length_take]; omega)
      rw [← Ny316.1] at hr60
      rw [← hy60] at hcut60
      have HR319 := zM hr60
      have HC319 := zM (show y316.length ≤ c0_2 from by omega)
      clear hr60 hC60 hroom60 hi060 hsz60
      have KY60 := zM hy60
      clear hy60
      replace q60 := eq_true q60
      refine hK.out _ _ ⟨(blk_cell BK314.1 0).trans rfl, (blk_cell BK314.1 1).trans rfl, (blk_cell BK309.1 0).trans rfl, (blk_cell BK309.1 1).trans rfl, (blk_cell BK309.1 2).trans rfl, ((HB.1.cell (World.block_lt_of_cell? w _ hw321_0)).trans hw321_0), ((HB.1.cell (World.block_lt_of_cell? w _ hw321_1)).trans hw321_1), ((HB.1.cell (World.block_lt_of_cell? w _ hw321_2)).trans hw321_2), ((HB.1.cell (World.block_lt_of_cell? w _ hw321_3)).trans hw321_3), ((HB.1.cell (World.block_lt_of_cell? w _ hw321_4)).trans hw321_4)⟩ (fun hHeld => ?_)
      clear hK K
      refine zNo ?_
      refine zPu 7 ?_
      refine zPu 8 ?_
      refine zPu 9 ?_
      refine zPu 11 ?_
      refine zPu 13 ?_
      refine zTk10 10 hHeld ?_
      refine zPu 12 ?_
      refine zTk10 14 hHeld ?_
      refine zOn 15 (some 50) fun K hK => ?_
      refine zGs Try.func64 #[.slice (some ad313) y316.length c0_2, .int .i64 ((rd_T61 l0_2 x30_2).f0)] ?_
      with_reducible refine (impl_isRef.calls _ _ y316 ((rd_T61 l0_2 x30_2).f0) false _ ?side1 ?side2 A24.1).mono ?_
      (case side1 => repeat (first | exact (Kd.C_below HR319.1 zB0) | (with_reducible refine Kd.C_alloc ?_ _) | (with_reducible refine Kd.C_drewN ?_ _) | (with_reducible refine Kd.C_drew ?_)))
      (case side2 => exact HC319.1)
      rintro e w61 ⟨rfl, hb⟩
      refine ⟨_, rfl, ?_⟩
      replace BK309 := zM (zb BK309.1 hb)
      replace BK314 := zM (zb BK314.1 hb)
      replace HB := zM (below_step zB0 hb)
      refine hK.out _ _ ⟨(blk_cell BK314.1 0).trans rfl, (blk_cell BK314.1 1).trans rfl, (blk_cell BK309.1 0).trans rfl, (blk_cell BK309.1 1).trans rfl, (blk_cell BK309.1 2).trans rfl, ((HB.1.cell (World.block_lt_of_cell? w _ hw321_0)).trans hw321_0), ((HB.1.cell (World.block_lt_of_cell? w _ hw321_1)).trans hw321_1), ((HB.1.cell (World.block_lt_of_cell? w _ hw321_2)).trans hw321_2), ((HB.1.cell (World.block_lt_of_cell? w _ hw321_3)).trans hw321_3), ((HB.1.cell (World.block_lt_of_cell? w _ hw321_4)).trans hw321_4)⟩ (fun hHeld => ?_)
      clear hK K
      refine zNo ?_
      refine zPu 16 ?_
      refine zPu 17 ?_
      refine zPu 18 ?_
      refine zPu 20 ?_
      refine zTk10 19 hHeld ?_
      refine zTk10 21 hHeld ?_
      refine zPu 22 ?_
      refine zTk10 23 hHeld ?_
      refine zOn 24 (some 59) fun K hK => ?_
      refine zGs Try.func65 #[.agg #[.int .i64 ((rd_T57 l0_1 ((rd_T61 l0_2 x30_2).f0)).f0), .int .i64 ((rd_T57 l0_1 ((rd_T61 l0_2 x30_2).f0)).f1), .int .i64 ((rd_T57 l0_1 ((rd_T61 l0_2 x30_2).f0)).f2), .int .i64 ((rd_T57 l0_1 ((rd_T61 l0_2 x30_2).f0)).f3), .int .i64 ((rd_T57 l0_1 ((rd_T61 l0_2 x30_2).f0)).f4)]] ?_
      with_reducible refine (impl_goesTo.calls ((rd_T57 l0_1 ((rd_T61 l0_2 x30_2).f0)).f0) ((rd_T57 l0_1 ((rd_T61 l0_2 x30_2).f0)).f1) ((rd_T57 l0_1 ((rd_T61 l0_2 x30_2).f0)).f2) ((rd_T57 l0_1 ((rd_T61 l0_2 x30_2).f0)).f3) ((rd_T57 l0_1 ((rd_T61 l0_2 x30_2).f0)).f4) false _ A35.1).mono ?_
      rintro e w62 ⟨rfl, hb⟩
      refine ⟨_, rfl, ?_⟩
      replace BK309 := zM (zb BK309.1 hb)
      replace BK314 := zM (zb BK314.1 hb)
      replace HB := zM (below_step zB0 hb)
      refine hK.out _ _ ⟨(blk_cell BK314.1 0).trans rfl, (blk_cell BK314.1 1).trans rfl, (blk_cell BK309.1 0).trans rfl, (blk_cell BK309.1 1).trans rfl, (blk_cell BK309.1 2).trans rfl, ((HB.1.cell (World.block_lt_of_cell? w _ hw321_0)).trans hw321_0), ((HB.1.cell (World.block_lt_of_cell? w _ hw321_1)).trans hw321_1), ((HB.1.cell (World.block_lt_of_cell? w _ hw321_2)).trans hw321_2), ((HB.1.cell (World.block_lt_of_cell? w _ hw321_3)).trans hw321_3), ((HB.1.cell (World.block_lt_of_cell? w _ hw321_4)).trans hw321_4)⟩ (fun hHeld => ?_)
      clear hK K
      refine zNo ?_
      refine zPu 25 ?_
      refine zPu 26 ?_
      refine zPu 27 ?_
      refine zPn 28 ?_
      refine zPn 29 ?_
      refine zPn 30 ?_
      refine zPn 31 ?_
      refine zPu 32 ?_
      refine done_ (done_of HT_.1 (by kernel_rfl)) ?_
      try go_wp2
      go_ret
      exact ⟨zE, zB0⟩
     subst c36
     rw [if_pos rfl] at H
     replace H := zO H
     obtain ⟨t323, A37, H⟩ := H
     by_cases c38 : t323 = true
     rotate_left
     ·replace c38 := Bool.eq_false_iff.mpr c38
      subst c38
      rw [if_neg zF] at H
      obtain rfl := Option.some.inj H
      obtain ⟨p313, q313, ad313, e313, hx313_0, hx313_1⟩ := zRd (at_T61 HR0_2.1 x30_2)
      cases e313
      replace hx313_0 := zHx HB.1 hx313_0
      replace hx313_1 := zHx HB.1 hx313_1
      try go_wp2_with (first | ((with_reducible refine gate_dst (N := 4) rfl ?_); (try (refine gate_guard (by rfl) ?_; dsimp only)); (with_reducible refine zBx 4 61 #[.int .i64 0, .string (⟨#[]⟩ : ByteArray)] ?_); intro gb314 hg w47 hbox hb; have BK314 := zM hbox; have GW314 := zM (zW hg (below_size zB0)); have GE314 := zM (zW hg (below_size zB0)); replace HB := zM (below_step zB0 hb); have NB309_314 := zM ((zn BK309.1 hg : gb309 ≠ gb314)); have NB314_309 := zM ((zm BK309.1 hg : gb314 ≠ gb309)); replace BK309 := zM (zb BK309.1 hb); clear hb hbox hg; have hnb48 := NB314_309.1; have hnc48 := NB309_314.1; have hcz49 := zc_2 (w := w47) BK314.1))
      generalize hw_ : ((w47.setCell ⟨gb314, 0, none⟩ (.int .i64 ((rd_T61 l0_2 x30_2).f0))).setCell ⟨gb314, 1, none⟩ (.string ((rd_T61 l0_2 x30_2).f1))) = w50
      have n0_ : Aside0 (w50.heap[gb309]? = some (.cells #[.string a0_0, .slice A0_1 l0_1.length c0_1, .slice (some ad313) l0_2.length c0_2] 49 (0, 0))) := ⟨by rw [← hw_]; exact zPq⟩
      have n1_ : Aside0 (w50.heap[gb314]? = some (.cells #[.int .i64 ((rd_T61 l0_2 x30_2).f0), .string ((rd_T61 l0_2 x30_2).f1)] 61 (0, 0))) := ⟨by rw [← hw_]; exact zp2 (zK BK314.1)⟩
      have n2_ : Aside0 (Below w.heap.size w w50) := ⟨by rw [← hw_]; exact zB0⟩
      (try clear BK309)
      (try clear BK314)
      (try clear HB)
      clear hw_
      have BK309 := n0_
      have BK314 := n1_
      have HB := n2_
      clear n0_ n1_ n2_
      replace BK309 := zM (blk_drew BK309.1)
      replace BK314 := zM (blk_drew BK314.1)
      replace HB := zM (below_drew1 HB.1)
      obtain ⟨p321, q321, ad321, e321, hx321_0, hx321_1, hx321_2, hx321_3, hx321_4⟩ := zRd (at_T57 HR0_1.1 ((rd_T61 l0_2 x30_2).f0))
      have hw321_4 := hx321_4
      have hw321_3 := hx321_3
      have hw321_2 := hx321_2
      have hw321_1 := hx321_1
      have hw321_0 := hx321_0
      cases e321
      replace hx321_0 := zHx HB.1 hx321_0
      replace hx321_1 := zHx HB.1 hx321_1
      replace hx321_2 := zHx HB.1 hx321_2
      replace hx321_3 := zHx HB.1 hx321_3
      replace hx321_4 := zHx HB.1 hx321_4
      refine start_ (n := 33) (S := fun w' => w'.cell? ⟨gb314, 0, none⟩ = some (.int .i64 ((rd_T61 l0_2 x30_2).f0)) ∧ w'.cell? ⟨gb314, 1, none⟩ = some (.string ((rd_T61 l0_2 x30_2).f1)) ∧ w'.cell? ⟨gb309, 0, none⟩ = some (.string a0_0) ∧ w'.cell? ⟨gb309, 1, none⟩ = some (.slice (some ad321) l0_1.length c0_1) ∧ w'.cell? ⟨gb309, 2, none⟩ = some (.slice (some ad313) l0_2.length c0_2) ∧ w'.cell? (ad321.add ((((rd_T61 l0_2 x30_2).f0)).toNat * 5)) = some (.int .i64 ((rd_T57 l0_1 ((rd_T61 l0_2 x30_2).f0)).f0)) ∧ w'.cell? ⟨(ad321.add ((((rd_T61 l0_2 x30_2).f0)).toNat * 5)).block, (ad321.add ((((rd_T61 l0_2 x30_2).f0)).toNat * 5)).off + 1, none⟩ = some (.int .i64 ((rd_T57 l0_1 ((rd_T61 l0_2 x30_2).f0)).f1)) ∧ w'.cell? ⟨(ad321.add ((((rd_T61 l0_2 x30_2).f0)).toNat * 5)).block, (ad321.add ((((rd_T61 l0_2 x30_2).f0)).toNat * 5)).off + 2, none⟩ = some (.int .i64 ((rd_T57 l0_1 ((rd_T61 l0_2 x30_2).f0)).f2)) ∧ w'.cell? ⟨(ad321.add ((((rd_T61 l0_2 x30_2).f0)).toNat * 5)).block, (ad321.add ((((rd_T61 l0_2 x30_2).f0)).toNat * 5)).off + 3, none⟩ = some (.int .i64 ((rd_T57 l0_1 ((rd_T61 l0_2 x30_2).f0)).f3)) ∧ w'.cell? ⟨(ad321.add ((((rd_T61 l0_2 x30_2).f0)).toNat * 5)).block, (ad321.add ((((rd_T61 l0_2 x30_2).f0)).toNat * 5)).off + 4, none⟩ = some (.int .i64 ((rd_T57 l0_1 ((rd_T61 l0_2 x30_2).f0)).f4))) (ds := []) zq7_0 (by kernel_rfl) rfl rfl ⟨(blk_cell BK314.1 0).trans rfl, (blk_cell BK314.1 1).trans rfl, (blk_cell BK309.1 0).trans rfl, (blk_cell BK309.1 1).trans rfl, (blk_cell BK309.1 2).trans rfl, ((HB.1.cell (World.block_lt_of_cell? w _ hw321_0)).trans hw321_0), ((HB.1.cell (World.block_lt_of_cell? w _ hw321_1)).trans hw321_1), ((HB.1.cell (World.block_lt_of_cell? w _ hw321_2)).trans hw321_2), ((HB.1.cell (World.block_lt_of_cell? w _ hw321_3)).trans hw321_3), ((HB.1.cell (World.block_lt_of_cell? w _ hw321_4)).trans hw321_4)⟩ (fun hHeld => ?_); refine with_tabW impl_PartOk.tab6 impl_PartOk.bits6 (fun HT_ HW_ => ?_)
      generalize w50.drew = w51 at BK309 BK314 HB hx321_0 hx321_1 hx321_2 hx321_3 hx321_4 hHeld ⊢
      refine zPu 0 ?_
      refine zPu 2 ?_
      refine zTk10 1 hHeld ?_
      refine zTk10 3 hHeld ?_
      refine zPu 4 ?_
      refine zPu 5 ?_
      refine zOn 6 (some 41) fun K hK => ?_
      refine zGs Try.func37 #[.int .i64 ((rd_T61 l0_2 x30_2).f0), .int .i64 0, .int .i64 (wrap64 ((l0_1.length : Int) - 1))] ?_
      with_reducible refine (impl_from.calls ((rd_T61 l0_2 x30_2).f0) 0 (wrap64 ((l0_1.length : Int) - 1)) true _ A20.1).mono ?_
      rintro e w' ⟨rfl, ⟨nd, rfl⟩⟩
      refine ⟨_, rfl, ?_⟩
      have q52 : (x30_2 : Int) ≤ ((l0_2.length : Int) : Int) := zA
      obtain ⟨i052, hi052, _, hsz52, _⟩ := info_parts info61
      have hroom52 : l0_2.length ≤ c0_2 := HC0_2.1
      have hC52 : Kd.C k61 _ (some ad313) l0_2.length l0_2 := HR0_2.1
      have hcut52 := cut_to (P := Try.prog) 47 61 .i64 Try.underlying47 hi052 (some ad313) l0_2.length c0_2 x30_2 zA q52 hroom52
      have hr52 := Kd.C_take (m := (x30_2 : Int).toNat) hC52 (by omega)
      have hy52 : y316.length = (x30_2 : Int).toNat := (by rw [Ny316.1, List.length_take]; omega)
      rw [← Ny316.1] at hr52
      rw [← hy52] at hcut52
      have HR319 := zM hr52
      have HC319 := zM (show y316.length ≤ c0_2 from by omega)
      clear hr52 hC52 hroom52 hi052 hsz52
      have KY52 := zM hy52
      clear hy52
      replace q52 := eq_true q52
      refine hK.out _ _ ⟨(blk_cell BK314.1 0).trans rfl, (blk_cell BK314.1 1).trans rfl, (blk_cell BK309.1 0).trans rfl, (blk_cell BK309.1 1).trans rfl, (blk_cell BK309.1 2).trans rfl, ((HB.1.cell (World.block_lt_of_cell? w _ hw321_0)).trans hw321_0), ((HB.1.cell (World.block_lt_of_cell? w _ hw321_1)).trans hw321_1), ((HB.1.cell (World.block_lt_of_cell? w _ hw321_2)).trans hw321_2), ((HB.1.cell (World.block_lt_of_cell? w _ hw321_3)).trans hw321_3), ((HB.1.cell (World.block_lt_of_cell? w _ hw321_4)).trans hw321_4)⟩ (fun hHeld => ?_)
      clear hK K
      refine zNo ?_
      refine zPu 7 ?_
      refine zPu 8 ?_
      refine zPu 9 ?_
      refine zPu 11 ?_
      refine zPu 13 ?_
      refine zTk10 10 hHeld ?_
      refine zPu 12 ?_
      refine zTk10 14 hHeld ?_
      refine zOn 15 (some 50) fun K hK => ?_
      refine zGs Try.func64 #[.slice (some ad313) y316.length c0_2, .int .i64 ((rd_T61 l0_2 x30_2).f0)] ?_
      with_reducible refine (impl_isRef.calls _ _ y316 ((rd_T61 l0_2 x30_2).f0) false _ ?side1 ?side2 A24.1).mono ?_
      (case side1 => repeat (first | exact (Kd.C_below HR319.1 zB0) | (with_reducible refine Kd.C_alloc ?_ _) | (with_reducible refine Kd.C_drewN ?_ _) | (with_reducible refine Kd.C_drew ?_)))
      (case side2 => exact HC319.1)
      rintro e w53 ⟨rfl, hb⟩
      refine ⟨_, rfl, ?_⟩
      replace BK309 := zM (zb BK309.1 hb)
      replace BK314 := zM (zb BK314.1 hb)
      replace HB := zM (below_step zB0 hb)
      refine hK.out _ _ ⟨(blk_cell BK314.1 0).trans rfl, (blk_cell BK314.1 1).trans rfl, (blk_cell BK309.1 0).trans rfl, (blk_cell BK309.1 1).trans rfl, (blk_cell BK309.1 2).trans rfl, ((HB.1.cell (World.block_lt_of_cell? w _ hw321_0)).trans hw321_0), ((HB.1.cell (World.block_lt_of_cell? w _ hw321_1)).trans hw321_1), ((HB.1.cell (World.block_lt_of_cell? w _ hw321_2)).trans hw321_2), ((HB.1.cell (World.block_lt_of_cell? w _ hw321_3)).trans hw321_3), ((HB.1.cell (World.block_lt_of_cell? w _ hw321_4)).trans hw321_4)⟩ (fun hHeld => ?_)
      clear hK K
      refine zNo ?_
      refine zPu 16 ?_
      refine zPu 17 ?_
      refine zPu 18 ?_
      refine zPu 20 ?_
      refine zTk10 19 hHeld ?_
      refine zTk10 21 hHeld ?_
      refine zPu 22 ?_
      refine zTk10 23 hHeld ?_
      refine zOn 24 (some 59) fun K hK => ?_
      refine zGs Try.func65 #[.agg #[.int .i64 ((rd_T57 l0_1 ((rd_T61 l0_2 x30_2).f0)).f0), .int .i64 ((rd_T57 l0_1 ((rd_T61 l0_2 x30_2).f0)).f1), .int .i64 ((rd_T57 l0_1 ((rd_T61 l0_2 x30_2).f0)).f2), .int .i64 ((rd_T57 l0_1 ((rd_T61 l0_2 x30_2).f0)).f3), .int .i64 ((rd_T57 l0_1 ((rd_T61 l0_2 x30_2).f0)).f4)]] ?_
      with_reducible refine (impl_goesTo.calls ((rd_T57 l0_1 ((rd_T61 l0_2 x30_2).f0)).f0) ((rd_T57 l0_1 ((rd_T61 l0_2 x30_2).f0)).f1) ((rd_T57 l0_1 ((rd_T61 l0_2 x30_2).f0)).f2) ((rd_T57 l0_1 ((rd_T61 l0_2 x30_2).f0)).f3) ((rd_T57 l0_1 ((rd_T61 l0_2 x30_2).f0)).f4) true _ A35.1).mono ?_
      rintro e w54 ⟨rfl, hb⟩
      refine ⟨_, rfl, ?_⟩
      replace BK309 := zM (zb BK309.1 hb)
      replace BK314 := zM (zb BK314.1 hb)
      replace HB := zM (below_step zB0 hb)
      refine hK.out _ _ ⟨(blk_cell BK314.1 0).trans rfl, (blk_cell BK314.1 1).trans rfl, (blk_cell BK309.1 0).trans rfl, (blk_cell BK309.1 1).trans rfl, (blk_cell BK309.1 2).trans rfl, ((HB.1.cell (World.block_lt_of_cell? w _ hw321_0)).trans hw321_0), ((HB.1.cell (World.block_lt_of_cell? w _ hw321_1)).trans hw321_1), ((HB.1.cell (World.block_lt_of_cell? w _ hw321_2)).trans hw321_2), ((HB.1.cell (World.block_lt_of_cell? w _ hw321_3)).trans hw321_3), ((HB.1.cell (World.block_lt_of_cell? w _ hw321_4)).trans hw321_4)⟩ (fun hHeld => ?_)
      clear hK K
      refine zNo ?_
      refine zPu 25 ?_
      refine zPu 26 ?_
      refine zPu 27 ?_
      refine zPu 28 ?_
      refine zTk10 29 hHeld ?_
      refine zOn 30 (some 65) fun K hK => ?_
      refine zGs Try.func60 #[.string ((rd_T61 l0_2 x30_2).f1)] ?_
      with_reducible refine (impl_nameOk.calls k2 ((rd_T61 l0_2 x30_2).f1) false _ A37.1).mono ?_
      rintro e w' ⟨rfl, ⟨nd, rfl⟩⟩
      refine ⟨_, rfl, ?_⟩
      refine hK.out _ _ ⟨(blk_cell BK314.1 0).trans rfl, (blk_cell BK314.1 1).trans rfl, (blk_cell BK309.1 0).trans rfl, (blk_cell BK309.1 1).trans rfl, (blk_cell BK309.1 2).trans rfl, ((HB.1.cell (World.block_lt_of_cell? w _ hw321_0)).trans hw321_0), ((HB.1.cell (World.block_lt_of_cell? w _ hw321_1)).trans hw321_1), ((HB.1.cell (World.block_lt_of_cell? w _ hw321_2)).trans hw321_2), ((HB.1.cell (World.block_lt_of_cell? w _ hw321_3)).trans hw321_3), ((HB.1.cell (World.block_lt_of_cell? w _ hw321_4)).trans hw321_4)⟩ (fun hHeld => ?_)
      clear hK K
      refine zNo ?_
      refine zPu 31 ?_
      refine zPu 32 ?_
      refine done_ (done_of HT_.1 (by kernel_rfl)) ?_
      try go_wp2
      go_ret
      exact ⟨zE, zB0⟩
     subst c38
     rw [if_pos rfl] at H
     have H' := zM H
     clear H
     obtain ⟨p313, q313, ad313, e313, hx313_0, hx313_1⟩ := zRd (at_T61 HR0_2.1 x30_2)
     cases e313
     replace hx313_0 := zHx HB.1 hx313_0
     replace hx313_1 := zHx HB.1 hx313_1
     try go_wp2_with (first | ((with_reducible refine gate_dst (N := 4) rfl ?_); (try (refine gate_guard (by rfl) ?_; dsimp only)); (with_reducible refine zBx 4 61 #[.int .i64 0, .string (⟨#[]⟩ : ByteArray)] ?_); intro gb314 hg w39 hbox hb; have BK314 := zM hbox; have GW314 := zM (zW hg (below_size zB0)); have GE314 := zM (zW hg (below_size zB0)); replace HB := zM (below_step zB0 hb); have NB309_314 := zM ((zn BK309.1 hg : gb309 ≠ gb314)); have NB314_309 := zM ((zm BK309.1 hg : gb314 ≠ gb309)); replace BK309 := zM (zb BK309.1 hb); clear hb hbox hg; have hnb40 := NB314_309.1; have hnc40 := NB309_314.1; have hcz41 := zc_2 (w := w39) BK314.1))
     generalize hw_ : ((w39.setCell ⟨gb314, 0, none⟩ (.int .i64 ((rd_T61 l0_2 x30_2).f0))).setCell ⟨gb314, 1, none⟩ (.string ((rd_T61 l0_2 x30_2).f1))) = w42
     have n0_ : Aside0 (w42.heap[gb309]? = some (.cells #[.string a0_0, .slice A0_1 l0_1.length c0_1, .slice (some ad313) l0_2.length c0_2] 49 (0, 0))) := ⟨by rw [← hw_]; exact zPq⟩
     have n1_ : Aside0 (w42.heap[gb314]? = some (.cells #[.int .i64 ((rd_T61 l0_2 x30_2).f0), .string ((rd_T61 l0_2 x30_2).f1)] 61 (0, 0))) := ⟨by rw [← hw_]; exact zp2 (zK BK314.1)⟩
     have n2_ : Aside0 (Below w.heap.size w w42) := ⟨by rw [← hw_]; exact zB0⟩
     (try clear BK309)
     (try clear BK314)
     (try clear HB)
     clear hw_
     have BK309 := n0_
     have BK314 := n1_
     have HB := n2_
     clear n0_ n1_ n2_
     replace BK309 := zM (blk_drew BK309.1)
     replace BK314 := zM (blk_drew BK314.1)
     replace HB := zM (below_drew1 HB.1)
     obtain ⟨p321, q321, ad321, e321, hx321_0, hx321_1, hx321_2, hx321_3, hx321_4⟩ := zRd (at_T57 HR0_1.1 ((rd_T61 l0_2 x30_2).f0))
     have hw321_4 := hx321_4
     have hw321_3 := hx321_3
     have hw321_2 := hx321_2
     have hw321_1 := hx321_1
     have hw321_0 := hx321_0
     cases e321
     replace hx321_0 := zHx HB.1 hx321_0
     replace hx321_1 := zHx HB.1 hx321_1
     replace hx321_2 := zHx HB.1 hx321_2
     replace hx321_3 := zHx HB.1 hx321_3
     replace hx321_4 := zHx HB.1 hx321_4
     refine start_ (n := 33) (S := fun w' => w'.cell? ⟨gb314, 0, none⟩ = some (.int .i64 ((rd_T61 l0_2 x30_2).f0)) ∧ w'.cell? ⟨gb314, 1, none⟩ = some (.string ((rd_T61 l0_2 x30_2).f1)) ∧ w'.cell? ⟨gb309, 0, none⟩ = some (.string a0_0) ∧ w'.cell? ⟨gb309, 1, none⟩ = some (.slice (some ad321) l0_1.length c0_1) ∧ w'.cell? ⟨gb309, 2, none⟩ = some (.slice (some ad313) l0_2.length c0_2) ∧ w'.cell? (ad321.add ((((rd_T61 l0_2 x30_2).f0)).toNat * 5)) = some (.int .i64 ((rd_T57 l0_1 ((rd_T61 l0_2 x30_2).f0)).f0)) ∧ w'.cell? ⟨(ad321.add ((((rd_T61 l0_2 x30_2).f0)).toNat * 5)).block, (ad321.add ((((rd_T61 l0_2 x30_2).f0)).toNat * 5)).off + 1, none⟩ = some (.int .i64 ((rd_T57 l0_1 ((rd_T61 l0_2 x30_2).f0)).f1)) ∧ w'.cell? ⟨(ad321.add ((((rd_T61 l0_2 x30_2).f0)).toNat * 5)).block, (ad321.add ((((rd_T61 l0_2 x30_2).f0)).toNat * 5)).off + 2, none⟩ = some (.int .i64 ((rd_T57 l0_1 ((rd_T61 l0_2 x30_2).f0)).f2)) ∧ w'.cell? ⟨(ad321.add ((((rd_T61 l0_2 x30_2).f0)).toNat * 5)).block, (ad321.add ((((rd_T61 l0_2 x30_2).f0)).toNat * 5)).off + 3, none⟩ = some (.int .i64 ((rd_T57 l0_1 ((rd_T61 l0_2 x30_2).f0)).f3)) ∧ w'.cell? ⟨(ad321.add ((((rd_T61 l0_2 x30_2).f0)).toNat * 5)).block, (ad321.add ((((rd_T61 l0_2 x30_2).f0)).toNat * 5)).off + 4, none⟩ = some (.int .i64 ((rd_T57 l0_1 ((rd_T61 l0_2 x30_2).f0)).f4))) (ds := []) zq7_0 (by kernel_rfl) rfl rfl ⟨(blk_cell BK314.1 0).trans rfl, (blk_cell BK314.1 1).trans rfl, (blk_cell BK309.1 0).trans rfl, (blk_cell BK309.1 1).trans rfl, (blk_cell BK309.1 2).trans rfl, ((HB.1.cell (World.block_lt_of_cell? w _ hw321_0)).trans hw321_0), ((HB.1.cell (World.block_lt_of_cell? w _ hw321_1)).trans hw321_1), ((HB.1.cell (World.block_lt_of_cell? w _ hw321_2)).trans hw321_2), ((HB.1.cell (World.block_lt_of_cell? w _ hw321_3)).trans hw321_3), ((HB.1.cell (World.block_lt_of_cell? w _ hw321_4)).trans hw321_4)⟩ (fun hHeld => ?_); refine with_tabW impl_PartOk.tab6 impl_PartOk.bits6 (fun HT_ HW_ => ?_)
     generalize w42.drew = w43 at BK309 BK314 HB hx321_0 hx321_1 hx321_2 hx321_3 hx321_4 hHeld ⊢
     refine zPu 0 ?_
     refine zPu 2 ?_
     refine zTk10 1 hHeld ?_
     refine zTk10 3 hHeld ?_
     refine zPu 4 ?_
     refine zPu 5 ?_
     refine zOn 6 (some 41) fun K hK => ?_
     refine zGs Try.func37 #[.int .i64 ((rd_T61 l0_2 x30_2).f0), .int .i64 0, .int .i64 (wrap64 ((l0_1.length : Int) - 1))] ?_
     with_reducible refine (impl_from.calls ((rd_T61 l0_2 x30_2).f0) 0 (wrap64 ((l0_1.length : Int) - 1)) true _ A20.1).mono ?_
     rintro e w' ⟨rfl, ⟨nd, rfl⟩⟩
     refine ⟨_, rfl, ?_⟩
     have q44 : (x30_2 : Int) ≤ ((l0_2.length : Int) : Int) := zA
     obtain ⟨i044, hi044, _, hsz44, _⟩ := info_parts info61
     have hroom44 : l0_2.length ≤ c0_2 := HC0_2.1
     have hC44 : Kd.C k61 _ (some ad313) l0_2.length l0_2 := HR0_2.1
     have hcut44 := cut_to (P := Try.prog) 47 61 .i64 Try.underlying47 hi044 (some ad313) l0_2.length c0_2 x30_2 zA q44 hroom44
     have hr44 := Kd.C_take (m := (x30_2 : Int).toNat) hC44 (by omega)
     have hy44 : y316.length = (x30_2 : Int).toNat := (by rw [Ny316.1, List.length_take]; omega)
     rw [← Ny316.1] at hr44
     rw [← hy44] at hcut44
     have HR319 := zM hr44
     have HC319 := zM (show y316.length ≤ c0_2 from by omega)
     clear hr44 hC44 hroom44 hi044 hsz44
     have KY44 := zM hy44
     clear hy44
     replace q44 := eq_true q44
     refine hK.out _ _ ⟨(blk_cell BK314.1 0).trans rfl, (blk_cell BK314.1 1).trans rfl, (blk_cell BK309.1 0).trans rfl, (blk_cell BK309.1 1).trans rfl, (blk_cell BK309.1 2).trans rfl, ((HB.1.cell (World.block_lt_of_cell? w _ hw321_0)).trans hw321_0), ((HB.1.cell (World.block_lt_of_cell? w _ hw321_1)).trans hw321_1), ((HB.1.cell (World.block_lt_of_cell? w _ hw321_2)).trans hw321_2), ((HB.1.cell (World.block_lt_of_cell? w _ hw321_3)).trans hw321_3), ((HB.1.cell (World.block_lt_of_cell? w _ hw321_4)).trans hw321_4)⟩ (fun hHeld => ?_)
     clear hK K
     refine zNo ?_
     refine zPu 7 ?_
     refine zPu 8 ?_
     refine zPu 9 ?_
     refine zPu 11 ?_
     refine zPu 13 ?_
     refine zTk10 10 hHeld ?_
     refine zPu 12 ?_
     refine zTk10 14 hHeld ?_
     refine zOn 15 (some 50) fun K hK => ?_
     refine zGs Try.func64 #[.slice (some ad313) y316.length c0_2, .int .i64 ((rd_T61 l0_2 x30_2).f0)] ?_
     with_reducible refine (impl_isRef.calls _ _ y316 ((rd_T61 l0_2 x30_2).f0) false _ ?side1 ?side2 A24.1).mono ?_
     (case side1 => repeat (first | exact (Kd.C_below HR319.1 zB0) | (with_reducible refine Kd.C_alloc ?_ _) | (with_reducible refine Kd.C_drewN ?_ _) | (with_reducible refine Kd.C_drew ?_)))
     (case side2 => exact HC319.1)
     rintro e w45 ⟨rfl, hb⟩
     refine ⟨_, rfl, ?_⟩
     replace BK309 := zM (zb BK309.1 hb)
     replace BK314 := zM (zb BK314.1 hb)
     replace HB := zM (below_step zB0 hb)
     refine hK.out _ _ ⟨(blk_cell BK314.1 0).trans rfl, (blk_cell BK314.1 1).trans rfl, (blk_cell BK309.1 0).trans rfl, (blk_cell BK309.1 1).trans rfl, (blk_cell BK309.1 2).trans rfl, ((HB.1.cell (World.block_lt_of_cell? w _ hw321_0)).trans hw321_0), ((HB.1.cell (World.block_lt_of_cell? w _ hw321_1)).trans hw321_1), ((HB.1.cell (World.block_lt_of_cell? w _ hw321_2)).trans hw321_2), ((HB.1.cell (World.block_lt_of_cell? w _ hw321_3)).trans hw321_3), ((HB.1.cell (World.block_lt_of_cell? w _ hw321_4)).trans hw321_4)⟩ (fun hHeld => ?_)
     clear hK K
     refine zNo ?_
     refine zPu 16 ?_
     refine zPu 17 ?_
     refine zPu 18 ?_
     refine zPu 20 ?_
     refine zTk10 19 hHeld ?_
     refine zTk10 21 hHeld ?_
     refine zPu 22 ?_
     refine zTk10 23 hHeld ?_
     refine zOn 24 (some 59) fun K hK => ?_
     refine zGs Try.func65 #[.agg #[.int .i64 ((rd_T57 l0_1 ((rd_T61 l0_2 x30_2).f0)).f0), .int .i64 ((rd_T57 l0_1 ((rd_T61 l0_2 x30_2).f0)).f1), .int .i64 ((rd_T57 l0_1 ((rd_T61 l0_2 x30_2).f0)).f2), .int .i64 ((rd_T57 l0_1 ((rd_T61 l0_2 x30_2).f0)).f3), .int .i64 ((rd_T57 l0_1 ((rd_T61 l0_2 x30_2).f0)).f4)]] ?_
     with_reducible refine (impl_goesTo.calls ((rd_T57 l0_1 ((rd_T61 l0_2 x30_2).f0)).f0) ((rd_T57 l0_1 ((rd_T61 l0_2 x30_2).f0)).f1) ((rd_T57 l0_1 ((rd_T61 l0_2 x30_2).f0)).f2) ((rd_T57 l0_1 ((rd_T61 l0_2 x30_2).f0)).f3) ((rd_T57 l0_1 ((rd_T61 l0_2 x30_2).f0)).f4) true _ A35.1).mono ?_
     rintro e w46 ⟨rfl, hb⟩
     refine ⟨_, rfl, ?_⟩
     replace BK309 := zM (zb BK309.1 hb)
     replace BK314 := zM (zb BK314.1 hb)
     replace HB := zM (below_step zB0 hb)
     refine hK.out _ _ ⟨(blk_cell BK314.1 0).trans rfl, (blk_cell BK314.1 1).trans rfl, (blk_cell BK309.1 0).trans rfl, (blk_cell BK309.1 1).trans rfl, (blk_cell BK309.1 2).trans rfl, ((HB.1.cell (World.block_lt_of_cell? w _ hw321_0)).trans hw321_0), ((HB.1.cell (World.block_lt_of_cell? w _ hw321_1)).trans hw321_1), ((HB.1.cell (World.block_lt_of_cell? w _ hw321_2)).trans hw321_2), ((HB.1.cell (World.block_lt_of_cell? w _ hw321_3)).trans hw321_3), ((HB.1.cell (World.block_lt_of_cell? w _ hw321_4)).trans hw321_4)⟩ (fun hHeld => ?_)
     clear hK K
     refine zNo ?_
     refine zPu 25 ?_
     refine zPu 26 ?_
     refine zPu 27 ?_
     refine zPu 28 ?_
     refine zTk10 29 hHeld ?_
     refine zOn 30 (some 65) fun K hK => ?_
     refine zGs Try.func60 #[.string ((rd_T61 l0_2 x30_2).f1)] ?_
     with_reducible refine (impl_nameOk.calls k2 ((rd_T61 l0_2 x30_2).f1) true _ A37.1).mono ?_
     rintro e w' ⟨rfl, ⟨nd, rfl⟩⟩
     refine ⟨_, rfl, ?_⟩
     refine hK.out _ _ ⟨(blk_cell BK314.1 0).trans rfl, (blk_cell BK314.1 1).trans rfl, (blk_cell BK309.1 0).trans rfl, (blk_cell BK309.1 1).trans rfl, (blk_cell BK309.1 2).trans rfl, ((HB.1.cell (World.block_lt_of_cell? w _ hw321_0)).trans hw321_0), ((HB.1.cell (World.block_lt_of_cell? w _ hw321_1)).trans hw321_1), ((HB.1.cell (World.block_lt_of_cell? w _ hw321_2)).trans hw321_2), ((HB.1.cell (World.block_lt_of_cell? w _ hw321_3)).trans hw321_3), ((HB.1.cell (World.block_lt_of_cell? w _ hw321_4)).trans hw321_4)⟩ (fun hHeld => ?_)
     clear hK K
     refine zNo ?_
     refine zPu 31 ?_
     refine zPu 32 ?_
     refine done_ (done_of HT_.1 (by kernel_rfl)) ?_
     try go_wp2
     go_roundg k2
     case measure => have := HJ1.1; have := HK2.1; omega
     case rel => exact ⟨(wrap64 (x30_2 + 1)), zJJ, H', ⟨by have := HJ1.1; have := HK2.1; omega⟩, ⟨zK BK309.1⟩, ⟨zB0⟩⟩

end Go.Proofs.Ytaakcbgpmabaaaa.PFnLinked
