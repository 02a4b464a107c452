-- made by wip/tools/myprint.py out of the seat's translation
import Derived.Test.YtaakcbgpmabaaaaDoorPFnStoriesx0
import Derived.Test.YtaakcbgpmabaaaaDoorPFnStoriesx12
import Derived.Test.YtaakcbgpmabaaaaDoorPFnStoriesx13
namespace Go.Proofs.YtaakcbgpmabaaaaDoor.PFnStories
open Go.RowKit Go.Proofs.YtaakcbgpmabaaaaDoorW.PrintWords Go.Proofs.YtaakcbgpmabaaaaDoorW.PrintLast Go.Proofs.YtaakcbgpmabaaaaDoorW.PrintMore
attribute [local go_sem] max2_int min2_int max_two min_two max_three min_three max_four min_four   -- for this text's walks alone
set_option linter.unusedVariables false
set_option linter.unusedSimpArgs false
set_option maxHeartbeats 8000000
set_option maxRecDepth 100000

/-! ### impl_EventRead: function 11 -/
mutual
def impl_EventRead.l0 : Nat → List ByteArray → Int → Int → Int → Int → Int → Int → Int → Option (Int × Int × Int × Int × Int × Bool)
 | 0, _, _, _, _, _, _, _, _ => none
 | k + 1, x19, x20, x21, x670000, x670001, x670002, x670003, x670004 => if x21 < x20 then (if 0 ≤ x21 then (if x21 < (x19.length : Int) then ((impl_number.f k (rdOf ByteArray.empty x19 x21) 5).bind fun bt671 => (if (rdOf ByteArray.empty x19 x21).toList = ([45] : List UInt8) then (impl_EventRead.j1 k x21 (-1) true x19 x20 x21 x670000 x670001 x670002 x670003 x670004) else (impl_EventRead.j1 k x21 bt671.1 bt671.2 x19 x20 x21 x670000 x670001 x670002 x670003 x670004))) else (none)) else (none)) else (some (x670000, x670001, x670002, x670003, x670004, true))
def impl_EventRead.j1 : Nat → Int → Int → Bool → List ByteArray → Int → Int → Int → Int → Int → Int → Int → Option (Int × Int × Int × Int × Int × Bool)
 | 0, _, _, _, _, _, _, _, _, _, _, _ => none
 | k + 1, x6, x8, x9, x19, x20, x21, x670000, x670001, x670002, x670003, x670004 => if x6 < 2 then (if x9 = true then ((impl_from.f x8 0 99).bind fun t673 => (if t673 = true then (impl_EventRead.l0 k x19 x20 (wrap64 (x21 + 1)) (if x6 = 0 then x8 else x670000) (if x6 = 1 then x8 else x670001) (if x6 = 2 then x8 else x670002) (if x6 = 3 then x8 else x670003) (if x6 = 4 then x8 else x670004)) else (some (0, 0, 0, 0, 0, false)))) else (some (0, 0, 0, 0, 0, false))) else (if x9 = true then ((impl_from.f x8 (-1) 65535).bind fun t674 => (if t674 = true then (impl_EventRead.l0 k x19 x20 (wrap64 (x21 + 1)) (if x6 = 0 then x8 else x670000) (if x6 = 1 then x8 else x670001) (if x6 = 2 then x8 else x670002) (if x6 = 3 then x8 else x670003) (if x6 = 4 then x8 else x670004)) else (some (0, 0, 0, 0, 0, false)))) else (some (0, 0, 0, 0, 0, false)))
end
def impl_EventRead.f (k : Nat) (a0 : ByteArray) : Option (Int × Int × Int × Int × Int × Bool) := (strings_Split.f k a0 (⟨#[32]⟩ : ByteArray)).bind fun t666 => (if (t666.length : Int) = 5 then (impl_EventRead.l0 k t666 (t666.length : Int) 0 0 0 0 0 0) else (some (0, 0, 0, 0, 0, false)))
theorem impl_EventRead.mono_l : ∀ k, (∀ y0 y1 y2 y3 y4 y5 y6 y7, LeO (impl_EventRead.l0 k y0 y1 y2 y3 y4 y5 y6 y7) (impl_EventRead.l0 (k + 1) y0 y1 y2 y3 y4 y5 y6 y7)) ∧ (∀ y0 y1 y2 y3 y4 y5 y6 y7 y8 y9 y10, LeO (impl_EventRead.j1 k y0 y1 y2 y3 y4 y5 y6 y7 y8 y9 y10) (impl_EventRead.j1 (k + 1) y0 y1 y2 y3 y4 y5 y6 y7 y8 y9 y10))
 | 0 => ⟨fun _ _ _ _ _ _ _ _ r h => by simp [impl_EventRead.l0] at h, fun _ _ _ _ _ _ _ _ _ _ _ r h => by simp [impl_EventRead.j1] at h⟩
 | k + 1 => by
  obtain ⟨ih0, ih1⟩ := impl_EventRead.mono_l k
  refine ⟨?_, ?_⟩
  ·intros
   unfold impl_EventRead.l0
   have mo0 := @impl_number.mono
   have mo1 := @strings_Split.mono
   exact zL
  ·intros
   unfold impl_EventRead.j1
   have mo0 := @impl_number.mono
   have mo1 := @strings_Split.mono
   exact zL
theorem impl_EventRead.mono : ∀ a0 k, LeO (impl_EventRead.f k a0) (impl_EventRead.f (k + 1) a0) := by
 intro a0 k
 obtain ⟨ih0, ih1⟩ := impl_EventRead.mono_l k
 unfold impl_EventRead.f
 have mo0 := @impl_number.mono
 have mo1 := @strings_Split.mono
 exact zL
theorem impl_EventRead.calls (k : Nat) (a0 : ByteArray) (r1 : Int) (r2 : Int) (r3 : Int) (r4 : Int) (r5 : Int) (r6 : Bool) (w : World) (h : impl_EventRead.f k a0 = some (r1, r2, r3, r4, r5, r6)) :
  Calls Tryd.prog 11 #[.string a0] w fun e w' => e = .returned (.tuple #[.agg #[.int .i64 r1, .int .i64 r2, .int .i64 r3, .int .i64 r4, .int .i64 r5], .bool r6]) ∧ Below w.heap.size w w' := by
 have hu31 := Tryd.underlying31
 have hu49 := Tryd.underlying49
 have HB := zM (Below.refl w.heap.size w)
 unfold impl_EventRead.f at h
 have H := h
 clear h
 replace H := zO H
 obtain ⟨t666, A2, H⟩ := H
 by_cases c3 : (t666.length : Int) = 5
 rotate_left
 ·rw [if_neg c3] at H
  have c3b0 : ((t666.length : Int) == 5) = false := beq_eq_false_iff_ne.mpr c3
  have c3b1 : ((t666.length : Int) != 5) = true := bne_iff_ne.mpr c3
  simp only [Option.some.injEq, Prod.mk.injEq] at H
  obtain ⟨rfl, rfl, rfl, rfl, rfl, rfl⟩ := H
  go_enter Tryd.func11, Tryd.ntmps11
  go_wp2_with (first | ((with_reducible refine zBx 2 31 #[.int .i64 0, .int .i64 0, .int .i64 0, .int .i64 0, .int .i64 0] ?_); intro gb665 hg w38 hbox hb; have BK665 := zM hbox; have GW665 := zM (zW hg (below_size zB3)); have GE665 := zM (zW hg (below_size zB3)); replace HB := zM (below_step zB3 hb); clear hb hbox hg) | ((with_reducible refine gate_callee (f := 24) rfl ?_); refine goesL_ (some 13) rfl rfl Tryd.func24 (by kernel_rfl) rfl #[.string a0, .string (⟨#[32]⟩ : ByteArray)] rfl zT ?_; (with_reducible refine (strings_Split.calls k a0 (⟨#[32]⟩ : ByteArray) t666 _ A2.1).mono ?_); rintro e w39 ⟨v667, rfl, ho0, hb⟩; refine ⟨_, rfl, ?_⟩; have HO668 := zM (Kd.R_lower ho0 (below_size zB3)); replace BK665 := zM (zb BK665.1 hb); replace HB := zM (below_step zB3 hb); clear hb ho0; obtain ⟨Ao40, co40, eo40⟩ := Kd.R_slice HO668.1; subst eo40; have hcz41 := zc_5 (w := w39) BK665.1))
  refine bodyPost_ret (results_ct rfl _ _ gb665 31 #[.int .i64 0, .int .i64 0, .int .i64 0, .int .i64 0, .int .i64 0] (0, 0) _ rfl (by exact zp5 (zK BK665.1)) Tryd.underlying31 rfl (by kernel_rfl)) rfl ?_
  exact ⟨zE, zB3⟩
 rw [if_pos c3] at H
 have HT5_ := zM c3
 have c3b0 : ((t666.length : Int) == 5) = true := beq_iff_eq.mpr c3
 have c3b1 : ((t666.length : Int) != 5) = false := bne_eq_false_iff_eq.mpr c3
 clear c3
 have H' := zM H
 clear H
 go_enter Tryd.func11, Tryd.ntmps11
 go_wp2_with (first | ((with_reducible refine zBx 2 31 #[.int .i64 0, .int .i64 0, .int .i64 0, .int .i64 0, .int .i64 0] ?_); intro gb665 hg w4 hbox hb; have BK665 := zM hbox; have GW665 := zM (zW hg (below_size zB3)); have GE665 := zM (zW hg (below_size zB3)); replace HB := zM (below_step zB3 hb); clear hb hbox hg) | ((with_reducible refine gate_callee (f := 24) rfl ?_); refine goesL_ (some 13) rfl rfl Tryd.func24 (by kernel_rfl) rfl #[.string a0, .string (⟨#[32]⟩ : ByteArray)] rfl zT ?_; (with_reducible refine (strings_Split.calls k a0 (⟨#[32]⟩ : ByteArray) t666 _ A2.1).mono ?_); rintro e w5 ⟨v667, rfl, ho0, hb⟩; refine ⟨_, rfl, ?_⟩; have HO668 := zM (Kd.R_lower ho0 (below_size zB3)); replace BK665 := zM (zb BK665.1 hb); replace HB := zM (below_step zB3 hb); clear hb ho0; obtain ⟨Ao6, co6, eo6⟩ := Kd.R_slice HO668.1; subst eo6) | ((with_reducible refine zBx 5 49 #[.int .i64 0, .int .i64 0, .int .i64 0, .int .i64 0, .int .i64 0] ?_); intro gb669 hg w7 hbox hb; replace HO668 := zM (Kd.R_below (zR HO668.1) hb); have BK669 := zM hbox; have GW669 := zM (zW hg (below_size zB3)); have GE669 := zM (zW hg (below_size zB3)); replace HB := zM (below_step zB3 hb); have NB665_669 := zM ((zn BK665.1 hg : gb665 ≠ gb669)); have NB669_665 := zM ((zm BK665.1 hg : gb669 ≠ gb665)); replace BK665 := zM (zb BK665.1 hb); clear hb hbox hg; have hnb8 := NB669_665.1; have hnc8 := NB665_669.1; have hcz9 := zc_5 (w := w7) BK669.1))
 go_loopg [21] k (fun kq v21 w' => ∃ (x21_1 : Int) (x666000_1 : Int) (x666001_1 : Int) (x666002_1 : Int) (x666003_1 : Int) (x666004_1 : Int) (x670000_1 : Int) (x670001_1 : Int) (x670002_1 : Int) (x670003_1 : Int) (x670004_1 : Int), v21 = .int .i64 x21_1 ∧ Aside0 (impl_EventRead.l0 kq t666 (t666.length : Int) x21_1 x670000_1 x670001_1 x670002_1 x670003_1 x670004_1 = some (r1, r2, r3, r4, r5, r6)) ∧ Aside0 (kq ≤ k) ∧ Aside0 (Kd.R Kd.string 9 w' w.heap.size (fun _ => True) (.slice Ao6 t666.length co6) t666) ∧ Aside0 (w'.heap[gb665]? = some (.cells #[.int .i64 x666000_1, .int .i64 x666001_1, .int .i64 x666002_1, .int .i64 x666003_1, .int .i64 x666004_1] 31 (0, 0))) ∧ Aside0 (w'.heap[gb669]? = some (.cells #[.int .i64 x670000_1, .int .i64 x670001_1, .int .i64 x670002_1, .int .i64 x670003_1, .int .i64 x670004_1] 49 (0, 0))) ∧ Aside0 (Below w.heap.size w w'))
 case atStart => exact ⟨(0), (0), (0), (0), (0), (0), (0), (0), (0), (0), (0), zJJ, H', ⟨Nat.le_refl _⟩, ⟨by refine zrR ?_; exact Kd.R_mono (zfR (zfR (zfR (zfR (zfR (Kd.R_types HO668.1 BK669.1 (by decide))))))) (fun _ hk => trivial)⟩, ⟨zPq⟩, ⟨by exact zp5 (zK BK669.1)⟩, ⟨zB3⟩⟩
 case round =>
  clear H'
  obtain ⟨x21_1, x666000_1, x666001_1, x666002_1, x666003_1, x666004_1, x670000_1, x670001_1, x670002_1, x670003_1, x670004_1, rfl, HA, HK1, HO_19, BK665, BK669, HB⟩ := hrel
  cases gk with
  | zero => exact absurd HA.1 (by simp [impl_EventRead.l0])
  | succ k1 =>
   have H := HA.1
   clear HA
   simp only [impl_EventRead.l0] at H
   by_cases c10 : x21_1 < (t666.length : Int)
   rotate_left
   ·rw [if_neg c10] at H
    have c10b0 := decide_eq_false c10
    clear c10
    simp only [Option.some.injEq, Prod.mk.injEq] at H
    obtain ⟨rfl, rfl, rfl, rfl, rfl, rfl⟩ := H
    have hnb35 := NB669_665.1
    have hnc35 := NB665_669.1
    have hcz36 := zc_5 (w := wr) BK669.1
    have hcz37 := zc_5 (w := wr) BK665.1
    go_wp2
    refine bodyPost_ret (results_ct rfl _ _ gb665 31 #[.int .i64 x670000_1, .int .i64 x670001_1, .int .i64 x670002_1, .int .i64 x670003_1, .int .i64 x670004_1] (0, 0) _ rfl (by exact zp5 (zK BK665.1)) Tryd.underlying31 rfl (by kernel_rfl)) rfl ?_
    exact ⟨zE, zB3⟩
   rw [if_pos c10] at H
   have HX1_ := zM c10
   have c10b0 := decide_eq_true c10
   clear c10
   replace H := zIp H
   obtain ⟨c11, H⟩ := H
   have HX0_ := zM c11
   have c11b0 := decide_eq_true c11
   clear c11
   replace H := zIp H
   obtain ⟨c12, H⟩ := H
   have HX1_ := zM c12
   have c12b0 := decide_eq_true c12
   clear c12
   replace H := zO H
   obtain ⟨⟨t671, t672⟩, A13, H⟩ := H
   try dsimp only at H
   have HC14 := zM H
   clear H
   obtain ⟨p670, q670, ad670, e670, hx670_0⟩ := zRd (Kd.at_string (Kd.R_reads' HO_19.1).2.2 x21_1)
   cases e670
   go_upto_if 32 with (first | ((with_reducible refine gate_callee (f := 25) rfl ?_); refine goesL_ (some 28) rfl rfl Tryd.func25 (by kernel_rfl) rfl #[.string (rdOf ByteArray.empty t666 x21_1), .int .i64 5] rfl zT ?_; (with_reducible refine (impl_number.calls k1 (rdOf ByteArray.empty t666 x21_1) 5 t671 t672 _ A13.1).mono ?_); rintro e w' ⟨rfl, ⟨nd, rfl⟩⟩; refine ⟨_, rfl, ?_⟩))
   (try simp only [Act.put, List.setIfInBounds_toArray, List.set_cons_zero, List.set_cons_succ])
   go_cut [8, 9] (fun v8 v9 wc => ∃ (kq : Nat) (x8_13 : Int) (x9_13 : Bool), v8 = .int .i64 x8_13 ∧ v9 = .bool x9_13 ∧ Aside0 (impl_EventRead.j1 kq x21_1 x8_13 x9_13 t666 (t666.length : Int) x21_1 x670000_1 x670001_1 x670002_1 x670003_1 x670004_1 = some (r1, r2, r3, r4, r5, r6)) ∧ Aside0 (kq ≤ k1) ∧ Aside0 (Kd.R Kd.string 9 wc w.heap.size (fun _ => True) (.slice (some ad670) t666.length co6) t666) ∧ Aside0 (wc.heap[gb665]? = some (.cells #[.int .i64 x666000_1, .int .i64 x666001_1, .int .i64 x666002_1, .int .i64 x666003_1, .int .i64 x666004_1] 31 (0, 0))) ∧ Aside0 (wc.heap[gb669]? = some (.cells #[.int .i64 x670000_1, .int .i64 x670001_1, .int .i64 x670002_1, .int .i64 x670003_1, .int .i64 x670004_1] 49 (0, 0))) ∧ Aside0 (Below w.heap.size w wc))
   case first =>
    have H := HC14.1
    clear HC14
    by_cases c15 : (rdOf ByteArray.empty t666 x21_1).toList = ([45] : List UInt8)
    rotate_left
    ·rw [if_neg c15] at H
     have c15b0 : ((rdOf ByteArray.empty t666 x21_1).toList == ([45] : List UInt8)) = false := beq_eq_false_iff_ne.mpr c15
     have c15b1 : ((rdOf ByteArray.empty t666 x21_1).toList != ([45] : List UInt8)) = true := bne_iff_ne.mpr c15
     (first | rw [c15b0] | (simp only [i64_w, i32_w]; rw [c15b0]) | skip)
     have H' := zM H
     clear H
     go_wp2
     go_meet
     case rel => exact ⟨_, (t671), (t672), zJJ, zJJ, H', ⟨by have := HK1.1; first | omega | exact Nat.le_refl _⟩, ⟨zR HO_19.1⟩, ⟨zK BK665.1⟩, ⟨zK BK669.1⟩, ⟨zB3⟩⟩
    rw [if_pos c15] at H
    have c15b0 : ((rdOf ByteArray.empty t666 x21_1).toList == ([45] : List UInt8)) = true := beq_iff_eq.mpr c15
    have c15b1 : ((rdOf ByteArray.empty t666 x21_1).toList != ([45] : List UInt8)) = false := bne_eq_false_iff_eq.mpr c15
    clear c15
    (first | rw [c15b0] | (simp only [i64_w, i32_w]; rw [c15b0]) | skip)
    have H' := zM H
    clear H
    go_wp2
    go_meet
    case rel => exact ⟨_, ((-1)), (true), zJJ, zJJ, H', ⟨by have := HK1.1; first | omega | exact Nat.le_refl _⟩, ⟨zR HO_19.1⟩, ⟨zK BK665.1⟩, ⟨zK BK669.1⟩, ⟨zB3⟩⟩
   case rest =>
    clear HC14
    obtain ⟨kq, x8_13, x9_13, rfl, rfl, HA, HJ13, HO_19, BK665, BK669, HB⟩ := hcut
    cases kq with
    | zero => exact absurd HA.1 (by simp [impl_EventRead.j1])
    | succ kj13 =>
     have H := HA.1
     clear HA
     simp only [impl_EventRead.j1] at H
     by_cases c16 : x21_1 < 2
     ·rw [if_pos c16] at H
      have c16b0 := decide_eq_true c16
      clear c16
      by_cases c17 : x9_13 = true
      rotate_left
      ·replace c17 := Bool.eq_false_iff.mpr c17
       subst c17
       rw [if_neg zF] at H
       simp only [Option.some.injEq, Prod.mk.injEq] at H
       obtain ⟨rfl, rfl, rfl, rfl, rfl, rfl⟩ := H
       have hnb24 := NB665_669.1
       have hnc24 := NB669_665.1
       have hcz25 := zc_5 (w := wc) BK665.1
       go_wp2
       refine bodyPost_ret (results_ct rfl _ _ gb665 31 #[.int .i64 0, .int .i64 0, .int .i64 0, .int .i64 0, .int .i64 0] (0, 0) _ rfl (by exact zp5 (zK BK665.1)) Tryd.underlying31 rfl (by kernel_rfl)) rfl ?_
       exact ⟨zE, zB3⟩
      subst c17
      rw [if_pos rfl] at H
      replace H := zO H
      obtain ⟨t673, A18, H⟩ := H
      by_cases c19 : t673 = true
      rotate_left
      ·replace c19 := Bool.eq_false_iff.mpr c19
       subst c19
       rw [if_neg zF] at H
       simp only [Option.some.injEq, Prod.mk.injEq] at H
       obtain ⟨rfl, rfl, rfl, rfl, rfl, rfl⟩ := H
       go_wp2_with (first | (go_at_call 26; (with_reducible refine (impl_from.calls x8_13 0 99 false _ A18.1).mono ?_); rintro e w' ⟨rfl, ⟨nd, rfl⟩⟩; (try (rw [drewN_self wc]; generalize hq_ : World.drewN wc _ = wc; have n0_ : Aside0 (Kd.R Kd.string 9 wc w.heap.size (fun _ => True) (.slice (some ad670) t666.length co6) t666) := ⟨by rw [← hq_]; exact (zR HO_19.1)⟩; have n1_ : Aside0 (wc.heap[gb665]? = some (.cells #[.int .i64 x666000_1, .int .i64 x666001_1, .int .i64 x666002_1, .int .i64 x666003_1, .int .i64 x666004_1] 31 (0, 0))) := ⟨by rw [← hq_]; exact (zK BK665.1)⟩; have n2_ : Aside0 (wc.heap[gb669]? = some (.cells #[.int .i64 x670000_1, .int .i64 x670001_1, .int .i64 x670002_1, .int .i64 x670003_1, .int .i64 x670004_1] 49 (0, 0))) := ⟨by rw [← hq_]; exact (zK BK669.1)⟩; have n3_ : Aside0 (Below w.heap.size w wc) := ⟨by rw [← hq_]; exact zB3⟩; clear HO_19 BK665 BK669 HB hq_; have HO_19 := n0_; have BK665 := n1_; have BK669 := n2_; have HB := n3_; clear n0_ n1_ n2_ n3_)); have hnb22 := NB665_669.1; have hnc22 := NB669_665.1; have hcz23 := zc_5 (w := wc) BK665.1))
       refine bodyPost_ret (results_ct rfl _ _ gb665 31 #[.int .i64 0, .int .i64 0, .int .i64 0, .int .i64 0, .int .i64 0] (0, 0) _ rfl (by exact zp5 (zK BK665.1)) Tryd.underlying31 rfl (by kernel_rfl)) rfl ?_
       exact ⟨zE, zB3⟩
      subst c19
      rw [if_pos rfl] at H
      have hlo_ := HX0_.out; have hhi_ := HX1_.out; have h5_ := HT5_.out; have h2_ : x21_1 < 2 := of_decide_eq_true c16b0
      clear HX0_ HX1_
      rcases (show x21_1 = 0 ∨ x21_1 = 1 by omega) with hq_ | hq_
      ·subst hq_
       clear hlo_ hhi_ h5_ h2_
       rw [if_pos (show (0 : Int) = 0 from rfl), if_neg (show ¬ (0 : Int) = 1 by decide), if_neg (show ¬ (0 : Int) = 2 by decide), if_neg (show ¬ (0 : Int) = 3 by decide), if_neg (show ¬ (0 : Int) = 4 by decide)] at H
       have H' := zM H
       clear H
       go_wp2_with (first | (go_at_call 26; (with_reducible refine (impl_from.calls x8_13 0 99 true _ A18.1).mono ?_); rintro e w' ⟨rfl, ⟨nd, rfl⟩⟩; (try (rw [drewN_self wc]; generalize hq_ : World.drewN wc _ = wc; have n0_ : Aside0 (Kd.R Kd.string 9 wc w.heap.size (fun _ => True) (.slice (some ad670) t666.length co6) t666) := ⟨by rw [← hq_]; exact (zR HO_19.1)⟩; have n1_ : Aside0 (wc.heap[gb665]? = some (.cells #[.int .i64 x666000_1, .int .i64 x666001_1, .int .i64 x666002_1, .int .i64 x666003_1, .int .i64 x666004_1] 31 (0, 0))) := ⟨by rw [← hq_]; exact (zK BK665.1)⟩; have n2_ : Aside0 (wc.heap[gb669]? = some (.cells #[.int .i64 x670000_1, .int .i64 x670001_1, .int .i64 x670002_1, .int .i64 x670003_1, .int .i64 x670004_1] 49 (0, 0))) := ⟨by rw [← hq_]; exact (zK BK669.1)⟩; have n3_ : Aside0 (Below w.heap.size w wc) := ⟨by rw [← hq_]; exact zB3⟩; clear HO_19 BK665 BK669 HB hq_; have HO_19 := n0_; have BK665 := n1_; have BK669 := n2_; have HB := n3_; clear n0_ n1_ n2_ n3_)); have hnb20 := NB669_665.1; have hnc20 := NB665_669.1; have hcz21 := zc_5 (w := wc) BK669.1))
       go_roundg kj13
       case measure => have := HK1.1; have := HJ13.1; omega
       case rel => exact ⟨(wrap64 ((0 : Int) + 1)), (x666000_1), (x666001_1), (x666002_1), (x666003_1), (x666004_1), (x8_13), (x670001_1), (x670002_1), (x670003_1), (x670004_1), (by first | rfl | (simp; done) | (simp; unfold wrap64; omega) | (simp [*]; done)), H', ⟨by have := HK1.1; have := HJ13.1; omega⟩, ⟨by refine zrR ?_; exact Kd.R_mono (zfR (Kd.R_types HO_19.1 BK669.1 (by decide))) (fun _ hk => trivial)⟩, ⟨by refine zP ?_; refine blk_far ?_ NB665_669.1 _; refine zP ?_; exact BK665.1⟩, ⟨by refine zP ?_; refine blk_put (cs := #[.int .i64 x670000_1, .int .i64 x670001_1, .int .i64 x670002_1, .int .i64 x670003_1, .int .i64 x670004_1]) ?_ 0 _ rfl; refine zP ?_; exact BK669.1⟩, ⟨zB3⟩⟩
      ·subst hq_
       clear hlo_ hhi_ h5_ h2_
       rw [if_neg (show ¬ (1 : Int) = 0 by decide), if_pos (show (1 : Int) = 1 from rfl), if_neg (show ¬ (1 : Int) = 2 by decide), if_neg (show ¬ (1 : Int) = 3 by decide), if_neg (show ¬ (1 : Int) = 4 by decide)] at H
       have H' := zM H
       clear H
       go_wp2_with (first | (go_at_call 26; (with_reducible refine (impl_from.calls x8_13 0 99 true _ A18.1).mono ?_); rintro e w' ⟨rfl, ⟨nd, rfl⟩⟩; (try (rw [drewN_self wc]; generalize hq_ : World.drewN wc _ = wc; have n0_ : Aside0 (Kd.R Kd.string 9 wc w.heap.size (fun _ => True) (.slice (some ad670) t666.length co6) t666) := ⟨by rw [← hq_]; exact (zR HO_19.1)⟩; have n1_ : Aside0 (wc.heap[gb665]? = some (.cells #[.int .i64 x666000_1, .int .i64 x666001_1, .int .i64 x666002_1, .int .i64 x666003_1, .int .i64 x666004_1] 31 (0, 0))) := ⟨by rw [← hq_]; exact (zK BK665.1)⟩; have n2_ : Aside0 (wc.heap[gb669]? = some (.cells #[.int .i64 x670000_1, .int .i64 x670001_1, .int .i64 x670002_1, .int .i64 x670003_1, .int .i64 x670004_1] 49 (0, 0))) := ⟨by rw [← hq_]; exact (zK BK669.1)⟩; have n3_ : Aside0 (Below w.heap.size w wc) := ⟨by rw [← hq_]; exact zB3⟩; clear HO_19 BK665 BK669 HB hq_; have HO_19 := n0_; have BK665 := n1_; have BK669 := n2_; have HB := n3_; clear n0_ n1_ n2_ n3_)); have hnb20 := NB669_665.1; have hnc20 := NB665_669.1; have hcz21 := zc_5 (w := wc) BK669.1))
       go_roundg kj13
       case measure => have := HK1.1; have := HJ13.1; omega
       case rel => exact ⟨(wrap64 ((1 : Int) + 1)), (x666000_1), (x666001_1), (x666002_1), (x666003_1), (x666004_1), (x670000_1), (x8_13), (x670002_1), (x670003_1), (x670004_1), (by first | rfl | (simp; done) | (simp; unfold wrap64; omega) | (simp [*]; done)), H', ⟨by have := HK1.1; have := HJ13.1; omega⟩, ⟨by refine zrR ?_; exact Kd.R_mono (zfR (Kd.R_types HO_19.1 BK669.1 (by decide))) (fun _ hk => trivial)⟩, ⟨by refine zP ?_; refine blk_far ?_ NB665_669.1 _; refine zP ?_; exact BK665.1⟩, ⟨by refine zP ?_; refine blk_put (cs := #[.int .i64 x670000_1, .int .i64 x670001_1, .int .i64 x670002_1, .int .i64 x670003_1, .int .i64 x670004_1]) ?_ 1 _ rfl; refine zP ?_; exact BK669.1⟩, ⟨zB3⟩⟩
     rw [if_neg c16] at H
     have c16b0 := decide_eq_false c16
     clear c16
     by_cases c26 : x9_13 = true
     rotate_left
     ·replace c26 := Bool.eq_false_iff.mpr c26
      subst c26
      rw [if_neg zF] at H
      simp only [Option.some.injEq, Prod.mk.injEq] at H
      obtain ⟨rfl, rfl, rfl, rfl, rfl, rfl⟩ := H
      have hnb33 := NB665_669.1
      have hnc33 := NB669_665.1
      have hcz34 := zc_5 (w := wc) BK665.1
      go_wp2
      refine bodyPost_ret (results_ct rfl _ _ gb665 31 #[.int .i64 0, .int .i64 0, .int .i64 0, .int .i64 0, .int .i64 0] (0, 0) _ rfl (by exact zp5 (zK BK665.1)) Tryd.underlying31 rfl (by kernel_rfl)) rfl ?_
      exact ⟨zE, zB3⟩
     subst c26
     rw [if_pos rfl] at H
     replace H := zO H
     obtain ⟨t674, A27, H⟩ := H
     by_cases c28 : t674 = true
     rotate_left
     ·replace c28 := Bool.eq_false_iff.mpr c28
      subst c28
      rw [if_neg zF] at H
      simp only [Option.some.injEq, Prod.mk.injEq] at H
      obtain ⟨rfl, rfl, rfl, rfl, rfl, rfl⟩ := H
      go_wp2_with (first | (go_at_call 26; (with_reducible refine (impl_from.calls x8_13 (-1) 65535 false _ A27.1).mono ?_); rintro e w' ⟨rfl, ⟨nd, rfl⟩⟩; (try (rw [drewN_self wc]; generalize hq_ : World.drewN wc _ = wc; have n0_ : Aside0 (Kd.R Kd.string 9 wc w.heap.size (fun _ => True) (.slice (some ad670) t666.length co6) t666) := ⟨by rw [← hq_]; exact (zR HO_19.1)⟩; have n1_ : Aside0 (wc.heap[gb665]? = some (.cells #[.int .i64 x666000_1, .int .i64 x666001_1, .int .i64 x666002_1, .int .i64 x666003_1, .int .i64 x666004_1] 31 (0, 0))) := ⟨by rw [← hq_]; exact (zK BK665.1)⟩; have n2_ : Aside0 (wc.heap[gb669]? = some (.cells #[.int .i64 x670000_1, .int .i64 x670001_1, .int .i64 x670002_1, .int .i64 x670003_1, .int .i64 x670004_1] 49 (0, 0))) := ⟨by rw [← hq_]; exact (zK BK669.1)⟩; have n3_ : Aside0 (Below w.heap.size w wc) := ⟨by rw [← hq_]; exact zB3⟩; clear HO_19 BK665 BK669 HB hq_; have HO_19 := n0_; have BK665 := n1_; have BK669 := n2_; have HB := n3_; clear n0_ n1_ n2_ n3_)); have hnb31 := NB665_669.1; have hnc31 := NB669_665.1; have hcz32 := zc_5 (w := wc) BK665.1))
      refine bodyPost_ret (results_ct rfl _ _ gb665 31 #[.int .i64 0, .int .i64 0, .int .i64 0, .int .i64 0, .int .i64 0] (0, 0) _ rfl (by exact zp5 (zK BK665.1)) Tryd.underlying31 rfl (by kernel_rfl)) rfl ?_
      exact ⟨zE, zB3⟩
     subst c28
     rw [if_pos rfl] at H
     have hlo_ := HX0_.out; have hhi_ := HX1_.out; have h5_ := HT5_.out; have h2_ : ¬ x21_1 < 2 := of_decide_eq_false c16b0
     clear HX0_ HX1_
     rcases (show x21_1 = 2 ∨ x21_1 = 3 ∨ x21_1 = 4 by omega) with hq_ | hq_ | hq_
     ·subst hq_
      clear hlo_ hhi_ h5_ h2_
      rw [if_neg (show ¬ (2 : Int) = 0 by decide), if_neg (show ¬ (2 : Int) = 1 by decide), if_pos (show (2 : Int) = 2 from rfl), if_neg (show ¬ (2 : Int) = 3 by decide), if_neg (show ¬ (2 : Int) = 4 by decide)] at H
      have H' := zM H
      clear H
      go_wp2_with (first | (go_at_call 26; (with_reducible refine (impl_from.calls x8_13 (-1) 65535 true _ A27.1).mono ?_); rintro e w' ⟨rfl, ⟨nd, rfl⟩⟩; (try (rw [drewN_self wc]; generalize hq_ : World.drewN wc _ = wc; have n0_ : Aside0 (Kd.R Kd.string 9 wc w.heap.size (fun _ => True) (.slice (some ad670) t666.length co6) t666) := ⟨by rw [← hq_]; exact (zR HO_19.1)⟩; have n1_ : Aside0 (wc.heap[gb665]? = some (.cells #[.int .i64 x666000_1, .int .i64 x666001_1, .int .i64 x666002_1, .int .i64 x666003_1, .int .i64 x666004_1] 31 (0, 0))) := ⟨by rw [← hq_]; exact (zK BK665.1)⟩; have n2_ : Aside0 (wc.heap[gb669]? = some (.cells #[.int .i64 x670000_1, .int .i64 x670001_1, .int .i64 x670002_1, .int .i64 x670003_1, .int .i64 x670004_1] 49 (0, 0))) := ⟨by rw [← hq_]; exact (zK BK669.1)⟩; have n3_ : Aside0 (Below w.heap.size w wc) := ⟨by rw [← hq_]; exact zB3⟩; clear HO_19 BK665 BK669 HB hq_; have HO_19 := n0_; have BK665 := n1_; have BK669 := n2_; have HB := n3_; clear n0_ n1_ n2_ n3_)); have hnb29 := NB669_665.1; have hnc29 := NB665_669.1; have hcz30 := zc_5 (w := wc) BK669.1))
      go_roundg kj13
      case measure => have := HK1.1; have := HJ13.1; omega
      case rel => exact ⟨(wrap64 ((2 : Int) + 1)), (x666000_1), (x666001_1), (x666002_1), (x666003_1), (x666004_1), (x670000_1), (x670001_1), (x8_13), (x670003_1), (x670004_1), (by first | rfl | (simp; done) | (simp; unfold wrap64; omega) | (simp [*]; done)), H', ⟨by have := HK1.1; have := HJ13.1; omega⟩, ⟨by refine zrR ?_; exact Kd.R_mono (zfR (Kd.R_types HO_19.1 BK669.1 (by decide))) (fun _ hk => trivial)⟩, ⟨by refine zP ?_; refine blk_far ?_ NB665_669.1 _; refine zP ?_; exact BK665.1⟩, ⟨by refine zP ?_; refine blk_put (cs := #[.int .i64 x670000_1, .int .i64 x670001_1, .int .i64 x670002_1, .int .i64 x670003_1, .int .i64 x670004_1]) ?_ 2 _ rfl; refine zP ?_; exact BK669.1⟩, ⟨zB3⟩⟩
     ·subst hq_
      clear hlo_ hhi_ h5_ h2_
      rw [if_neg (show ¬ (3 : Int) = 0 by decide), if_neg (show ¬ (3 : Int) = 1 by decide), if_neg (show ¬ (3 : Int) = 2 by decide), if_pos (show (3 : Int) = 3 from rfl), if_neg (show ¬ (3 : Int) = 4 by decide)] at H
      have H' := zM H
      clear H
      go_wp2_with (first | (go_at_call 26; (with_reducible refine (impl_from.calls x8_13 (-1) 65535 true _ A27.1).mono ?_); rintro e w' ⟨rfl, ⟨nd, rfl⟩⟩; (try (rw [drewN_self wc]; generalize hq_ : World.drewN wc _ = wc; have n0_ : Aside0 (Kd.R Kd.string 9 wc w.heap.size (fun _ => True) (.slice (some ad670) t666.length co6) t666) := ⟨by rw [← hq_]; exact (zR HO_19.1)⟩; have n1_ : Aside0 (wc.heap[gb665]? = some (.cells #[.int .i64 x666000_1, .int .i64 x666001_1, .int .i64 x666002_1, .int .i64 x666003_1, .int .i64 x666004_1] 31 (0, 0))) := ⟨by rw [← hq_]; exact (zK BK665.1)⟩; have n2_ : Aside0 (wc.heap[gb669]? = some (.cells #[.int .i64 x670000_1, .int .i64 x670001_1, .int .i64 x670002_1, .int .i64 x670003_1, .int .i64 x670004_1] 49 (0, 0))) := ⟨by rw [← hq_]; exact (zK BK669.1)⟩; have n3_ : Aside0 (Below w.heap.size w wc) := ⟨by rw [← hq_]; exact zB3⟩; clear HO_19 BK665 BK669 HB hq_; have HO_19 := n0_; have BK665 := n1_; have BK669 := n2_; have HB := n3_; clear n0_ n1_ n2_ n3_)); have hnb29 := NB669_665.1; have hnc29 := NB665_669.1; have hcz30 := zc_5 (w := wc) BK669.1))
      go_roundg kj13
      case measure => have := HK1.1; have := HJ13.1; omega
      case rel => exact ⟨(wrap64 ((3 : Int) + 1)), (x666000_1), (x666001_1), (x666002_1), (x666003_1), (x666004_1), (x670000_1), (x670001_1), (x670002_1), (x8_13), (x670004_1), (by first | rfl | (simp; done) | (simp; unfold wrap64; omega) | (simp [*]; done)), H', ⟨by have := HK1.1; have := HJ13.1; omega⟩, ⟨by refine zrR ?_; exact Kd.R_mono (zfR (Kd.R_types HO_19.1 BK669.1 (by decide))) (fun _ hk => trivial)⟩, ⟨by refine zP ?_; refine blk_far ?_ NB665_669.1 _; refine zP ?_; exact BK665.1⟩, ⟨by refine zP ?_; refine blk_put (cs := #[.int .i64 x670000_1, .int .i64 x670001_1, .int .i64 x670002_1, .int .i64 x670003_1, .int .i64 x670004_1]) ?_ 3 _ rfl; refine zP ?_; exact BK669.1⟩, ⟨zB3⟩⟩
     ·subst hq_
      clear hlo_ hhi_ h5_ h2_
      rw [if_neg (show ¬ (4 : Int) = 0 by decide), if_neg (show ¬ (4 : Int) = 1 by decide), if_neg (show ¬ (4 : Int) = 2 by decide), if_neg (show ¬ (4 : Int) = 3 by decide), if_pos (show (4 : Int) = 4 from rfl)] at H
      have H' := zM H
      clear H
      go_wp2_with (first | (go_at_call 26; (with_reducible refine (impl_from.calls x8_13 (-1) 65535 true _ A27.1).mono ?_); rintro e w' ⟨rfl, ⟨nd, rfl⟩⟩; (try (rw [drewN_self wc]; generalize hq_ : World.drewN wc _ = wc; have n0_ : Aside0 (Kd.R Kd.string 9 wc w.heap.size (fun _ => True) (.slice (some ad670) t666.length co6) t666) := ⟨by rw [← hq_]; exact (zR HO_19.1)⟩; have n1_ : Aside0 (wc.heap[gb665]? = some (.cells #[.int .i64 x666000_1, .int .i64 x666001_1, .int .i64 x666002_1, .int .i64 x666003_1, .int .i64 x666004_1] 31 (0, 0))) := ⟨by rw [← hq_]; exact (zK BK665.1)⟩; have n2_ : Aside0 (wc.heap[gb669]? = some (.cells #[.int .i64 x670000_1, .int .i64 x670001_1, .int .i64 x670002_1, .int .i64 x670003_1, .int .i64 x670004_1] 49 (0, 0))) := ⟨by rw [← hq_]; exact (zK BK669.1)⟩; have n3_ : Aside0 (Below w.heap.size w wc) := ⟨by rw [← hq_]; exact zB3⟩; clear HO_19 BK665 BK669 HB hq_; have HO_19 := n0_; have BK665 := n1_; have BK669 := n2_; have HB := n3_; clear n0_ n1_ n2_ n3_)); have hnb29 := NB669_665.1; have hnc29 := NB665_669.1; have hcz30 := zc_5 (w := wc) BK669.1))
      go_roundg kj13
      case measure => have := HK1.1; have := HJ13.1; omega
      case rel => exact ⟨(wrap64 ((4 : Int) + 1)), (x666000_1), (x666001_1), (x666002_1), (x666003_1), (x666004_1), (x670000_1), (x670001_1), (x670002_1), (x670003_1), (x8_13), (by first | rfl | (simp; done) | (simp; unfold wrap64; omega) | (simp [*]; done)), H', ⟨by have := HK1.1; have := HJ13.1; omega⟩, ⟨by refine zrR ?_; exact Kd.R_mono (zfR (Kd.R_types HO_19.1 BK669.1 (by decide))) (fun _ hk => trivial)⟩, ⟨by refine zP ?_; refine blk_far ?_ NB665_669.1 _; refine zP ?_; exact BK665.1⟩, ⟨by refine zP ?_; refine blk_put (cs := #[.int .i64 x670000_1, .int .i64 x670001_1, .int .i64 x670002_1, .int .i64 x670003_1, .int .i64 x670004_1]) ?_ 4 _ rfl; refine zP ?_; exact BK669.1⟩, ⟨zB3⟩⟩

/-! ### stringslite_Cut: function 37 -/
def stringslite_Cut.f (a0 : ByteArray) (a1 : ByteArray) : Option (ByteArray × ByteArray × Bool) := (stringslite_Index.f a0 a1).bind fun t675 => (if t675 ≥ 0 then (if 0 ≤ t675 then (if t675 ≤ (a0.size : Int) then (if 0 ≤ (wrap64 (t675 + (a1.size : Int))) then (if (wrap64 (t675 + (a1.size : Int))) ≤ (a0.size : Int) then (some (a0.extract 0 (t675 : Int).toNat, a0.extract ((wrap64 (t675 + (a1.size : Int))) : Int).toNat a0.size, true)) else (none)) else (none)) else (none)) else (none)) else (some (a0, (⟨#[]⟩ : ByteArray), false)))
theorem stringslite_Cut.calls (a0 : ByteArray) (a1 : ByteArray) (r1 : ByteArray) (r2 : ByteArray) (r3 : Bool) (w : World) (h : stringslite_Cut.f a0 a1 = some (r1, r2, r3)) :
  Calls Tryd.prog 37 #[.string a0, .string a1] w fun e w' => e = .returned (.tuple #[.string r1, .string r2, .bool r3]) ∧ Drawn0 w w' := by
 unfold stringslite_Cut.f at h
 have H := h
 clear h
 replace H := zO H
 obtain ⟨t675, A3, H⟩ := H
 by_cases c4 : t675 ≥ 0
 rotate_left
 ·rw [if_neg c4] at H
  have c4b0 := decide_eq_false c4
  clear c4
  simp only [Option.some.injEq, Prod.mk.injEq] at H
  obtain ⟨rfl, rfl, rfl⟩ := H
  go_enter Tryd.func37, Tryd.ntmps37
  go_wp2_with (first | (go_at_call 51; (with_reducible refine (stringslite_Index.calls a0 a1 t675 _ A3.1).mono ?_); rintro e w' ⟨rfl, ⟨nd, rfl⟩⟩; (try first | exact ⟨rfl, _, World.drewN_drewN _ _ _⟩ | exact ⟨rfl, _, Eq.trans (World.drewN_drewN _ _ _) (congrArg (World.drewN _) (Nat.add_assoc _ _ _))⟩)))
  repeat (go_quiet (first | (go_at_call 51; (with_reducible refine (stringslite_Index.calls a0 a1 t675 _ A3.1).mono ?_); rintro e w' ⟨rfl, ⟨nd, rfl⟩⟩; (try first | exact ⟨rfl, _, World.drewN_drewN _ _ _⟩ | exact ⟨rfl, _, Eq.trans (World.drewN_drewN _ _ _) (congrArg (World.drewN _) (Nat.add_assoc _ _ _))⟩))); try go_wp2_with (first | (go_at_call 51; (with_reducible refine (stringslite_Index.calls a0 a1 t675 _ A3.1).mono ?_); rintro e w' ⟨rfl, ⟨nd, rfl⟩⟩; (try first | exact ⟨rfl, _, World.drewN_drewN _ _ _⟩ | exact ⟨rfl, _, Eq.trans (World.drewN_drewN _ _ _) (congrArg (World.drewN _) (Nat.add_assoc _ _ _))⟩))))
  go_ret3
  exact ⟨zJJ, zDD⟩
 rw [if_pos c4] at H
 have c4b0 := decide_eq_true c4
 clear c4
 replace H := zIp H
 obtain ⟨c5, H⟩ := H
 have c5b0 := eq_true c5
 have c5b1 : decide (0 ≤ t675) = true := decide_eq_true c5
 clear c5
 replace H := zIp H
 obtain ⟨c6, H⟩ := H
 have c6b0 := eq_true c6
 have c6b1 : decide (t675 ≤ (a0.size : Int)) = true := decide_eq_true c6
 clear c6
 obtain ⟨ji7, hji7⟩ : ∃ j_ : Int, (wrap64 (t675 + (a1.size : Int))) = j_ := ⟨_, rfl⟩
 replace H : (if 0 ≤ (ji7) then (if (ji7) ≤ (a0.size : Int) then (some (a0.extract 0 (t675 : Int).toNat, a0.extract ((ji7) : Int).toNat a0.size, true)) else (none)) else (none)) = some (r1, r2, r3) := by first | (rw [hji7] at H; exact H) | (simp only [hji7] at H ⊢; exact H)
 (try rw [hji7] at A3)
 have hji7w : (IntKind.i64.wrap (t675 + (a1.size : Int))) = ji7 := (i64_w _).trans hji7
 replace H := zIp H
 obtain ⟨c8, H⟩ := H
 have c8b0 := eq_true c8
 have c8b1 : decide (0 ≤ (ji7)) = true := decide_eq_true c8
 clear c8
 replace H := zIp H
 obtain ⟨c9, H⟩ := H
 have c9b0 := eq_true c9
 have c9b1 : decide ((ji7) ≤ (a0.size : Int)) = true := decide_eq_true c9
 clear c9
 simp only [Option.some.injEq, Prod.mk.injEq] at H
 obtain ⟨rfl, rfl, rfl⟩ := H
 go_enter Tryd.func37, Tryd.ntmps37
 go_wp2_with (first | (go_at_call 51; (with_reducible refine (stringslite_Index.calls a0 a1 t675 _ A3.1).mono ?_); rintro e w' ⟨rfl, ⟨nd, rfl⟩⟩; (try first | exact ⟨rfl, _, World.drewN_drewN _ _ _⟩ | exact ⟨rfl, _, Eq.trans (World.drewN_drewN _ _ _) (congrArg (World.drewN _) (Nat.add_assoc _ _ _))⟩)))
 repeat (go_quiet (first | (go_at_call 51; (with_reducible refine (stringslite_Index.calls a0 a1 t675 _ A3.1).mono ?_); rintro e w' ⟨rfl, ⟨nd, rfl⟩⟩; (try first | exact ⟨rfl, _, World.drewN_drewN _ _ _⟩ | exact ⟨rfl, _, Eq.trans (World.drewN_drewN _ _ _) (congrArg (World.drewN _) (Nat.add_assoc _ _ _))⟩))); try go_wp2_with (first | (go_at_call 51; (with_reducible refine (stringslite_Index.calls a0 a1 t675 _ A3.1).mono ?_); rintro e w' ⟨rfl, ⟨nd, rfl⟩⟩; (try first | exact ⟨rfl, _, World.drewN_drewN _ _ _⟩ | exact ⟨rfl, _, Eq.trans (World.drewN_drewN _ _ _) (congrArg (World.drewN _) (Nat.add_assoc _ _ _))⟩))))
 go_ret3
 exact ⟨by first | rfl | (simp; done) | (simp only [← hji7] <;> (first | rfl | simp)) | (simp [*]; done), zDD⟩

/-! ### strings_Cut: function 21 -/
def strings_Cut.f (a0 : ByteArray) (a1 : ByteArray) : Option (ByteArray × ByteArray × Bool) := (stringslite_Cut.f a0 a1).bind fun bt676 => (some (bt676.1, bt676.2.1, bt676.2.2))
theorem strings_Cut.calls (a0 : ByteArray) (a1 : ByteArray) (r1 : ByteArray) (r2 : ByteArray) (r3 : Bool) (w : World) (h : strings_Cut.f a0 a1 = some (r1, r2, r3)) :
  Calls Tryd.prog 21 #[.string a0, .string a1] w fun e w' => e = .returned (.tuple #[.string r1, .string r2, .bool r3]) ∧ Drawn0 w w' := by
 unfold strings_Cut.f at h
 have H := h
 clear h
 replace H := zO H
 obtain ⟨⟨t676, t677, t678⟩, A3, H⟩ := H
 try dsimp only at H
 simp only [Option.some.injEq, Prod.mk.injEq] at H
 obtain ⟨rfl, rfl, rfl⟩ := H
 go_enter Tryd.func21, Tryd.ntmps21
 go_wp2_with (first | ((with_reducible refine gate_callee (f := 37) rfl ?_); refine goesL_ (some 9) rfl rfl Tryd.func37 (by kernel_rfl) rfl #[.string a0, .string a1] rfl zT ?_; (with_reducible refine (stringslite_Cut.calls a0 a1 t676 t677 t678 _ A3.1).mono ?_); rintro e w' ⟨rfl, ⟨nd, rfl⟩⟩; refine ⟨_, rfl, ?_⟩))
 go_ret3
 exact ⟨zJJ, zDD⟩

/-! ### impl_TraceRead: function 8 -/
def impl_TraceRead.l0 : Nat → ByteArray → List (S31) → Option ((List (S31)) × Bool)
 | 0, _, _ => none
 | k + 1, x0, x4 => if x0.toList = ([] : List UInt8) then (some (x4, true)) else ((strings_Cut.f x0 (⟨#[10]⟩ : ByteArray)).bind fun bt682 => ((impl_EventRead.f k bt682.1).bind fun bt685 => (if bt682.2.2 = true then (if bt685.2.2.2.2.2 = true then (if (x4.length : Int) = 60 then (some (([] : List (S31)), false)) else (if x4.length < 3518437208883 then (impl_TraceRead.l0 k bt682.2.1 (x4 ++ [(⟨bt685.1, bt685.2.1, bt685.2.2.1, bt685.2.2.2.1, bt685.2.2.2.2.1⟩ : S31)])) else (none))) else (some (([] : List (S31)), false))) else (some (([] : List (S31)), false)))))
def impl_TraceRead.f (k : Nat) (a0 : ByteArray) : Option ((List (S31)) × Bool) := impl_TraceRead.l0 k a0 (([] : List (S31)))
theorem impl_TraceRead.mono_l : ∀ k, (∀ y0 y1, LeO (impl_TraceRead.l0 k y0 y1) (impl_TraceRead.l0 (k + 1) y0 y1))
 | 0 => fun _ _ r h => by simp [impl_TraceRead.l0] at h
 | k + 1 => by
  have ih0 := impl_TraceRead.mono_l k
  ·intros
   unfold impl_TraceRead.l0
   have mo0 := @impl_EventRead.mono
   exact zL
theorem impl_TraceRead.mono : ∀ a0 k, LeO (impl_TraceRead.f k a0) (impl_TraceRead.f (k + 1) a0) := by
 intro a0 k
 have ih0 := impl_TraceRead.mono_l k
 unfold impl_TraceRead.f
 have mo0 := @impl_EventRead.mono
 exact zL
theorem impl_TraceRead.calls (k : Nat) (a0 : ByteArray) (r1 : List (S31)) (r2 : Bool) (w : World) (h : impl_TraceRead.f k a0 = some (r1, r2)) :
  Calls Tryd.prog 8 #[.string a0] w fun e w' => ∃ v0_ : Value, e = .returned (.tuple #[v0_, .bool r2]) ∧ Kd.R k31 31 w' w.heap.size (fun _ => True) v0_ r1 ∧ Below w.heap.size w w' := by
 have hu31 := Tryd.underlying31
 have HB := zM (Below.refl w.heap.size w)
 unfold impl_TraceRead.f at h
 have H := h
 clear h
 generalize hy679 : ((([] : List (S31))) : List (S31)) = y679 at H
 have Ny679 := zM hy679.symm
 clear hy679
 have H' := zM H
 clear H
 go_enter Tryd.func8, Tryd.ntmps8
 go_wp2_with (first | ((with_reducible refine gate_dst (N := 10) rfl ?_); (try (refine gate_guard (by rfl) ?_; dsimp only)); refine Kd.R_lit k31 _ 31 ?hg (N := 10) ?hd (xs := ([] : List (S31))) (inner := []) (ok := fun _ => True) (okp := fun _ => True) ?hr ?hp (fun _ hk => hk) trivial (Below.refl _ _) (Nat.le_refl _) (by simp) ?_; (case hd => rfl); (case hg => rfl); (case hr => exact zHH); (case hp => exact (Reps.none _ _)); intro v680 w2 ho3 hb hg_ hnew_; clear hg_ hnew_; (first | rw [← Ny679.1] at ho3 | (simp only [Int.reduceToNat] at ho3; rw [← Ny679.1] at ho3)); have HO681 := zM (Kd.R_lower ho3 (below_size zB3)); replace HB := zM (below_step zB3 hb); clear hb ho3))
 go_loopg [0, 4] k (fun kq v0 v4 w' => ∃ (x0_1 : ByteArray) (x4_1 : List (S31)), v0 = .string x0_1 ∧ Aside0 (impl_TraceRead.l0 kq x0_1 x4_1 = some (r1, r2)) ∧ Aside0 (kq ≤ k) ∧ Aside0 (Kd.R k31 31 w' w.heap.size (fun _ => True) v4 x4_1) ∧ Aside0 (Below w.heap.size w w'))
 case atStart => exact ⟨(a0), (y679), zJJ, H', ⟨Nat.le_refl _⟩, ⟨zR HO681.1⟩, ⟨zB3⟩⟩
 case round =>
  clear H'
  obtain ⟨x0_1, x4_1, rfl, HA, HK1, HO_4, HB⟩ := hrel
  cases gk with
  | zero => exact absurd HA.1 (by simp [impl_TraceRead.l0])
  | succ k1 =>
   have H := HA.1
   clear HA
   simp only [impl_TraceRead.l0] at H
   by_cases c4 : x0_1.toList = ([] : List UInt8)
   ·rw [if_pos c4] at H
    have c4b0 : (x0_1.toList == ([] : List UInt8)) = true := beq_iff_eq.mpr c4
    have c4b1 : (x0_1.toList != ([] : List UInt8)) = false := bne_eq_false_iff_eq.mpr c4
    clear c4
    simp only [Option.some.injEq, Prod.mk.injEq] at H
    obtain ⟨rfl, rfl⟩ := H
    go_wp2
    go_ret2
    exact ⟨_, zE, zR HO_4.1, zB3⟩
   rw [if_neg c4] at H
   have c4b0 : (x0_1.toList == ([] : List UInt8)) = false := beq_eq_false_iff_ne.mpr c4
   have c4b1 : (x0_1.toList != ([] : List UInt8)) = true := bne_iff_ne.mpr c4
   replace H := zO H
   obtain ⟨⟨t682, t683, t684⟩, A5, H⟩ := H
   try dsimp only at H
   replace H := zO H
   obtain ⟨⟨t685, t686, t687, t688, t689, t690⟩, A6, H⟩ := H
   try dsimp only at H
   by_cases c7 : t684 = true
   rotate_left
   ·replace c7 := Bool.eq_false_iff.mpr c7
    subst c7
    rw [if_neg zF] at H
    simp only [Option.some.injEq, Prod.mk.injEq] at H
    obtain ⟨rfl, rfl⟩ := H
    go_wp2_with (first | ((with_reducible refine gate_callee (f := 21) rfl ?_); refine goesL_ (some 15) rfl rfl Tryd.func21 (by kernel_rfl) rfl #[.string x0_1, .string (⟨#[10]⟩ : ByteArray)] rfl zT ?_; (with_reducible refine (strings_Cut.calls x0_1 (⟨#[10]⟩ : ByteArray) t682 t683 false _ A5.1).mono ?_); rintro e w' ⟨rfl, ⟨nd, rfl⟩⟩; refine ⟨_, rfl, ?_⟩; (try (rw [drewN_self wr]; generalize hq_ : World.drewN wr _ = wr; have n0_ : Aside0 (Kd.R k31 31 wr w.heap.size (fun _ => True) u4 x4_1) := ⟨by rw [← hq_]; exact (zR HO_4.1)⟩; have n1_ : Aside0 (Below w.heap.size w wr) := ⟨by rw [← hq_]; exact zB3⟩; clear HO_4 HB hq_; have HO_4 := n0_; have HB := n1_; clear n0_ n1_))) | ((with_reducible refine gate_callee (f := 11) rfl ?_); refine goesL_ (some 21) rfl rfl Tryd.func11 (by kernel_rfl) rfl #[.string t682] rfl zT ?_; (with_reducible refine (impl_EventRead.calls k1 t682 t685 t686 t687 t688 t689 t690 _ A6.1).mono ?_); rintro e w23 ⟨rfl, hb⟩; refine ⟨_, rfl, ?_⟩; replace HO_4 := zM (Kd.R_below (zR HO_4.1) hb); replace HB := zM (below_step zB3 hb); clear hb) | ((with_reducible refine gate_dst (N := 8) rfl ?_); (try (refine gate_guard (by rfl) ?_; dsimp only)); (with_reducible refine zBx 8 31 #[.int .i64 0, .int .i64 0, .int .i64 0, .int .i64 0, .int .i64 0] ?_); intro gb691 hg w24 hbox hb; replace HO_4 := zM (Kd.R_below (Kd.R_elderB (zR HO_4.1) gb691 (Nat.le_of_eq hg.symm)) hb); have BK691 := zM hbox; have GW691 := zM (zW hg (below_size zB3)); have GE691 := zM (zW hg (below_size zB3)); replace HB := zM (below_step zB3 hb); clear hb hbox hg; have hcz25 := zc_5 (w := w24) BK691.1))
    go_ret2
    exact ⟨_, zE, by first | exact Kd.R_nil _ _ _ _ _ | exact Kd.N_nil _ _ _ _ _ | exact Kd.V_nil _ _ _ _ _ | exact Kd.Q_nil _ _ _ _ _ | exact Kd.S_nil _ _ _ _ _, zB3⟩
   subst c7
   rw [if_pos rfl] at H
   by_cases c8 : t690 = true
   rotate_left
   ·replace c8 := Bool.eq_false_iff.mpr c8
    subst c8
    rw [if_neg zF] at H
    simp only [Option.some.injEq, Prod.mk.injEq] at H
    obtain ⟨rfl, rfl⟩ := H
    go_wp2_with (first | ((with_reducible refine gate_callee (f := 21) rfl ?_); refine goesL_ (some 15) rfl rfl Tryd.func21 (by kernel_rfl) rfl #[.string x0_1, .string (⟨#[10]⟩ : ByteArray)] rfl zT ?_; (with_reducible refine (strings_Cut.calls x0_1 (⟨#[10]⟩ : ByteArray) t682 t683 true _ A5.1).mono ?_); rintro e w' ⟨rfl, ⟨nd, rfl⟩⟩; refine ⟨_, rfl, ?_⟩; (try (rw [drewN_self wr]; generalize hq_ : World.drewN wr _ = wr; have n0_ : Aside0 (Kd.R k31 31 wr w.heap.size (fun _ => True) u4 x4_1) := ⟨by rw [← hq_]; exact (zR HO_4.1)⟩; have n1_ : Aside0 (Below w.heap.size w wr) := ⟨by rw [← hq_]; exact zB3⟩; clear HO_4 HB hq_; have HO_4 := n0_; have HB := n1_; clear n0_ n1_))) | ((with_reducible refine gate_callee (f := 11) rfl ?_); refine goesL_ (some 21) rfl rfl Tryd.func11 (by kernel_rfl) rfl #[.string t682] rfl zT ?_; (with_reducible refine (impl_EventRead.calls k1 t682 t685 t686 t687 t688 t689 false _ A6.1).mono ?_); rintro e w20 ⟨rfl, hb⟩; refine ⟨_, rfl, ?_⟩; replace HO_4 := zM (Kd.R_below (zR HO_4.1) hb); replace HB := zM (below_step zB3 hb); clear hb) | ((with_reducible refine gate_dst (N := 8) rfl ?_); (try (refine gate_guard (by rfl) ?_; dsimp only)); (with_reducible refine zBx 8 31 #[.int .i64 0, .int .i64 0, .int .i64 0, .int .i64 0, .int .i64 0] ?_); intro gb691 hg w21 hbox hb; replace HO_4 := zM (Kd.R_below (Kd.R_elderB (zR HO_4.1) gb691 (Nat.le_of_eq hg.symm)) hb); have BK691 := zM hbox; have GW691 := zM (zW hg (below_size zB3)); have GE691 := zM (zW hg (below_size zB3)); replace HB := zM (below_step zB3 hb); clear hb hbox hg; have hcz22 := zc_5 (w := w21) BK691.1))
    go_ret2
    exact ⟨_, zE, by first | exact Kd.R_nil _ _ _ _ _ | exact Kd.N_nil _ _ _ _ _ | exact Kd.V_nil _ _ _ _ _ | exact Kd.Q_nil _ _ _ _ _ | exact Kd.S_nil _ _ _ _ _, zB3⟩
   subst c8
   rw [if_pos rfl] at H
   by_cases c9 : (x4_1.length : Int) = 60
   ·rw [if_pos c9] at H
    have c9b0 : ((x4_1.length : Int) == 60) = true := beq_iff_eq.mpr c9
    have c9b1 : ((x4_1.length : Int) != 60) = false := bne_eq_false_iff_eq.mpr c9
    clear c9
    simp only [Option.some.injEq, Prod.mk.injEq] at H
    obtain ⟨rfl, rfl⟩ := H
    go_wp2_with (first | ((with_reducible refine gate_callee (f := 21) rfl ?_); refine goesL_ (some 15) rfl rfl Tryd.func21 (by kernel_rfl) rfl #[.string x0_1, .string (⟨#[10]⟩ : ByteArray)] rfl zT ?_; (with_reducible refine (strings_Cut.calls x0_1 (⟨#[10]⟩ : ByteArray) t682 t683 true _ A5.1).mono ?_); rintro e w' ⟨rfl, ⟨nd, rfl⟩⟩; refine ⟨_, rfl, ?_⟩; (try (rw [drewN_self wr]; generalize hq_ : World.drewN wr _ = wr; have n0_ : Aside0 (Kd.R k31 31 wr w.heap.size (fun _ => True) u4 x4_1) := ⟨by rw [← hq_]; exact (zR HO_4.1)⟩; have n1_ : Aside0 (Below w.heap.size w wr) := ⟨by rw [← hq_]; exact zB3⟩; clear HO_4 HB hq_; have HO_4 := n0_; have HB := n1_; clear n0_ n1_))) | ((with_reducible refine gate_callee (f := 11) rfl ?_); refine goesL_ (some 21) rfl rfl Tryd.func11 (by kernel_rfl) rfl #[.string t682] rfl zT ?_; (with_reducible refine (impl_EventRead.calls k1 t682 t685 t686 t687 t688 t689 true _ A6.1).mono ?_); rintro e w10 ⟨rfl, hb⟩; refine ⟨_, rfl, ?_⟩; replace HO_4 := zM (Kd.R_below (zR HO_4.1) hb); replace HB := zM (below_step zB3 hb); clear hb) | ((with_reducible refine gate_dst (N := 8) rfl ?_); (try (refine gate_guard (by rfl) ?_; dsimp only)); (with_reducible refine zBx 8 31 #[.int .i64 0, .int .i64 0, .int .i64 0, .int .i64 0, .int .i64 0] ?_); intro gb691 hg w11 hbox hb; replace HO_4 := zM (Kd.R_below (Kd.R_elderB (zR HO_4.1) gb691 (Nat.le_of_eq hg.symm)) hb); have BK691 := zM hbox; have GW691 := zM (zW hg (below_size zB3)); have GE691 := zM (zW hg (below_size zB3)); replace HB := zM (below_step zB3 hb); clear hb hbox hg; have hcz12 := zc_5 (w := w11) BK691.1; obtain ⟨Ao13, co13, eo13⟩ := Kd.R_slice HO_4.1; subst eo13))
    go_ret2
    exact ⟨_, zE, by first | exact Kd.R_nil _ _ _ _ _ | exact Kd.N_nil _ _ _ _ _ | exact Kd.V_nil _ _ _ _ _ | exact Kd.Q_nil _ _ _ _ _ | exact Kd.S_nil _ _ _ _ _, zB3⟩
   rw [if_neg c9] at H
   have c9b0 : ((x4_1.length : Int) == 60) = false := beq_eq_false_iff_ne.mpr c9
   have c9b1 : ((x4_1.length : Int) != 60) = true := bne_iff_ne.mpr c9
   replace H := zIn H
   obtain ⟨LMc14, H⟩ := H
   generalize hy692 : ((x4_1 ++ [(⟨t685, t686, t687, t688, t689⟩ : S31)]) : List (S31)) = y692 at H
   have Ny692 := zM hy692.symm
   clear hy692
   have H' := zM H
   clear H
   go_wp2_with (first | ((with_reducible refine gate_callee (f := 21) rfl ?_); refine goesL_ (some 15) rfl rfl Tryd.func21 (by kernel_rfl) rfl #[.string x0_1, .string (⟨#[10]⟩ : ByteArray)] rfl zT ?_; (with_reducible refine (strings_Cut.calls x0_1 (⟨#[10]⟩ : ByteArray) t682 t683 true _ A5.1).mono ?_); rintro e w' ⟨rfl, ⟨nd, rfl⟩⟩; refine ⟨_, rfl, ?_⟩; (try (rw [drewN_self wr]; generalize hq_ : World.drewN wr _ = wr; have n0_ : Aside0 (Kd.R k31 31 wr w.heap.size (fun _ => True) u4 x4_1) := ⟨by rw [← hq_]; exact (zR HO_4.1)⟩; have n1_ : Aside0 (Below w.heap.size w wr) := ⟨by rw [← hq_]; exact zB3⟩; clear HO_4 HB hq_; have HO_4 := n0_; have HB := n1_; clear n0_ n1_))) | ((with_reducible refine gate_callee (f := 11) rfl ?_); refine goesL_ (some 21) rfl rfl Tryd.func11 (by kernel_rfl) rfl #[.string t682] rfl zT ?_; (with_reducible refine (impl_EventRead.calls k1 t682 t685 t686 t687 t688 t689 true _ A6.1).mono ?_); rintro e w15 ⟨rfl, hb⟩; refine ⟨_, rfl, ?_⟩; replace HO_4 := zM (Kd.R_below (zR HO_4.1) hb); replace HB := zM (below_step zB3 hb); clear hb) | ((with_reducible refine gate_dst (N := 8) rfl ?_); (try (refine gate_guard (by rfl) ?_; dsimp only)); (with_reducible refine zBx 8 31 #[.int .i64 0, .int .i64 0, .int .i64 0, .int .i64 0, .int .i64 0] ?_); intro gb691 hg w16 hbox hb; replace HO_4 := zM (Kd.R_below (Kd.R_elderB (zR HO_4.1) gb691 (Nat.le_of_eq hg.symm)) hb); have BK691 := zM hbox; have GW691 := zM (zW hg (below_size zB3)); have GE691 := zM (zW hg (below_size zB3)); replace HB := zM (below_step zB3 hb); clear hb hbox hg; have hcz17 := zc_5 (w := w16) BK691.1; obtain ⟨Ao18, co18, eo18⟩ := Kd.R_slice HO_4.1; subst eo18) | ((with_reducible refine gate_builtin (b := .append) (xs := #[.tmp 35, .tmp 37]) rfl ?_); (try (refine gate_guard (by rfl) ?_; dsimp only)); at_builtin; refine Kd.R_append k31 (w0 := w) w.heap.size rfl (.tmp 35) (.tmp 37) 24 31 (.agg #[(.int .i64 0), (.int .i64 0), (.int .i64 0), (.int .i64 0), (.int .i64 0)]) 40 rfl Tryd.underlying24 info31 rfl (by decide) (by omega) (.slice Ao18 x4_1.length co18) x4_1 (⟨t685, t686, t687, t688, t689⟩ : S31) [.int .i64 t685, .int .i64 t686, .int .i64 t687, .int .i64 t688, .int .i64 t689] (fun k_ => k_ ≠ gb691) (fun _ => False) rfl (by first | (go_simp; done) | (go_simp; rfl)) ?aP (fun _ hk => hk.elim) ?aF ?aO ?aB ?aS ?aL ?_; (case aP => exact k31_mkM _ _ _ (⟨t685, t686, t687, t688, t689⟩ : S31)); (case aB => exact zB3); (case aF => exact (fun k_ hk => Kd.freshB (g := gb691) (o := .cells #[.int .i64 t685, .int .i64 t686, .int .i64 t687, .int .i64 t688, .int .i64 t689] 31 (0, 0)) (by exact zp5 (zK BK691.1)) k_ hk)); (case aO => exact (by refine zrR ?_; exact Kd.R_mono (zfR (zfR (zfR (zfR (zfR (Kd.R_mono HO_4.1 (fun k_ hk => (⟨hk, hk.2⟩ : _ ∧ k_ ≠ gb691)))))))) (fun _ hk => hk.1.2))); (case aS => exact (below_size zB3)); (case aL => have := LMc14.out; omega); intro v693 w19 ho hb hg hat; rw [← Ny692.1] at ho; replace BK691 := zM (blk_grown (g := gb691) (o := .cells #[.int .i64 t685, .int .i64 t686, .int .i64 t687, .int .i64 t688, .int .i64 t689] 31 (0, 0)) (by exact zp5 (zK BK691.1)) hg (Kd.R_away HO_4.1 (fun _ hk => hk.2))); replace HB := zM hb; have HO694 := zM ho; clear HO_4; clear ho hb hg hat))
   go_roundg k1
   case measure => have := HK1.1; omega
   case rel => exact ⟨(t683), (y692), zJJ, H', ⟨by have := HK1.1; omega⟩, ⟨by refine zrR ?_; exact Kd.R_mono HO694.1 (fun _ hk => trivial)⟩, ⟨zB3⟩⟩

/-! ### spec_l28Cut: function 22 -/
def spec_l28Cut.l0 : Nat → ByteArray → Int → List ByteArray → Int → Int → Option (List ByteArray)
 | 0, _, _, _, _, _ => none
 | k + 1, x0, x1, x5, x6, x7 => if x7 ≤ (x0.size : Int) then (if x7 = (x0.size : Int) then (if 0 ≤ x6 then (if x6 ≤ x7 then (if x5.length < 8796093022208 then (spec_l28Cut.l0 k x0 x1 (x5 ++ [x0.extract (x6 : Int).toNat (x7 : Int).toNat]) (wrap64 (x7 + 1)) (wrap64 (x7 + 1))) else (none)) else (none)) else (none)) else (if 0 ≤ x7 then (if x7 < (x0.size : Int) then (if (bt x0 x7) = x1 then (if 0 ≤ x6 then (if x6 ≤ x7 then (if x5.length < 8796093022208 then (spec_l28Cut.l0 k x0 x1 (x5 ++ [x0.extract (x6 : Int).toNat (x7 : Int).toNat]) (wrap64 (x7 + 1)) (wrap64 (x7 + 1))) else (none)) else (none)) else (none)) else (spec_l28Cut.l0 k x0 x1 x5 x6 (wrap64 (x7 + 1)))) else (none)) else (none))) else (some x5)
def spec_l28Cut.f (k : Nat) (a0 : ByteArray) (a1 : Int) : Option (List ByteArray) := spec_l28Cut.l0 k a0 a1 (([] : List ByteArray)) 0 0
theorem spec_l28Cut.mono_l : ∀ k, (∀ y0 y1 y2 y3 y4, LeO (spec_l28Cut.l0 k y0 y1 y2 y3 y4) (spec_l28Cut.l0 (k + 1) y0 y1 y2 y3 y4))
 | 0 => fun _ _ _ _ _ r h => by simp [spec_l28Cut.l0] at h
 | k + 1 => by
  have ih0 := spec_l28Cut.mono_l k
  ·intros
   unfold spec_l28Cut.l0
   exact zL
theorem spec_l28Cut.mono : ∀ a0 a1 k, LeO (spec_l28Cut.f k a0 a1) (spec_l28Cut.f (k + 1) a0 a1) := by
 intro a0 a1 k
 have ih0 := spec_l28Cut.mono_l k
 unfold spec_l28Cut.f
 exact zL
theorem spec_l28Cut.calls (k : Nat) (a0 : ByteArray) (a1 : Int) (r : List ByteArray) (w : World) (h : spec_l28Cut.f k a0 a1 = some r) :
  Calls Tryd.prog 22 #[.string a0, .int .u8 a1] w fun e w' => ∃ v0_ : Value, e = .returned (v0_) ∧ Kd.R Kd.string 9 w' w.heap.size (fun _ => True) v0_ r ∧ Below w.heap.size w w' := by
 have HB := zM (Below.refl w.heap.size w)
 unfold spec_l28Cut.f at h
 have H := h
 clear h
 generalize hy695 : ((([] : List ByteArray)) : List ByteArray) = y695 at H
 have Ny695 := zM hy695.symm
 clear hy695
 have H' := zM H
 clear H
 go_enter Tryd.func22, Tryd.ntmps22
 go_wp2_with (first | ((with_reducible refine gate_dst (N := 8) rfl ?_); refine Kd.R_lit Kd.string _ 9 ?hg (N := 8) ?hd (xs := ([] : List ByteArray)) (inner := []) (ok := fun _ => True) (okp := fun _ => True) ?hr ?hp (fun _ hk => hk) trivial (Below.refl _ _) (Nat.le_refl _) (by simp) ?_; (case hd => rfl); (case hg => rfl); (case hr => exact zHH); (case hp => exact (Reps.none _ _)); intro v696 w3 ho4 hb hg_ hnew_; clear hg_ hnew_; (first | rw [← Ny695.1] at ho4 | (simp only [Int.reduceToNat] at ho4; rw [← Ny695.1] at ho4)); have HO697 := zM (Kd.R_lower ho4 (below_size zB3)); replace HB := zM (below_step zB3 hb); clear hb ho4))
 go_loopg [5, 6, 7] k (fun kq v5 v6 v7 w' => ∃ (x5_1 : List ByteArray) (x6_1 : Int) (x7_1 : Int), v6 = .int .i64 x6_1 ∧ v7 = .int .i64 x7_1 ∧ Aside0 (spec_l28Cut.l0 kq a0 a1 x5_1 x6_1 x7_1 = some r) ∧ Aside0 (kq ≤ k) ∧ Aside0 (Kd.R Kd.string 9 w' w.heap.size (fun _ => True) v5 x5_1) ∧ Aside0 (Below w.heap.size w w'))
 case atStart => exact ⟨(y695), (0), (0), zJJ, zJJ, H', ⟨Nat.le_refl _⟩, ⟨zR HO697.1⟩, ⟨zB3⟩⟩
 case round =>
  clear H'
  obtain ⟨x5_1, x6_1, x7_1, rfl, rfl, HA, HK1, HO_5, HB⟩ := hrel
  cases gk with
  | zero => exact absurd HA.1 (by simp [spec_l28Cut.l0])
  | succ k1 =>
   have H := HA.1
   clear HA
   simp only [spec_l28Cut.l0] at H
   by_cases c5 : x7_1 ≤ (a0.size : Int)
   rotate_left
   ·rw [if_neg c5] at H
    have c5b0 := decide_eq_false c5
    clear c5
    obtain rfl := Option.some.inj H
    go_wp2
    go_ret
    exact ⟨_, zE, zR HO_5.1, zB3⟩
   rw [if_pos c5] at H
   have c5b0 := decide_eq_true c5
   clear c5
   by_cases c6 : x7_1 = (a0.size : Int)
   ·rw [if_pos c6] at H
    have c6b0 : (x7_1 == (a0.size : Int)) = true := beq_iff_eq.mpr c6
    have c6b1 : (x7_1 != (a0.size : Int)) = false := bne_eq_false_iff_eq.mpr c6
    clear c6
    replace H := zIp H
    obtain ⟨c7, H⟩ := H
    have c7b0 := eq_true c7
    have c7b1 : decide (0 ≤ x6_1) = true := decide_eq_true c7
    clear c7
    replace H := zIp H
    obtain ⟨c8, H⟩ := H
    have c8b0 := eq_true c8
    have c8b1 : decide (x6_1 ≤ x7_1) = true := decide_eq_true c8
    clear c8
    have c9b0 := eq_true (zA : x7_1 ≤ (a0.size : Int))
    replace H := zIn H
    obtain ⟨LMc10, H⟩ := H
    generalize hy698 : ((x5_1 ++ [a0.extract (x6_1 : Int).toNat (x7_1 : Int).toNat]) : List ByteArray) = y698 at H
    have Ny698 := zM hy698.symm
    clear hy698
    have H' := zM H
    clear H
    go_wp2_with (first | ((with_reducible refine gate_builtin (b := .append) (xs := #[.tmp 26, .tmp 31]) rfl ?_); at_builtin; refine Kd.R_append Kd.string (w0 := w) w.heap.size rfl (.tmp 26) (.tmp 31) 46 9 (.string ⟨#[]⟩) 16 rfl Tryd.underlying46 info9 rfl (by decide) (by omega) u5 x5_1 (a0.extract (x6_1 : Int).toNat (x7_1 : Int).toNat) [.string (a0.extract (x6_1 : Int).toNat (x7_1 : Int).toNat)] (fun _ => True) (fun _ => False) rfl rfl ?aP (fun _ hk => hk.elim) ?aF ?aO ?aB ?aS ?aL ?_; (case aP => exact rfl); (case aB => exact zB3); (case aF => exact (fun _ _ => trivial)); (case aO => exact (zR HO_5.1)); (case aS => exact (below_size zB3)); (case aL => have := LMc10.out; omega); intro v699 w11 ho hb hg hat; rw [← Ny698.1] at ho; replace HB := zM hb; have HO700 := zM ho; clear HO_5; clear ho hb hg hat))
    go_roundg k1
    case measure => have := HK1.1; omega
    case rel => exact ⟨(y698), (wrap64 (x7_1 + 1)), (wrap64 (x7_1 + 1)), zJJ, zJJ, H', ⟨by have := HK1.1; omega⟩, ⟨zR HO700.1⟩, ⟨zB3⟩⟩
   rw [if_neg c6] at H
   have c6b0 : (x7_1 == (a0.size : Int)) = false := beq_eq_false_iff_ne.mpr c6
   have c6b1 : (x7_1 != (a0.size : Int)) = true := bne_iff_ne.mpr c6
   replace H := zIt H
   obtain ⟨c12b0, H⟩ := H
   replace H := zIt H
   obtain ⟨c13b0, H⟩ := H
   by_cases c15 : (bt a0 x7_1) = a1
   rotate_left
   ·rw [if_neg c15] at H
    have c15b0 : ((bt a0 x7_1) == a1) = false := beq_eq_false_iff_ne.mpr c15
    have c15b1 : ((bt a0 x7_1) != a1) = true := bne_iff_ne.mpr c15
    have H' := zM H
    clear H
    have p14 : 0 ≤ (x7_1 : Int) := zA
    have q14 : x7_1 < (a0.size : Int) := zA
    have hx14 := bt_at a0 x7_1
    replace p14 := eq_true p14
    replace q14 := eq_true q14
    go_wp2
    go_roundg k1
    case measure => have := HK1.1; omega
    case rel => exact ⟨(x5_1), (x6_1), (wrap64 (x7_1 + 1)), zJJ, zJJ, H', ⟨by have := HK1.1; omega⟩, ⟨zR HO_5.1⟩, ⟨zB3⟩⟩
   rw [if_pos c15] at H
   have c15b0 : ((bt a0 x7_1) == a1) = true := beq_iff_eq.mpr c15
   have c15b1 : ((bt a0 x7_1) != a1) = false := bne_eq_false_iff_eq.mpr c15
   clear c15
   replace H := zIp H
   obtain ⟨c16, H⟩ := H
   have c16b0 := eq_true c16
   have c16b1 : decide (0 ≤ x6_1) = true := decide_eq_true c16
   clear c16
   replace H := zIp H
   obtain ⟨c17, H⟩ := H
   have c17b0 := eq_true c17
   have c17b1 : decide (x6_1 ≤ x7_1) = true := decide_eq_true c17
   clear c17
   have c18b0 := eq_true (zA : x7_1 ≤ (a0.size : Int))
   replace H := zIn H
   obtain ⟨LMc19, H⟩ := H
   generalize hy701 : ((x5_1 ++ [a0.extract (x6_1 : Int).toNat (x7_1 : Int).toNat]) : List ByteArray) = y701 at H
   have Ny701 := zM hy701.symm
   clear hy701
   have H' := zM H
   clear H
   have p14 : 0 ≤ (x7_1 : Int) := zA
   have q14 : x7_1 < (a0.size : Int) := zA
   have hx14 := bt_at a0 x7_1
   replace p14 := eq_true p14
   replace q14 := eq_true q14
   go_wp2_with (first | ((with_reducible refine gate_builtin (b := .append) (xs := #[.tmp 26, .tmp 31]) rfl ?_); at_builtin; refine Kd.R_append Kd.string (w0 := w) w.heap.size rfl (.tmp 26) (.tmp 31) 46 9 (.string ⟨#[]⟩) 16 rfl Tryd.underlying46 info9 rfl (by decide) (by omega) u5 x5_1 (a0.extract (x6_1 : Int).toNat (x7_1 : Int).toNat) [.string (a0.extract (x6_1 : Int).toNat (x7_1 : Int).toNat)] (fun _ => True) (fun _ => False) rfl rfl ?aP (fun _ hk => hk.elim) ?aF ?aO ?aB ?aS ?aL ?_; (case aP => exact rfl); (case aB => exact zB3); (case aF => exact (fun _ _ => trivial)); (case aO => exact (zR HO_5.1)); (case aS => exact (below_size zB3)); (case aL => have := LMc19.out; omega); intro v702 w20 ho hb hg hat; rw [← Ny701.1] at ho; replace HB := zM hb; have HO703 := zM ho; clear HO_5; clear ho hb hg hat))
   go_roundg k1
   case measure => have := HK1.1; omega
   case rel => exact ⟨(y701), (wrap64 (x7_1 + 1)), (wrap64 (x7_1 + 1)), zJJ, zJJ, H', ⟨by have := HK1.1; omega⟩, ⟨zR HO703.1⟩, ⟨zB3⟩⟩

end Go.Proofs.YtaakcbgpmabaaaaDoor.PFnStories
