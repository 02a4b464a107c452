-- made by wip/tools/myprint.py out of the seat's translation
import Derived.Test.YtaakcbgpmabaaaaPFnLinkedx0
import Derived.Test.YtaakcbgpmabaaaaPFnLinkedx2
import Derived.Test.YtaakcbgpmabaaaaPFnLinkedx4
import Derived.Test.YtaakcbgpmabaaaaPFnLinkedx5
import Derived.Test.YtaakcbgpmabaaaaPFnLinkedx9
import Derived.Test.YtaakcbgpmabaaaaPFnLinkedx11
namespace Go.Proofs.Ytaakcbgpmabaaaa.PFnLinked
open Go.RowKit Go.Proofs.YtaakcbgpmabaaaaW.PrintWords Go.Proofs.YtaakcbgpmabaaaaW.PrintLast Go.Proofs.YtaakcbgpmabaaaaW.PrintMore
attribute [local go_sem] max2_int min2_int max_two min_two max_three min_three max_four min_four   -- for this text's walks alone
set_option linter.unusedVariables false
set_option linter.unusedSimpArgs false
set_option maxHeartbeats 8000000
set_option maxRecDepth 100000

/-! ### spec_Link: function 19 -/
mutual
def spec_Link.l0 : Nat → List (S49) → List Int → Bool → List Int → Int → Option (List Int × Bool)
 | 0, _, _, _, _, _ => none
 | k + 1, x0, x4, x5, x6, x7 => if x7 < (x0.length : Int) then (spec_Link.j1 k x0 x4 x5 x6 x7 x5) else (spec_Link.j1 k x0 x4 x5 x6 x7 false)
def spec_Link.j1 : Nat → List (S49) → List Int → Bool → List Int → Int → Bool → Option (List Int × Bool)
 | 0, _, _, _, _, _, _ => none
 | k + 1, x0, x4, x5, x6, x7, x26 => if x26 = true then (spec_Link.l1 k x0 x4 x5 x6 x7 0) else (if x5 = true then (spec_Link.l2 k x6) else (some ((([] : List Int)), false)))
def spec_Link.l1 : Nat → List (S49) → List Int → Bool → List Int → Int → Int → Option (List Int × Bool)
 | 0, _, _, _, _, _, _ => none
 | k + 1, x0, x4, x5, x6, x7, x8 => if 0 ≤ x7 then (if x7 < (x0.length : Int) then (if x8 < (((rd_T49 x0 x7).f1).length : Int) then (if 0 ≤ x8 then ((spec_l27Ref.f k ((rd_T49 x0 x7).f0) ((rd_T49 x0 x7).f1) ((rd_T49 x0 x7).f2) x8).bind fun t425 => (if t425 ≥ 0 then (if 0 ≤ t425 then (if t425 < (((rd_T49 x0 x7).f2).length : Int) then ((spec_PartAt.f k x0 ((rd_T61 ((rd_T49 x0 x7).f2) t425).f1)).bind fun t428 => (if t428 < 0 then (some ((([] : List Int)), false)) else (if 0 ≤ t428 then (if t428 < (x4.length : Int) then ((spec_Code.f ((rd_T57 ((rd_T49 x0 x7).f1) x8).f0) ((rd_T57 ((rd_T49 x0 x7).f1) x8).f1) ((rd_T57 ((rd_T49 x0 x7).f1) x8).f2) ((rd_T57 ((rd_T49 x0 x7).f1) x8).f3) (rd x4 t428)).bind fun bt433 => (if x6.length < 17592186044416 then (spec_Link.l1 k x0 x4 x5 (x6 ++ [bt433.1]) x7 (wrap64 (x8 + 1))) else (none))) else (none)) else (none)))) else (none)) else (none)) else ((spec_Code.f ((rd_T57 ((rd_T49 x0 x7).f1) x8).f0) ((rd_T57 ((rd_T49 x0 x7).f1) x8).f1) ((rd_T57 ((rd_T49 x0 x7).f1) x8).f2) ((rd_T57 ((rd_T49 x0 x7).f1) x8).f3) ((rd_T57 ((rd_T49 x0 x7).f1) x8).f4)).bind fun bt438 => (if x6.length < 17592186044416 then (spec_Link.l1 k x0 x4 x5 (x6 ++ [bt438.1]) x7 (wrap64 (x8 + 1))) else (none))))) else (none)) else (spec_Link.l0 k x0 x4 x5 x6 (wrap64 (x7 + 1)))) else (none)) else (none)
def spec_Link.l2 : Nat → List Int → Option (List Int × Bool)
 | 0, _ => none
 | k + 1, x6 => if (x6.length : Int) < 24 then (if x6.length < 17592186044416 then (spec_Link.l2 k (x6 ++ [0])) else (none)) else (some (x6, true))
end
def spec_Link.f (k : Nat) (l0 : List (S49)) : Option (List Int × Bool) := (spec_Layout.f k l0).bind fun bt413 => (spec_Link.l0 k l0 bt413.1 bt413.2 (([] : List Int)) 0)
theorem spec_Link.mono_l : ∀ k, (∀ y0 y1 y2 y3 y4, LeO (spec_Link.l0 k y0 y1 y2 y3 y4) (spec_Link.l0 (k + 1) y0 y1 y2 y3 y4)) ∧ (∀ y0 y1 y2 y3 y4 y5, LeO (spec_Link.j1 k y0 y1 y2 y3 y4 y5) (spec_Link.j1 (k + 1) y0 y1 y2 y3 y4 y5)) ∧ (∀ y0 y1 y2 y3 y4 y5, LeO (spec_Link.l1 k y0 y1 y2 y3 y4 y5) (spec_Link.l1 (k + 1) y0 y1 y2 y3 y4 y5)) ∧ (∀ y0, LeO (spec_Link.l2 k y0) (spec_Link.l2 (k + 1) y0))
 | 0 => ⟨fun _ _ _ _ _ r h => by simp [spec_Link.l0] at h, fun _ _ _ _ _ _ r h => by simp [spec_Link.j1] at h, fun _ _ _ _ _ _ r h => by simp [spec_Link.l1] at h, fun _ r h => by simp [spec_Link.l2] at h⟩
 | k + 1 => by
  obtain ⟨ih0, ih1, ih2, ih3⟩ := spec_Link.mono_l k
  refine ⟨?_, ?_, ?_, ?_⟩
  ·intros
   unfold spec_Link.l0
   have mo0 := @spec_Layout.mono
   have mo1 := @spec_PartAt.mono
   have mo2 := @spec_l27Ref.mono
   exact zL
  ·intros
   unfold spec_Link.j1
   have mo0 := @spec_Layout.mono
   have mo1 := @spec_PartAt.mono
   have mo2 := @spec_l27Ref.mono
   exact zL
  ·intros
   unfold spec_Link.l1
   have mo0 := @spec_Layout.mono
   have mo1 := @spec_PartAt.mono
   have mo2 := @spec_l27Ref.mono
   exact zL
  ·intros
   unfold spec_Link.l2
   have mo0 := @spec_Layout.mono
   have mo1 := @spec_PartAt.mono
   have mo2 := @spec_l27Ref.mono
   exact zL
theorem spec_Link.mono : ∀ a0 k, LeO (spec_Link.f k a0) (spec_Link.f (k + 1) a0) := by
 intro a0 k
 obtain ⟨ih0, ih1, ih2, ih3⟩ := spec_Link.mono_l k
 unfold spec_Link.f
 have mo0 := @spec_Layout.mono
 have mo1 := @spec_PartAt.mono
 have mo2 := @spec_l27Ref.mono
 exact zL
theorem spec_Link.calls (k : Nat) (A0 : Option Addr) (c0 : Nat) (l0 : List (S49)) (r1 : List Int) (r2 : Bool) (w : World) (hr0 : Kd.C k49 w A0 l0.length l0) (hc0 : l0.length ≤ c0) (h : spec_Link.f k l0 = some (r1, r2)) :
  Calls Try.prog 19 #[.slice A0 l0.length c0] w fun e w' => ∃ v0_ : Value, e = .returned (.tuple #[v0_, .bool r2]) ∧ Kd.R (Kd.int .i64) 3 w' w.heap.size (fun _ => True) v0_ r1 ∧ Below w.heap.size w w' := by
 have hu57 := Try.underlying57
 have hu49 := Try.underlying49
 have HR0 := zM hr0
 have HC0 := zM hc0
 clear hr0 hc0
 have HB := zM (Below.refl w.heap.size w)
 unfold spec_Link.f at h
 have H := h
 clear h
 replace H := zO H
 obtain ⟨⟨t413, t414⟩, A2, H⟩ := H
 try dsimp only at H
 generalize hy417 : ((([] : List Int)) : List Int) = y417 at H
 have Ny417 := zM hy417.symm
 clear hy417
 have H' := zM H
 clear H
 go_enter Try.func19, Try.ntmps19
 go_wp2_with (first | ((with_reducible refine zG Try.func22 16 #[.slice A0 l0.length c0] ?_); (with_reducible refine (spec_Layout.calls k _ _ l0 t413 t414 _ ?side1 ?side2 A2.1).mono ?_); (case side1 => exact zC HR0.1); (case side2 => exact HC0.1); rintro e w3 ⟨v415, rfl, ho0, hb⟩; refine ⟨_, rfl, ?_⟩; have HO416 := zM (Kd.R_lower ho0 (below_size zB0)); replace HB := zM (below_step zB0 hb); clear hb ho0) | ((with_reducible refine gate_dst (N := 19) rfl ?_); refine Kd.R_lit (Kd.int .i64) _ 3 ?hg (N := 19) ?hd (xs := ([] : List Int)) (inner := []) (ok := fun _ => True) (okp := fun _ => True) ?hr ?hp (fun _ hk => hk) trivial (Below.refl _ _) (Nat.le_refl _) (by simp) ?_; (case hd => rfl); (case hg => rfl); (case hr => exact zHH); (case hp => exact (Reps.none _ _)); intro v418 w4 ho5 hb hg_ hnew_; clear hg_ hnew_; (first | rw [← Ny417.1] at ho5 | (simp only [Int.reduceToNat] at ho5; rw [← Ny417.1] at ho5)); have HO419 := zM (Kd.R_lower (Kd.R_new' ho5 (Kd.R_lt (zR HO416.1))) (below_size zB0)); replace HO416 := zM (Kd.R_elder' (zR HO416.1) (Kd.R_base ho5) hb); replace HB := zM (below_step zB0 hb); clear hb ho5))
 go_loopg [6, 7] k (fun kq v6 v7 w' => ∃ (x6_1 : List Int) (x7_1 : Int), v7 = .int .i64 x7_1 ∧ Aside0 (spec_Link.l0 kq l0 t413 t414 x6_1 x7_1 = some (r1, r2)) ∧ Aside0 (kq ≤ k) ∧ Aside0 (Kd.R (Kd.int .i64) 3 w' w.heap.size (fun k_ => some k_ ≠ (v6 : Value).ownBlock) v415 t413) ∧ Aside0 (Kd.R (Kd.int .i64) 3 w' w.heap.size (fun k_ => some k_ ≠ (v415 : Value).ownBlock) v6 x6_1) ∧ Aside0 (Below w.heap.size w w'))
 case atStart => exact ⟨(y417), (0), zJJ, H', ⟨Nat.le_refl _⟩, ⟨by refine zrR ?_; exact Kd.R_mono HO416.1 (fun _ hk => hk.2)⟩, ⟨by refine zrR ?_; exact Kd.R_mono HO419.1 (fun _ hk => hk.2)⟩, ⟨zB0⟩⟩
 case round =>
  clear H'
  obtain ⟨x6_1, x7_1, rfl, HA, HK1, HO_4, HO_6, HB⟩ := hrel
  cases gk with
  | zero => exact absurd HA.1 (by simp [spec_Link.l0])
  | succ k1 =>
   have H := HA.1
   clear HA
   simp only [spec_Link.l0] at H
   have HC6 := zM H
   clear H
   go_upto_region 4 with (fail)
   go_cut [26] (fun v26 wc => ∃ (kq : Nat) (x26_5 : Bool), v26 = .bool x26_5 ∧ Aside0 (spec_Link.j1 kq l0 t413 t414 x6_1 x7_1 x26_5 = some (r1, r2)) ∧ Aside0 (kq ≤ k1) ∧ Aside0 (Kd.R (Kd.int .i64) 3 wc w.heap.size (fun k_ => some k_ ≠ (u6 : Value).ownBlock) v415 t413) ∧ Aside0 (Kd.R (Kd.int .i64) 3 wc w.heap.size (fun k_ => some k_ ≠ (v415 : Value).ownBlock) u6 x6_1) ∧ Aside0 (Below w.heap.size w wc))
   case first =>
    have H := HC6.1
    clear HC6
    by_cases c7 : x7_1 < (l0.length : Int)
    ·rw [if_pos c7] at H
     have c7b0 := decide_eq_true c7
     clear c7
     (first | rw [c7b0] | (simp only [i64_w, i32_w]; rw [c7b0]) | skip)
     have H' := zM H
     clear H
     go_wp2
     go_meet
     case rel => exact ⟨_, (t414), zJJ, H', ⟨by have := HK1.1; first | omega | exact Nat.le_refl _⟩, ⟨zR HO_4.1⟩, ⟨zR HO_6.1⟩, ⟨zB0⟩⟩
    rw [if_neg c7] at H
    have c7b0 := decide_eq_false c7
    clear c7
    (first | rw [c7b0] | (simp only [i64_w, i32_w]; rw [c7b0]) | skip)
    have H' := zM H
    clear H
    go_wp2
    go_meet
    case rel => exact ⟨_, (false), zJJ, H', ⟨by have := HK1.1; first | omega | exact Nat.le_refl _⟩, ⟨zR HO_4.1⟩, ⟨zR HO_6.1⟩, ⟨zB0⟩⟩
   case rest =>
    clear HC6
    obtain ⟨kq, x26_5, rfl, HA, HJ5, HO_4, HO_6, HB⟩ := hcut
    cases kq with
    | zero => exact absurd HA.1 (by simp [spec_Link.j1])
    | succ kj5 =>
     have H := HA.1
     clear HA
     simp only [spec_Link.j1] at H
     by_cases c8 : x26_5 = true
     rotate_left
     ·replace c8 := Bool.eq_false_iff.mpr c8
      subst c8
      rw [if_neg zF] at H
      by_cases c43 : t414 = true
      rotate_left
      ·replace c43 := Bool.eq_false_iff.mpr c43
       subst c43
       rw [if_neg zF] at H
       generalize hy443 : ((([] : List Int)) : List Int) = y443 at H
       have Ny443 := zM hy443.symm
       clear hy443
       simp only [Option.some.injEq, Prod.mk.injEq] at H
       obtain ⟨rfl, rfl⟩ := H
       go_wp2_with (first | ((with_reducible refine gate_dst (N := 85) rfl ?_); refine Kd.R_lit (Kd.int .i64) _ 3 ?hg (N := 85) ?hd (xs := ([] : List Int)) (inner := []) (ok := fun _ => True) (okp := fun _ => True) ?hr ?hp (fun _ hk => hk) trivial (Below.refl _ _) (Nat.le_refl _) (by simp) ?_; (case hd => rfl); (case hg => rfl); (case hr => exact zHH); (case hp => exact (Reps.none _ _)); intro v444 w49 ho50 hb hg_ hnew_; clear hg_ hnew_; (first | rw [← Ny443.1] at ho50 | (simp only [Int.reduceToNat] at ho50; rw [← Ny443.1] at ho50)); have HO445 := zM (Kd.R_lower (Kd.R_new' (Kd.R_new' ho50 (Kd.R_lt (zR HO_4.1))) (Kd.R_lt (zR HO_6.1))) (below_size zB0)); replace HO_4 := zM (Kd.R_elder' (zR HO_4.1) (Kd.R_base ho50) hb); replace HO_6 := zM (Kd.R_elder' (zR HO_6.1) (Kd.R_base ho50) hb); replace HB := zM (below_step zB0 hb); clear hb ho50))
       go_ret2
       exact ⟨_, zE, by refine zrR ?_; exact Kd.R_mono HO445.1 (fun _ hk => trivial), zB0⟩
      subst c43
      rw [if_pos rfl] at H
      have H' := zM H
      clear H
      go_wp2
      go_loopg [6] kj5 (fun kq v6 w' => ∃ (x6_3 : List Int), Aside0 (spec_Link.l2 kq x6_3 = some (r1, r2)) ∧ Aside0 (kq ≤ kj5) ∧ Aside0 (Kd.R (Kd.int .i64) 3 w' w.heap.size (fun _ => True) v6 x6_3) ∧ Aside0 (Below w.heap.size w w'))
      case atStart => exact ⟨(x6_1), H', ⟨Nat.le_refl _⟩, ⟨by refine zrR ?_; exact Kd.R_mono HO_6.1 (fun _ hk => trivial)⟩, ⟨zB0⟩⟩
      case round =>
       clear H'
       obtain ⟨x6_3, HA, HK3, HO_6, HB⟩ := hrel
       cases gk with
       | zero => exact absurd HA.1 (by simp [spec_Link.l2])
       | succ k3 =>
        have H := HA.1
        clear HA
        simp only [spec_Link.l2] at H
        by_cases c44 : (x6_3.length : Int) < 24
        rotate_left
        ·rw [if_neg c44] at H
         have c44b0 := decide_eq_false c44
         have c44b1 : decide (x6_3.length < 24) = false := decide_eq_false (by omega)
         clear c44
         simp only [Option.some.injEq, Prod.mk.injEq] at H
         obtain ⟨rfl, rfl⟩ := H
         obtain ⟨Ao48, co48, eo48⟩ := Kd.R_slice HO_6.1
         subst eo48
         go_wp2
         go_ret2
         exact ⟨_, zE, zR HO_6.1, zB0⟩
        rw [if_pos c44] at H
        have c44b0 := decide_eq_true c44
        have c44b1 : decide (x6_3.length < 24) = true := decide_eq_true (by omega)
        clear c44
        replace H := zIn H
        obtain ⟨LMc45, H⟩ := H
        generalize hy446 : ((x6_3 ++ [0]) : List Int) = y446 at H
        have Ny446 := zM hy446.symm
        clear hy446
        have H' := zM H
        clear H
        obtain ⟨Ao46, co46, eo46⟩ := Kd.R_slice HO_6.1
        subst eo46
        go_wp2_with (first | ((with_reducible refine gate_builtin (b := .append) (xs := #[.tmp 89, .tmp 90]) rfl ?_); at_builtin; refine Kd.R_append (Kd.int .i64) (w0 := w) w.heap.size rfl (.tmp 89) (.tmp 90) 24 3 (.int .i64 0) 8 rfl Try.underlying24 info3 rfl (by decide) (by omega) (.slice Ao46 x6_3.length co46) x6_3 0 [.int .i64 0] (fun _ => True) (fun _ => False) rfl rfl ?aP (fun _ hk => hk.elim) ?aF ?aO ?aB ?aS ?aL ?_; (case aP => exact rfl); (case aB => exact zB0); (case aF => exact (fun _ _ => trivial)); (case aO => exact (zR HO_6.1)); (case aS => exact (below_size zB0)); (case aL => have := LMc45.out; omega); intro v447 w47 ho hb hg hat; rw [← Ny446.1] at ho; replace HB := zM hb; have HO448 := zM ho; clear HO_6; clear ho hb hg hat))
        go_roundg k3
        case measure => have := HK1.1; have := HJ5.1; have := HK3.1; omega
        case rel => exact ⟨(y446), H', ⟨by have := HK1.1; have := HJ5.1; have := HK3.1; omega⟩, ⟨zR HO448.1⟩, ⟨zB0⟩⟩
     subst c8
     rw [if_pos rfl] at H
     have H' := zM H
     clear H
     go_wp2
     go_loopg [6, 8] kj5 (fun kq v6 v8 w' => ∃ (x6_3 : List Int) (x8_3 : Int), v8 = .int .i64 x8_3 ∧ Aside0 (spec_Link.l1 kq l0 t413 t414 x6_3 x7_1 x8_3 = some (r1, r2)) ∧ Aside0 (kq ≤ kj5) ∧ Aside0 (Kd.R (Kd.int .i64) 3 w' w.heap.size (fun k_ => some k_ ≠ (v6 : Value).ownBlock) v415 t413) ∧ Aside0 (Kd.R (Kd.int .i64) 3 w' w.heap.size (fun k_ => some k_ ≠ (v415 : Value).ownBlock) v6 x6_3) ∧ Aside0 (Below w.heap.size w w'))
     case atStart => exact ⟨(x6_1), (0), zJJ, H', ⟨Nat.le_refl _⟩, ⟨zR HO_4.1⟩, ⟨zR HO_6.1⟩, ⟨zB0⟩⟩
     case round =>
      clear H'
      obtain ⟨x6_3, x8_3, rfl, HA, HK3, HO_4, HO_6, HB⟩ := hrel
      cases gk with
      | zero => exact absurd HA.1 (by simp [spec_Link.l1])
      | succ k3 =>
       have H := HA.1
       clear HA
       simp only [spec_Link.l1] at H
       replace H := zIt H
       obtain ⟨c9b0, H⟩ := H
       replace H := zIt H
       obtain ⟨c10b0, H⟩ := H
       by_cases c11 : x8_3 < (((rd_T49 l0 x7_1).f1).length : Int)
       rotate_left
       ·rw [if_neg c11] at H
        have c11b0 := decide_eq_false c11
        clear c11
        have H' := zM H
        clear H
        obtain ⟨p420, q420, ad420, A420_1, c420_1, A420_2, c420_2, e420, hx420_0, hx420_1, hx420_2, hl420_1, hi420_1, hl420_2, hi420_2⟩ := zRd (at_T49 HR0.1 x7_1)
        cases e420
        replace hx420_0 := zHx HB.1 hx420_0
        replace hx420_1 := zHx HB.1 hx420_1
        replace hx420_2 := zHx HB.1 hx420_2
        have HR420_1 := zM hi420_1
        have HC420_1 := zM hl420_1
        clear hi420_1 hl420_1
        have HR420_2 := zM hi420_2
        have HC420_2 := zM hl420_2
        clear hi420_2 hl420_2
        go_wp2
        go_roundg k3
        case measure => have := HK1.1; have := HJ5.1; have := HK3.1; omega
        case rel => exact ⟨(x6_3), (wrap64 (x7_1 + 1)), zJJ, H', ⟨by have := HK1.1; have := HJ5.1; have := HK3.1; omega⟩, ⟨zR HO_4.1⟩, ⟨zR HO_6.1⟩, ⟨zB0⟩⟩
       rw [if_pos c11] at H
       have c11b0 := decide_eq_true c11
       clear c11
       replace H := zIt H
       obtain ⟨c12b0, H⟩ := H
       replace H := zO H
       obtain ⟨t425, A13, H⟩ := H
       by_cases c14 : t425 ≥ 0
       rotate_left
       ·rw [if_neg c14] at H
        have c14b0 := decide_eq_false c14
        clear c14
        replace H := zO H
        obtain ⟨⟨t438, t439⟩, A35, H⟩ := H
        try dsimp only at H
        replace H := zIn H
        obtain ⟨LMc36, H⟩ := H
        generalize hy440 : ((x6_3 ++ [t438]) : List Int) = y440 at H
        have Ny440 := zM hy440.symm
        clear hy440
        have H' := zM H
        clear H
        obtain ⟨p420, q420, ad420, A420_1, c420_1, A420_2, c420_2, e420, hx420_0, hx420_1, hx420_2, hl420_1, hi420_1, hl420_2, hi420_2⟩ := zRd (at_T49 HR0.1 x7_1)
        cases e420
        replace hx420_0 := zHx HB.1 hx420_0
        replace hx420_1 := zHx HB.1 hx420_1
        replace hx420_2 := zHx HB.1 hx420_2
        have HR420_1 := zM hi420_1
        have HC420_1 := zM hl420_1
        clear hi420_1 hl420_1
        have HR420_2 := zM hi420_2
        have HC420_2 := zM hl420_2
        clear hi420_2 hl420_2
        obtain ⟨p421, q421, ad421, A421_1, c421_1, A421_2, c421_2, e421, hx421_0, hx421_1, hx421_2, hl421_1, hi421_1, hl421_2, hi421_2⟩ := zRd (at_T49 HR0.1 x7_1)
        obtain rfl : ad420 = ad421 := (by injection e421)
        replace hx421_0 := zHx HB.1 hx421_0
        replace hx421_1 := zHx HB.1 hx421_1
        replace hx421_2 := zHx HB.1 hx421_2
        have HR421_1 := zM hi421_1
        have HC421_1 := zM hl421_1
        clear hi421_1 hl421_1
        have HR421_2 := zM hi421_2
        have HC421_2 := zM hl421_2
        clear hi421_2 hl421_2
        have ea_ := Option.some.inj (hx420_1.symm.trans hx421_1)
        injection ea_ with ea_ en_ ec_
        subst ea_
        subst ec_
        clear en_
        have ea_ := Option.some.inj (hx420_2.symm.trans hx421_2)
        injection ea_ with ea_ en_ ec_
        subst ea_
        subst ec_
        clear en_
        obtain ⟨p422, q422, ad422, e422, hx422_0, hx422_1, hx422_2, hx422_3, hx422_4⟩ := zRd (at_T57 HR421_1.1 x8_3)
        cases e422
        replace hx422_0 := zHx HB.1 hx422_0
        replace hx422_1 := zHx HB.1 hx422_1
        replace hx422_2 := zHx HB.1 hx422_2
        replace hx422_3 := zHx HB.1 hx422_3
        replace hx422_4 := zHx HB.1 hx422_4
        go_wp2_with (first | ((with_reducible refine zBx 9 57 #[.int .i64 0, .int .i64 0, .int .i64 0, .int .i64 0, .int .i64 0] ?_); intro gb423 hg w37 hbox hb; replace HO_4 := zM (Kd.R_below (zR HO_4.1) hb); replace HO_6 := zM (Kd.R_below (zR HO_6.1) hb); have BK423 := zM hbox; have GW423 := zM (zW hg (below_size zB0)); have GE423 := zM (zW hg (below_size zB0)); replace HB := zM (below_step zB0 hb); clear hb hbox hg; have hcz38 := zc_5 (w := w37) BK423.1; have p424 : 0 ≤ (x7_1 : Int) := zA; have q424 : x7_1 < (l0.length : Int) := zA; obtain ⟨ad424, A424_1, c424_1, A424_2, c424_2, e424, hx424_0, hx424_1, hx424_2, hl424_1, hi424_1, hl424_2, hi424_2⟩ := at_T49 HR0.1 x7_1 p424 q424; obtain rfl : ad420 = ad424 := (by injection e424); have hn424_0 : ad420.block ≠ gb423 := Nat.ne_of_lt (Nat.lt_of_lt_of_le (by have := World.block_lt_of_cell? _ _ hx424_0; first | rwa [add_block] at this | exact this) GW423.1); have hn424_1 : ad420.block ≠ gb423 := Nat.ne_of_lt (Nat.lt_of_lt_of_le (by have := World.block_lt_of_cell? _ _ hx424_0; first | rwa [add_block] at this | exact this) GW423.1); have hn424_2 : ad420.block ≠ gb423 := Nat.ne_of_lt (Nat.lt_of_lt_of_le (by have := World.block_lt_of_cell? _ _ hx424_0; first | rwa [add_block] at this | exact this) GW423.1); have hn424_3 : ad420.block ≠ gb423 := Nat.ne_of_lt (Nat.lt_of_lt_of_le (by have := World.block_lt_of_cell? _ _ hx424_0; first | rwa [add_block] at this | exact this) GW423.1); have hn424_4 : ad420.block ≠ gb423 := Nat.ne_of_lt (Nat.lt_of_lt_of_le (by have := World.block_lt_of_cell? _ _ hx424_0; first | rwa [add_block] at this | exact this) GW423.1); replace hx424_0 := zHx HB.1 hx424_0; replace hx424_1 := zHx HB.1 hx424_1; replace hx424_2 := zHx HB.1 hx424_2; have HR424_1 := zM hi424_1; have HC424_1 := zM hl424_1; clear hi424_1 hl424_1; have HR424_2 := zM hi424_2; have HC424_2 := zM hl424_2; clear hi424_2 hl424_2; replace hx424_0 := (cell_far (p := ⟨gb423, 0, none⟩) (by first | (rw [add_block]; exact hn424_0) | (show (Addr.add _ _).block ≠ _; rw [add_block]; exact hn424_0) | exact hn424_0) (.int .i64 ((rd_T57 ((rd_T49 l0 x7_1).f1) x8_3).f0))).trans hx424_0; replace hx424_1 := (cell_far (p := ⟨gb423, 0, none⟩) (by first | (rw [add_block]; exact hn424_0) | (show (Addr.add _ _).block ≠ _; rw [add_block]; exact hn424_0) | exact hn424_0) (.int .i64 ((rd_T57 ((rd_T49 l0 x7_1).f1) x8_3).f0))).trans hx424_1; replace hx424_2 := (cell_far (p := ⟨gb423, 0, none⟩) (by first | (rw [add_block]; exact hn424_0) | (show (Addr.add _ _).block ≠ _; rw [add_block]; exact hn424_0) | exact hn424_0) (.int .i64 ((rd_T57 ((rd_T49 l0 x7_1).f1) x8_3).f0))).trans hx424_2; replace hx424_0 := (cell_far (p := ⟨gb423, 1, none⟩) (by first | (rw [add_block]; exact hn424_1) | (show (Addr.add _ _).block ≠ _; rw [add_block]; exact hn424_1) | exact hn424_1) (.int .i64 ((rd_T57 ((rd_T49 l0 x7_1).f1) x8_3).f1))).trans hx424_0; replace hx424_1 := (cell_far (p := ⟨gb423, 1, none⟩) (by first | (rw [add_block]; exact hn424_1) | (show (Addr.add _ _).block ≠ _; rw [add_block]; exact hn424_1) | exact hn424_1) (.int .i64 ((rd_T57 ((rd_T49 l0 x7_1).f1) x8_3).f1))).trans hx424_1; replace hx424_2 := (cell_far (p := ⟨gb423, 1, none⟩) (by first | (rw [add_block]; exact hn424_1) | (show (Addr.add _ _).block ≠ _; rw [add_block]; exact hn424_1) | exact hn424_1) (.int .i64 ((rd_T57 ((rd_T49 l0 x7_1).f1) x8_3).f1))).trans hx424_2; replace hx424_0 := (cell_far (p := ⟨gb423, 2, none⟩) (by first | (rw [add_block]; exact hn424_2) | (show (Addr.add _ _).block ≠ _; rw [add_block]; exact hn424_2) | exact hn424_2) (.int .i64 ((rd_T57 ((rd_T49 l0 x7_1).f1) x8_3).f2))).trans hx424_0; replace hx424_1 := (cell_far (p := ⟨gb423, 2, none⟩) (by first | (rw [add_block]; exact hn424_2) | (show (Addr.add _ _).block ≠ _; rw [add_block]; exact hn424_2) | exact hn424_2) (.int .i64 ((rd_T57 ((rd_T49 l0 x7_1).f1) x8_3).f2))).trans hx424_1; replace hx424_2 := (cell_far (p := ⟨gb423, 2, none⟩) (by first | (rw [add_block]; exact hn424_2) | (show (Addr.add _ _).block ≠ _; rw [add_block]; exact hn424_2) | exact hn424_2) (.int .i64 ((rd_T57 ((rd_T49 l0 x7_1).f1) x8_3).f2))).trans hx424_2; replace hx424_0 := (cell_far (p := ⟨gb423, 3, none⟩) (by first | (rw [add_block]; exact hn424_3) | (show (Addr.add _ _).block ≠ _; rw [add_block]; exact hn424_3) | exact hn424_3) (.int .i64 ((rd_T57 ((rd_T49 l0 x7_1).f1) x8_3).f3))).trans hx424_0; replace hx424_1 := (cell_far (p := ⟨gb423, 3, none⟩) (by first | (rw [add_block]; exact hn424_3) | (show (Addr.add _ _).block ≠ _; rw [add_block]; exact hn424_3) | exact hn424_3) (.int .i64 ((rd_T57 ((rd_T49 l0 x7_1).f1) x8_3).f3))).trans hx424_1; replace hx424_2 := (cell_far (p := ⟨gb423, 3, none⟩) (by first | (rw [add_block]; exact hn424_3) | (show (Addr.add _ _).block ≠ _; rw [add_block]; exact hn424_3) | exact hn424_3) (.int .i64 ((rd_T57 ((rd_T49 l0 x7_1).f1) x8_3).f3))).trans hx424_2; replace hx424_0 := (cell_far (p := ⟨gb423, 4, none⟩) (by first | (rw [add_block]; exact hn424_4) | (show (Addr.add _ _).block ≠ _; rw [add_block]; exact hn424_4) | exact hn424_4) (.int .i64 ((rd_T57 ((rd_T49 l0 x7_1).f1) x8_3).f4))).trans hx424_0; replace hx424_1 := (cell_far (p := ⟨gb423, 4, none⟩) (by first | (rw [add_block]; exact hn424_4) | (show (Addr.add _ _).block ≠ _; rw [add_block]; exact hn424_4) | exact hn424_4) (.int .i64 ((rd_T57 ((rd_T49 l0 x7_1).f1) x8_3).f4))).trans hx424_1; replace hx424_2 := (cell_far (p := ⟨gb423, 4, none⟩) (by first | (rw [add_block]; exact hn424_4) | (show (Addr.add _ _).block ≠ _; rw [add_block]; exact hn424_4) | exact hn424_4) (.int .i64 ((rd_T57 ((rd_T49 l0 x7_1).f1) x8_3).f4))).trans hx424_2; clear hn424_0; clear hn424_1; clear hn424_2; clear hn424_3; clear hn424_4; replace p424 := eq_true p424; replace q424 := eq_true q424) | ((with_reducible refine zG Try.func56 52 #[.agg #[.string ((rd_T49 l0 x7_1).f0), .slice A424_1 ((rd_T49 l0 x7_1).f1).length c424_1, .slice A424_2 ((rd_T49 l0 x7_1).f2).length c424_2], .int .i64 x8_3] ?_); (with_reducible refine (spec_l27Ref.calls k3 ((rd_T49 l0 x7_1).f0) _ _ ((rd_T49 l0 x7_1).f1) _ _ ((rd_T49 l0 x7_1).f2) x8_3 t425 _ ?side1 ?side2 ?side3 ?side4 A13.1).mono ?_); (case side1 => exact Kd.C_below HR424_1.1 zB0); (case side2 => exact HC424_1.1); (case side3 => exact Kd.C_below HR424_2.1 zB0); (case side4 => exact HC424_2.1); rintro e w39 ⟨rfl, hb⟩; refine ⟨_, rfl, ?_⟩; replace HO_4 := zM (Kd.R_below (by refine zrR ?_; exact (Kd.R_mono (zfR (zfR (zfR (zfR (zfR (Kd.R_types HO_4.1 BK423.1 (by decide))))))) (fun _ h_ => h_.1))) hb); replace HO_6 := zM (Kd.R_below (by refine zrR ?_; exact (Kd.R_mono (zfR (zfR (zfR (zfR (zfR (Kd.R_types HO_6.1 BK423.1 (by decide))))))) (fun _ h_ => h_.1))) hb); replace BK423 := zM (blk_below (g := gb423) (o := .cells #[.int .i64 ((rd_T57 ((rd_T49 l0 x7_1).f1) x8_3).f0), .int .i64 ((rd_T57 ((rd_T49 l0 x7_1).f1) x8_3).f1), .int .i64 ((rd_T57 ((rd_T49 l0 x7_1).f1) x8_3).f2), .int .i64 ((rd_T57 ((rd_T49 l0 x7_1).f1) x8_3).f3), .int .i64 ((rd_T57 ((rd_T49 l0 x7_1).f1) x8_3).f4)] 57 (0, 0)) (by exact zp5 (zK BK423.1)) hb); replace HB := zM (below_step zB0 hb); clear hb; have hcz40 := zc_5 (w := w39) BK423.1) | ((with_reducible refine zG Try.func57 76 #[.agg #[.int .i64 ((rd_T57 ((rd_T49 l0 x7_1).f1) x8_3).f0), .int .i64 ((rd_T57 ((rd_T49 l0 x7_1).f1) x8_3).f1), .int .i64 ((rd_T57 ((rd_T49 l0 x7_1).f1) x8_3).f2), .int .i64 ((rd_T57 ((rd_T49 l0 x7_1).f1) x8_3).f3), .int .i64 ((rd_T57 ((rd_T49 l0 x7_1).f1) x8_3).f4)]] ?_); (with_reducible refine (spec_Code.calls ((rd_T57 ((rd_T49 l0 x7_1).f1) x8_3).f0) ((rd_T57 ((rd_T49 l0 x7_1).f1) x8_3).f1) ((rd_T57 ((rd_T49 l0 x7_1).f1) x8_3).f2) ((rd_T57 ((rd_T49 l0 x7_1).f1) x8_3).f3) ((rd_T57 ((rd_T49 l0 x7_1).f1) x8_3).f4) t438 t439 _ A35.1).mono ?_); rintro e w41 ⟨rfl, hb⟩; refine ⟨_, rfl, ?_⟩; replace HO_4 := zM (Kd.R_below (zR HO_4.1) hb); replace HO_6 := zM (Kd.R_below (zR HO_6.1) hb); replace BK423 := zM (blk_below (g := gb423) (o := .cells #[.int .i64 ((rd_T57 ((rd_T49 l0 x7_1).f1) x8_3).f0), .int .i64 ((rd_T57 ((rd_T49 l0 x7_1).f1) x8_3).f1), .int .i64 ((rd_T57 ((rd_T49 l0 x7_1).f1) x8_3).f2), .int .i64 ((rd_T57 ((rd_T49 l0 x7_1).f1) x8_3).f3), .int .i64 ((rd_T57 ((rd_T49 l0 x7_1).f1) x8_3).f4)] 57 (0, 0)) (zK BK423.1) hb); replace HB := zM (below_step zB0 hb); clear hb) | ((with_reducible refine gate_builtin (b := .append) (xs := #[.tmp 79, .tmp 81]) rfl ?_); at_builtin; refine Kd.R_append (Kd.int .i64) (w0 := w) w.heap.size rfl (.tmp 79) (.tmp 81) 24 3 (.int .i64 0) 8 rfl Try.underlying24 info3 rfl (by decide) (by omega) u6 x6_3 t438 [.int .i64 t438] (fun k_ => some k_ ≠ (v415 : Value).ownBlock) (fun _ => False) rfl rfl ?aP (fun _ hk => hk.elim) ?aF ?aO ?aB ?aS ?aL ?_; (case aP => exact rfl); (case aB => exact zB0); (case aF => exact (fun k_ hk => Kd.fresh' (Kd.R_lt (zR HO_4.1)) k_ hk)); (case aO => exact (zR HO_6.1)); (case aS => exact (below_size zB0)); (case aL => have := LMc36.out; omega); intro v441 w42 ho hb hg hat; rw [← Ny440.1] at ho; replace HO_4 := zM (Kd.R_after (ok := (fun _ => True)) (by refine zrR ?_; exact Kd.R_mono HO_4.1 (fun _ hk => ⟨trivial, hk⟩)) hg hat); replace BK423 := zM (blk_grown (g := gb423) (o := .cells #[.int .i64 ((rd_T57 ((rd_T49 l0 x7_1).f1) x8_3).f0), .int .i64 ((rd_T57 ((rd_T49 l0 x7_1).f1) x8_3).f1), .int .i64 ((rd_T57 ((rd_T49 l0 x7_1).f1) x8_3).f2), .int .i64 ((rd_T57 ((rd_T49 l0 x7_1).f1) x8_3).f3), .int .i64 ((rd_T57 ((rd_T49 l0 x7_1).f1) x8_3).f4)] 57 (0, 0)) (zK BK423.1) hg (Kd.R_ne HO_6.1 BK423.1 (by decide))); replace HB := zM hb; have HO442 := zM ho; clear HO_6; clear ho hb hg hat))
        go_roundg k3
        case measure => have := HK1.1; have := HJ5.1; have := HK3.1; omega
        case rel => exact ⟨(y440), (wrap64 (x8_3 + 1)), zJJ, H', ⟨by have := HK1.1; have := HJ5.1; have := HK3.1; omega⟩, ⟨by refine zrR ?_; exact Kd.R_mono HO_4.1 (fun _ hk => hk.2)⟩, ⟨zR HO442.1⟩, ⟨zB0⟩⟩
       rw [if_pos c14] at H
       have c14b0 := decide_eq_true c14
       clear c14
       replace H := zIt H
       obtain ⟨c15b0, H⟩ := H
       replace H := zIt H
       obtain ⟨c16b0, H⟩ := H
       replace H := zO H
       obtain ⟨t428, A17, H⟩ := H
       by_cases c18 : t428 < 0
       ·rw [if_pos c18] at H
        have c18b0 := decide_eq_true c18
        clear c18
        generalize hy429 : ((([] : List Int)) : List Int) = y429 at H
        have Ny429 := zM hy429.symm
        clear hy429
        simp only [Option.some.injEq, Prod.mk.injEq] at H
        obtain ⟨rfl, rfl⟩ := H
        obtain ⟨p420, q420, ad420, A420_1, c420_1, A420_2, c420_2, e420, hx420_0, hx420_1, hx420_2, hl420_1, hi420_1, hl420_2, hi420_2⟩ := zRd (at_T49 HR0.1 x7_1)
        cases e420
        replace hx420_0 := zHx HB.1 hx420_0
        replace hx420_1 := zHx HB.1 hx420_1
        replace hx420_2 := zHx HB.1 hx420_2
        have HR420_1 := zM hi420_1
        have HC420_1 := zM hl420_1
        clear hi420_1 hl420_1
        have HR420_2 := zM hi420_2
        have HC420_2 := zM hl420_2
        clear hi420_2 hl420_2
        obtain ⟨p421, q421, ad421, A421_1, c421_1, A421_2, c421_2, e421, hx421_0, hx421_1, hx421_2, hl421_1, hi421_1, hl421_2, hi421_2⟩ := zRd (at_T49 HR0.1 x7_1)
        obtain rfl : ad420 = ad421 := (by injection e421)
        replace hx421_0 := zHx HB.1 hx421_0
        replace hx421_1 := zHx HB.1 hx421_1
        replace hx421_2 := zHx HB.1 hx421_2
        have HR421_1 := zM hi421_1
        have HC421_1 := zM hl421_1
        clear hi421_1 hl421_1
        have HR421_2 := zM hi421_2
        have HC421_2 := zM hl421_2
        clear hi421_2 hl421_2
        have ea_ := Option.some.inj (hx420_1.symm.trans hx421_1)
        injection ea_ with ea_ en_ ec_
        subst ea_
        subst ec_
        clear en_
        have ea_ := Option.some.inj (hx420_2.symm.trans hx421_2)
        injection ea_ with ea_ en_ ec_
        subst ea_
        subst ec_
        clear en_
        obtain ⟨p422, q422, ad422, e422, hx422_0, hx422_1, hx422_2, hx422_3, hx422_4⟩ := zRd (at_T57 HR421_1.1 x8_3)
        cases e422
        replace hx422_0 := zHx HB.1 hx422_0
        replace hx422_1 := zHx HB.1 hx422_1
        replace hx422_2 := zHx HB.1 hx422_2
        replace hx422_3 := zHx HB.1 hx422_3
        replace hx422_4 := zHx HB.1 hx422_4
        go_wp2_with (first | ((with_reducible refine zBx 9 57 #[.int .i64 0, .int .i64 0, .int .i64 0, .int .i64 0, .int .i64 0] ?_); intro gb423 hg w19 hbox hb; replace HO_4 := zM (Kd.R_below (zR HO_4.1) hb); replace HO_6 := zM (Kd.R_below (zR HO_6.1) hb); have BK423 := zM hbox; have GW423 := zM (zW hg (below_size zB0)); have GE423 := zM (zW hg (below_size zB0)); replace HB := zM (below_step zB0 hb); clear hb hbox hg; have hcz20 := zc_5 (w := w19) BK423.1; have p424 : 0 ≤ (x7_1 : Int) := zA; have q424 : x7_1 < (l0.length : Int) := zA; obtain ⟨ad424, A424_1, c424_1, A424_2, c424_2, e424, hx424_0, hx424_1, hx424_2, hl424_1, hi424_1, hl424_2, hi424_2⟩ := at_T49 HR0.1 x7_1 p424 q424; obtain rfl : ad420 = ad424 := (by injection e424); have hn424_0 : ad420.block ≠ gb423 := Nat.ne_of_lt (Nat.lt_of_lt_of_le (by have := World.block_lt_of_cell? _ _ hx424_0; first | rwa [add_block] at this | exact this) GW423.1); have hn424_1 : ad420.block ≠ gb423 := Nat.ne_of_lt (Nat.lt_of_lt_of_le (by have := World.block_lt_of_cell? _ _ hx424_0; first | rwa [add_block] at this | exact this) GW423.1); have hn424_2 : ad420.block ≠ gb423 := Nat.ne_of_lt (Nat.lt_of_lt_of_le (by have := World.block_lt_of_cell? _ _ hx424_0; first | rwa [add_block] at this | exact this) GW423.1); have hn424_3 : ad420.block ≠ gb423 := Nat.ne_of_lt (Nat.lt_of_lt_of_le (by have := World.block_lt_of_cell? _ _ hx424_0; first | rwa [add_block] at this | exact this) GW423.1); have hn424_4 : ad420.block ≠ gb423 := Nat.ne_of_lt (Nat.lt_of_lt_of_le (by have := World.block_lt_of_cell? _ _ hx424_0; first | rwa [add_block] at this | exact this) GW423.1); replace hx424_0 := zHx HB.1 hx424_0; replace hx424_1 := zHx HB.1 hx424_1; replace hx424_2 := zHx HB.1 hx424_2; have HR424_1 := zM hi424_1; have HC424_1 := zM hl424_1; clear hi424_1 hl424_1; have HR424_2 := zM hi424_2; have HC424_2 := zM hl424_2; clear hi424_2 hl424_2; replace hx424_0 := (cell_far (p := ⟨gb423, 0, none⟩) (by first | (rw [add_block]; exact hn424_0) | (show (Addr.add _ _).block ≠ _; rw [add_block]; exact hn424_0) | exact hn424_0) (.int .i64 ((rd_T57 ((rd_T49 l0 x7_1).f1) x8_3).f0))).trans hx424_0; replace hx424_1 := (cell_far (p := ⟨gb423, 0, none⟩) (by first | (rw [add_block]; exact hn424_0) | (show (Addr.add _ _).block ≠ _; rw [add_block]; exact hn424_0) | exact hn424_0) (.int .i64 ((rd_T57 ((rd_T49 l0 x7_1).f1) x8_3).f0))).trans hx424_1; replace hx424_2 := (cell_far (p := ⟨gb423, 0, none⟩) (by first | (rw [add_block]; exact hn424_0) | (show (Addr.add _ _).block ≠ _; rw [add_block]; exact hn424_0) | exact hn424_0) (.int .i64 ((rd_T57 ((rd_T49 l0 x7_1).f1) x8_3).f0))).trans hx424_2; replace hx424_0 := (cell_far (p := ⟨gb423, 1, none⟩) (by first | (rw [add_block]; exact hn424_1) | (show (Addr.add _ _).block ≠ _; rw [add_block]; exact hn424_1) | exact hn424_1) (.int .i64 ((rd_T57 ((rd_T49 l0 x7_1).f1) x8_3).f1))).trans hx424_0; replace hx424_1 := (cell_far (p := ⟨gb423, 1, none⟩) (by first | (rw [add_block]; exact hn424_1) | (show (Addr.add _ _).block ≠ _; rw [add_block]; exact hn424_1) | exact hn424_1) (.int .i64 ((rd_T57 ((rd_T49 l0 x7_1).f1) x8_3).f1))).trans hx424_1; replace hx424_2 := (cell_far (p := ⟨gb423, 1, none⟩) (by first | (rw [add_block]; exact hn424_1) | (show (Addr.add _ _).block ≠ _; rw [add_block]; exact hn424_1) | exact hn424_1) (.int .i64 ((rd_T57 ((rd_T49 l0 x7_1).f1) x8_3).f1))).trans hx424_2; replace hx424_0 := (cell_far (p := ⟨gb423, 2, none⟩) (by first | (rw [add_block]; exact hn424_2) | (show (Addr.add _ _).block ≠ _; rw [add_block]; exact hn424_2) | exact hn424_2) (.int .i64 ((rd_T57 ((rd_T49 l0 x7_1).f1) x8_3).f2))).trans hx424_0; replace hx424_1 := (cell_far (p := ⟨gb423, 2, none⟩) (by first | (rw [add_block]; exact hn424_2) | (show (Addr.add _ _).block ≠ _; rw [add_block]; exact hn424_2) | exact hn424_2) (.int .i64 ((rd_T57 ((rd_T49 l0 x7_1).f1) x8_3).f2))).trans hx424_1; replace hx424_2 := (cell_far (p := ⟨gb423, 2, none⟩) (by first | (rw [add_block]; exact hn424_2) | (show (Addr.add _ _).block ≠ _; rw [add_block]; exact hn424_2) | exact hn424_2) (.int .i64 ((rd_T57 ((rd_T49 l0 x7_1).f1) x8_3).f2))).trans hx424_2; replace hx424_0 := (cell_far (p := ⟨gb423, 3, none⟩) (by first | (rw [add_block]; exact hn424_3) | (show (Addr.add _ _).block ≠ _; rw [add_block]; exact hn424_3) | exact hn424_3) (.int .i64 ((rd_T57 ((rd_T49 l0 x7_1).f1) x8_3).f3))).trans hx424_0; replace hx424_1 := (cell_far (p := ⟨gb423, 3, none⟩) (by first | (rw [add_block]; exact hn424_3) | (show (Addr.add _ _).block ≠ _; rw [add_block]; exact hn424_3) | exact hn424_3) (.int .i64 ((rd_T57 ((rd_T49 l0 x7_1).f1) x8_3).f3))).trans hx424_1; replace hx424_2 := (cell_far (p := ⟨gb423, 3, none⟩) (by first | (rw [add_block]; exact hn424_3) | (show (Addr.add _ _).block ≠ _; rw [add_block]; exact hn424_3) | exact hn424_3) (.int .i64 ((rd_T57 ((rd_T49 l0 x7_1).f1) x8_3).f3))).trans hx424_2; replace hx424_0 := (cell_far (p := ⟨gb423, 4, none⟩) (by first | (rw [add_block]; exact hn424_4) | (show (Addr.add _ _).block ≠ _; rw [add_block]; exact hn424_4) | exact hn424_4) (.int .i64 ((rd_T57 ((rd_T49 l0 x7_1).f1) x8_3).f4))).trans hx424_0; replace hx424_1 := (cell_far (p := ⟨gb423, 4, none⟩) (by first | (rw [add_block]; exact hn424_4) | (show (Addr.add _ _).block ≠ _; rw [add_block]; exact hn424_4) | exact hn424_4) (.int .i64 ((rd_T57 ((rd_T49 l0 x7_1).f1) x8_3).f4))).trans hx424_1; replace hx424_2 := (cell_far (p := ⟨gb423, 4, none⟩) (by first | (rw [add_block]; exact hn424_4) | (show (Addr.add _ _).block ≠ _; rw [add_block]; exact hn424_4) | exact hn424_4) (.int .i64 ((rd_T57 ((rd_T49 l0 x7_1).f1) x8_3).f4))).trans hx424_2; clear hn424_0; clear hn424_1; clear hn424_2; clear hn424_3; clear hn424_4; replace p424 := eq_true p424; replace q424 := eq_true q424) | ((with_reducible refine zG Try.func56 52 #[.agg #[.string ((rd_T49 l0 x7_1).f0), .slice A424_1 ((rd_T49 l0 x7_1).f1).length c424_1, .slice A424_2 ((rd_T49 l0 x7_1).f2).length c424_2], .int .i64 x8_3] ?_); (with_reducible refine (spec_l27Ref.calls k3 ((rd_T49 l0 x7_1).f0) _ _ ((rd_T49 l0 x7_1).f1) _ _ ((rd_T49 l0 x7_1).f2) x8_3 t425 _ ?side1 ?side2 ?side3 ?side4 A13.1).mono ?_); (case side1 => exact Kd.C_below HR424_1.1 zB0); (case side2 => exact HC424_1.1); (case side3 => exact Kd.C_below HR424_2.1 zB0); (case side4 => exact HC424_2.1); rintro e w21 ⟨rfl, hb⟩; refine ⟨_, rfl, ?_⟩; replace HO_4 := zM (Kd.R_below (by refine zrR ?_; exact (Kd.R_mono (zfR (zfR (zfR (zfR (zfR (Kd.R_types HO_4.1 BK423.1 (by decide))))))) (fun _ h_ => h_.1))) hb); replace HO_6 := zM (Kd.R_below (by refine zrR ?_; exact (Kd.R_mono (zfR (zfR (zfR (zfR (zfR (Kd.R_types HO_6.1 BK423.1 (by decide))))))) (fun _ h_ => h_.1))) hb); replace BK423 := zM (blk_below (g := gb423) (o := .cells #[.int .i64 ((rd_T57 ((rd_T49 l0 x7_1).f1) x8_3).f0), .int .i64 ((rd_T57 ((rd_T49 l0 x7_1).f1) x8_3).f1), .int .i64 ((rd_T57 ((rd_T49 l0 x7_1).f1) x8_3).f2), .int .i64 ((rd_T57 ((rd_T49 l0 x7_1).f1) x8_3).f3), .int .i64 ((rd_T57 ((rd_T49 l0 x7_1).f1) x8_3).f4)] 57 (0, 0)) (by exact zp5 (zK BK423.1)) hb); replace HB := zM (below_step zB0 hb); clear hb; have p426 : 0 ≤ (x7_1 : Int) := zA; have q426 : x7_1 < (l0.length : Int) := zA; obtain ⟨ad426, A426_1, c426_1, A426_2, c426_2, e426, hx426_0, hx426_1, hx426_2, hl426_1, hi426_1, hl426_2, hi426_2⟩ := at_T49 HR0.1 x7_1 p426 q426; obtain rfl : ad420 = ad426 := (by injection e426); replace hx426_0 := zHx HB.1 hx426_0; replace hx426_1 := zHx HB.1 hx426_1; replace hx426_2 := zHx HB.1 hx426_2; have HR426_1 := zM hi426_1; have HC426_1 := zM hl426_1; clear hi426_1 hl426_1; have HR426_2 := zM hi426_2; have HC426_2 := zM hl426_2; clear hi426_2 hl426_2; replace p426 := eq_true p426; replace q426 := eq_true q426; have p427 : 0 ≤ (t425 : Int) := zA; have q427 : t425 < (((rd_T49 l0 x7_1).f2).length : Int) := zA; obtain ⟨ad427, e427, hx427_0, hx427_1⟩ := at_T61 HR426_2.1 t425 p427 q427; cases e427; replace hx427_0 := zHx HB.1 hx427_0; replace hx427_1 := zHx HB.1 hx427_1; replace p427 := eq_true p427; replace q427 := eq_true q427) | ((with_reducible refine zG Try.func29 65 #[.slice (some ad420) l0.length c0, .string ((rd_T61 ((rd_T49 l0 x7_1).f2) t425).f1)] ?_); (with_reducible refine (spec_PartAt.calls k3 _ _ l0 ((rd_T61 ((rd_T49 l0 x7_1).f2) t425).f1) t428 _ ?side1 ?side2 A17.1).mono ?_); (case side1 => exact zC (Kd.C_below HR0.1 HB.1)); (case side2 => exact HC0.1); rintro e w' ⟨rfl, ⟨nd, rfl⟩⟩; refine ⟨_, rfl, ?_⟩) | ((with_reducible refine gate_dst (N := 68) rfl ?_); refine Kd.R_lit (Kd.int .i64) _ 3 ?hg (N := 68) ?hd (xs := ([] : List Int)) (inner := []) (ok := fun _ => True) (okp := fun _ => True) ?hr ?hp (fun _ hk => hk) trivial (Below.refl _ _) (Nat.le_refl _) (by simp) ?_; (case hd => rfl); (case hg => rfl); (case hr => exact zHH); (case hp => exact (Reps.none _ _)); intro v430 w22 ho23 hb hg_ hnew_; clear hg_ hnew_; (first | rw [← Ny429.1] at ho23 | (simp only [Int.reduceToNat] at ho23; rw [← Ny429.1] at ho23)); have HO431 := zM (Kd.R_lower (Kd.R_new' (Kd.R_new' ho23 (Kd.R_lt (zR HO_4.1))) (Kd.R_lt (zR HO_6.1))) (below_size zB0)); replace HO_4 := zM (Kd.R_elder' (zR HO_4.1) (Kd.R_base ho23) hb); replace HO_6 := zM (Kd.R_elder' (zR HO_6.1) (Kd.R_base ho23) hb); replace BK423 := zM (blk_below (g := gb423) (o := .cells #[.int .i64 ((rd_T57 ((rd_T49 l0 x7_1).f1) x8_3).f0), .int .i64 ((rd_T57 ((rd_T49 l0 x7_1).f1) x8_3).f1), .int .i64 ((rd_T57 ((rd_T49 l0 x7_1).f1) x8_3).f2), .int .i64 ((rd_T57 ((rd_T49 l0 x7_1).f1) x8_3).f3), .int .i64 ((rd_T57 ((rd_T49 l0 x7_1).f1) x8_3).f4)] 57 (0, 0)) (zK BK423.1) hb); replace HB := zM (below_step zB0 hb); clear hb ho23))
        go_ret2
        exact ⟨_, zE, by refine zrR ?_; exact Kd.R_mono HO431.1 (fun _ hk => trivial), zB0⟩
       rw [if_neg c18] at H
       have c18b0 := decide_eq_false c18
       clear c18
       replace H := zIt H
       obtain ⟨c24b0, H⟩ := H
       replace H := zIt H
       obtain ⟨c25b0, H⟩ := H
       replace H := zO H
       obtain ⟨⟨t433, t434⟩, A26, H⟩ := H
       try dsimp only at H
       replace H := zIn H
       obtain ⟨LMc27, H⟩ := H
       generalize hy435 : ((x6_3 ++ [t433]) : List Int) = y435 at H
       have Ny435 := zM hy435.symm
       clear hy435
       have H' := zM H
       clear H
       obtain ⟨p420, q420, ad420, A420_1, c420_1, A420_2, c420_2, e420, hx420_0, hx420_1, hx420_2, hl420_1, hi420_1, hl420_2, hi420_2⟩ := zRd (at_T49 HR0.1 x7_1)
       cases e420
       replace hx420_0 := zHx HB.1 hx420_0
       replace hx420_1 := zHx HB.1 hx420_1
       replace hx420_2 := zHx HB.1 hx420_2
       have HR420_1 := zM hi420_1
       have HC420_1 := zM hl420_1
       clear hi420_1 hl420_1
       have HR420_2 := zM hi420_2
       have HC420_2 := zM hl420_2
       clear hi420_2 hl420_2
       obtain ⟨p421, q421, ad421, A421_1, c421_1, A421_2, c421_2, e421, hx421_0, hx421_1, hx421_2, hl421_1, hi421_1, hl421_2, hi421_2⟩ := zRd (at_T49 HR0.1 x7_1)
       obtain rfl : ad420 = ad421 := (by injection e421)
       replace hx421_0 := zHx HB.1 hx421_0
       replace hx421_1 := zHx HB.1 hx421_1
       replace hx421_2 := zHx HB.1 hx421_2
       have HR421_1 := zM hi421_1
       have HC421_1 := zM hl421_1
       clear hi421_1 hl421_1
       have HR421_2 := zM hi421_2
       have HC421_2 := zM hl421_2
       clear hi421_2 hl421_2
       have ea_ := Option.some.inj (hx420_1.symm.trans hx421_1)
       injection ea_ with ea_ en_ ec_
       subst ea_
       subst ec_
       clear en_
       have ea_ := Option.some.inj (hx420_2.symm.trans hx421_2)
       injection ea_ with ea_ en_ ec_
       subst ea_
       subst ec_
       clear en_
       obtain ⟨p422, q422, ad422, e422, hx422_0, hx422_1, hx422_2, hx422_3, hx422_4⟩ := zRd (at_T57 HR421_1.1 x8_3)
       cases e422
       replace hx422_0 := zHx HB.1 hx422_0
       replace hx422_1 := zHx HB.1 hx422_1
       replace hx422_2 := zHx HB.1 hx422_2
       replace hx422_3 := zHx HB.1 hx422_3
       replace hx422_4 := zHx HB.1 hx422_4
       go_wp2_with (first | ((with_reducible refine zBx 9 57 #[.int .i64 0, .int .i64 0, .int .i64 0, .int .i64 0, .int .i64 0] ?_); intro gb423 hg w28 hbox hb; replace HO_4 := zM (Kd.R_below (zR HO_4.1) hb); replace HO_6 := zM (Kd.R_below (zR HO_6.1) hb); have BK423 := zM hbox; have GW423 := zM (zW hg (below_size zB0)); have GE423 := zM (zW hg (below_size zB0)); replace HB := zM (below_step zB0 hb); clear hb hbox hg; have hcz29 := zc_5 (w := w28) BK423.1; have p424 : 0 ≤ (x7_1 : Int) := zA; have q424 : x7_1 < (l0.length : Int) := zA; obtain ⟨ad424, A424_1, c424_1, A424_2, c424_2, e424, hx424_0, hx424_1, hx424_2, hl424_1, hi424_1, hl424_2, hi424_2⟩ := at_T49 HR0.1 x7_1 p424 q424; obtain rfl : ad420 = ad424 := (by injection e424); have hn424_0 : ad420.block ≠ gb423 := Nat.ne_of_lt (Nat.lt_of_lt_of_le (by have := World.block_lt_of_cell? _ _ hx424_0; first | rwa [add_block] at this | exact this) GW423.1); have hn424_1 : ad420.block ≠ gb423 := Nat.ne_of_lt (Nat.lt_of_lt_of_le (by have := World.block_lt_of_cell? _ _ hx424_0; first | rwa [add_block] at this | exact this) GW423.1); have hn424_2 : ad420.block ≠ gb423 := Nat.ne_of_lt (Nat.lt_of_lt_of_le (by have := World.block_lt_of_cell? _ _ hx424_0; first | rwa [add_block] at this | exact this) GW423.1); have hn424_3 : ad420.block ≠ gb423 := Nat.ne_of_lt (Nat.lt_of_lt_of_le (by have := World.block_lt_of_cell? _ _ hx424_0; first | rwa [add_block] at this | exact this) GW423.1); have hn424_4 : ad420.block ≠ gb423 := Nat.ne_of_lt (Nat.lt_of_lt_of_le (by have := World.block_lt_of_cell? _ _ hx424_0; first | rwa [add_block] at this | exact this) GW423.1); replace hx424_0 := zHx HB.1 hx424_0; replace hx424_1 := zHx HB.1 hx424_1; replace hx424_2 := zHx HB.1 hx424_2; have HR424_1 := zM hi424_1; have HC424_1 := zM hl424_1; clear hi424_1 hl424_1; have HR424_2 := zM hi424_2; have HC424_2 := zM hl424_2; clear hi424_2 hl424_2; replace hx424_0 := (cell_far (p := ⟨gb423, 0, none⟩) (by first | (rw [add_block]; exact hn424_0) | (show (Addr.add _ _).block ≠ _; rw [add_block]; exact hn424_0) | exact hn424_0) (.int .i64 ((rd_T57 ((rd_T49 l0 x7_1).f1) x8_3).f0))).trans hx424_0; replace hx424_1 := (cell_far (p := ⟨gb423, 0, none⟩) (by first | (rw [add_block]; exact hn424_0) | (show (Addr.add _ _).block ≠ _; rw [add_block]; exact hn424_0) | exact hn424_0) (.int .i64 ((rd_T57 ((rd_T49 l0 x7_1).f1) x8_3).f0))).trans hx424_1; replace hx424_2 := (cell_far (p := ⟨gb423, 0, none⟩) (by first | (rw [add_block]; exact hn424_0) | (show (Addr.add _ _).block ≠ _; rw [add_block]; exact hn424_0) | exact hn424_0) (.int .i64 ((rd_T57 ((rd_T49 l0 x7_1).f1) x8_3).f0))).trans hx424_2; replace hx424_0 := (cell_far (p := ⟨gb423, 1, none⟩) (by first | (rw [add_block]; exact hn424_1) | (show (Addr.add _ _).block ≠ _; rw [add_block]; exact hn424_1) | exact hn424_1) (.int .i64 ((rd_T57 ((rd_T49 l0 x7_1).f1) x8_3).f1))).trans hx424_0; replace hx424_1 := (cell_far (p := ⟨gb423, 1, none⟩) (by first | (rw [add_block]; exact hn424_1) | (show (Addr.add _ _).block ≠ _; rw [add_block]; exact hn424_1) | exact hn424_1) (.int .i64 ((rd_T57 ((rd_T49 l0 x7_1).f1) x8_3).f1))).trans hx424_1; replace hx424_2 := (cell_far (p := ⟨gb423, 1, none⟩) (by first | (rw [add_block]; exact hn424_1) | (show (Addr.add _ _).block ≠ _; rw [add_block]; exact hn424_1) | exact hn424_1) (.int .i64 ((rd_T57 ((rd_T49 l0 x7_1).f1) x8_3).f1))).trans hx424_2; replace hx424_0 := (cell_far (p := ⟨gb423, 2, none⟩) (by first | (rw [add_block]; exact hn424_2) | (show (Addr.add _ _).block ≠ _; rw [add_block]; exact hn424_2) | exact hn424_2) (.int .i64 ((rd_T57 ((rd_T49 l0 x7_1).f1) x8_3).f2))).trans hx424_0; replace hx424_1 := (cell_far (p := ⟨gb423, 2, none⟩) (by first | (rw [add_block]; exact hn424_2) | (show (Addr.add _ _).block ≠ _; rw [add_block]; exact hn424_2) | exact hn424_2) (.int .i64 ((rd_T57 ((rd_T49 l0 x7_1).f1) x8_3).f2))).trans hx424_1; replace hx424_2 := (cell_far (p := ⟨gb423, 2, none⟩) (by first | (rw [add_block]; exact hn424_2) | (show (Addr.add _ _).block ≠ _; rw [add_block]; exact hn424_2) | exact hn424_2) (.int .i64 ((rd_T57 ((rd_T49 l0 x7_1).f1) x8_3).f2))).trans hx424_2; replace hx424_0 := (cell_far (p := ⟨gb423, 3, none⟩) (by first | (rw [add_block]; exact hn424_3) | (show (Addr.add _ _).block ≠ _; rw [add_block]; exact hn424_3) | exact hn424_3) (.int .i64 ((rd_T57 ((rd_T49 l0 x7_1).f1) x8_3).f3))).trans hx424_0; replace hx424_1 := (cell_far (p := ⟨gb423, 3, none⟩) (by first | (rw [add_block]; exact hn424_3) | (show (Addr.add _ _).block ≠ _; rw [add_block]; exact hn424_3) | exact hn424_3) (.int .i64 ((rd_T57 ((rd_T49 l0 x7_1).f1) x8_3).f3))).trans hx424_1; replace hx424_2 := (cell_far (p := ⟨gb423, 3, none⟩) (by first | (rw [add_block]; exact hn424_3) | (show (Addr.add _ _).block ≠ _; rw [add_block]; exact hn424_3) | exact hn424_3) (.int .i64 ((rd_T57 ((rd_T49 l0 x7_1).f1) x8_3).f3))).trans hx424_2; replace hx424_0 := (cell_far (p := ⟨gb423, 4, none⟩) (by first | (rw [add_block]; exact hn424_4) | (show (Addr.add _ _).block ≠ _; rw [add_block]; exact hn424_4) | exact hn424_4) (.int .i64 ((rd_T57 ((rd_T49 l0 x7_1).f1) x8_3).f4))).trans hx424_0; replace hx424_1 := (cell_far (p := ⟨gb423, 4, none⟩) (by first | (rw [add_block]; exact hn424_4) | (show (Addr.add _ _).block ≠ _; rw [add_block]; exact hn424_4) | exact hn424_4) (.int .i64 ((rd_T57 ((rd_T49 l0 x7_1).f1) x8_3).f4))).trans hx424_1; replace hx424_2 := (cell_far (p := ⟨gb423, 4, none⟩) (by first | (rw [add_block]; exact hn424_4) | (show (Addr.add _ _).block ≠ _; rw [add_block]; exact hn424_4) | exact hn424_4) (.int .i64 ((rd_T57 ((rd_T49 l0 x7_1).f1) x8_3).f4))).trans hx424_2; clear hn424_0; clear hn424_1; clear hn424_2; clear hn424_3; clear hn424_4; replace p424 := eq_true p424; replace q424 := eq_true q424) | ((with_reducible refine zG Try.func56 52 #[.agg #[.string ((rd_T49 l0 x7_1).f0), .slice A424_1 ((rd_T49 l0 x7_1).f1).length c424_1, .slice A424_2 ((rd_T49 l0 x7_1).f2).length c424_2], .int .i64 x8_3] ?_); (with_reducible refine (spec_l27Ref.calls k3 ((rd_T49 l0 x7_1).f0) _ _ ((rd_T49 l0 x7_1).f1) _ _ ((rd_T49 l0 x7_1).f2) x8_3 t425 _ ?side1 ?side2 ?side3 ?side4 A13.1).mono ?_); (case side1 => exact Kd.C_below HR424_1.1 zB0); (case side2 => exact HC424_1.1); (case side3 => exact Kd.C_below HR424_2.1 zB0); (case side4 => exact HC424_2.1); rintro e w30 ⟨rfl, hb⟩; refine ⟨_, rfl, ?_⟩; replace HO_4 := zM (Kd.R_below (by refine zrR ?_; exact (Kd.R_mono (zfR (zfR (zfR (zfR (zfR (Kd.R_types HO_4.1 BK423.1 (by decide))))))) (fun _ h_ => h_.1))) hb); replace HO_6 := zM (Kd.R_below (by refine zrR ?_; exact (Kd.R_mono (zfR (zfR (zfR (zfR (zfR (Kd.R_types HO_6.1 BK423.1 (by decide))))))) (fun _ h_ => h_.1))) hb); replace BK423 := zM (blk_below (g := gb423) (o := .cells #[.int .i64 ((rd_T57 ((rd_T49 l0 x7_1).f1) x8_3).f0), .int .i64 ((rd_T57 ((rd_T49 l0 x7_1).f1) x8_3).f1), .int .i64 ((rd_T57 ((rd_T49 l0 x7_1).f1) x8_3).f2), .int .i64 ((rd_T57 ((rd_T49 l0 x7_1).f1) x8_3).f3), .int .i64 ((rd_T57 ((rd_T49 l0 x7_1).f1) x8_3).f4)] 57 (0, 0)) (by exact zp5 (zK BK423.1)) hb); replace HB := zM (below_step zB0 hb); clear hb; have p426 : 0 ≤ (x7_1 : Int) := zA; have q426 : x7_1 < (l0.length : Int) := zA; obtain ⟨ad426, A426_1, c426_1, A426_2, c426_2, e426, hx426_0, hx426_1, hx426_2, hl426_1, hi426_1, hl426_2, hi426_2⟩ := at_T49 HR0.1 x7_1 p426 q426; obtain rfl : ad420 = ad426 := (by injection e426); replace hx426_0 := zHx HB.1 hx426_0; replace hx426_1 := zHx HB.1 hx426_1; replace hx426_2 := zHx HB.1 hx426_2; have HR426_1 := zM hi426_1; have HC426_1 := zM hl426_1; clear hi426_1 hl426_1; have HR426_2 := zM hi426_2; have HC426_2 := zM hl426_2; clear hi426_2 hl426_2; replace p426 := eq_true p426; replace q426 := eq_true q426; have p427 : 0 ≤ (t425 : Int) := zA; have q427 : t425 < (((rd_T49 l0 x7_1).f2).length : Int) := zA; obtain ⟨ad427, e427, hx427_0, hx427_1⟩ := at_T61 HR426_2.1 t425 p427 q427; cases e427; replace hx427_0 := zHx HB.1 hx427_0; replace hx427_1 := zHx HB.1 hx427_1; replace p427 := eq_true p427; replace q427 := eq_true q427) | ((with_reducible refine zG Try.func29 65 #[.slice (some ad420) l0.length c0, .string ((rd_T61 ((rd_T49 l0 x7_1).f2) t425).f1)] ?_); (with_reducible refine (spec_PartAt.calls k3 _ _ l0 ((rd_T61 ((rd_T49 l0 x7_1).f2) t425).f1) t428 _ ?side1 ?side2 A17.1).mono ?_); (case side1 => exact zC (Kd.C_below HR0.1 HB.1)); (case side2 => exact HC0.1); rintro e w' ⟨rfl, ⟨nd, rfl⟩⟩; refine ⟨_, rfl, ?_⟩; (try (rw [drewN_self w30]; generalize hq_ : World.drewN w30 _ = w30; have n0_ : Aside0 (Kd.R (Kd.int .i64) 3 w30 w.heap.size (fun k_ => some k_ ≠ (u6 : Value).ownBlock) v415 t413) := ⟨by rw [← hq_]; exact (zR HO_4.1)⟩; have n1_ : Aside0 (Kd.R (Kd.int .i64) 3 w30 w.heap.size (fun k_ => some k_ ≠ (v415 : Value).ownBlock) u6 x6_3) := ⟨by rw [← hq_]; exact (zR HO_6.1)⟩; have n2_ : Aside0 (w30.heap[gb423]? = some (.cells #[.int .i64 ((rd_T57 ((rd_T49 l0 x7_1).f1) x8_3).f0), .int .i64 ((rd_T57 ((rd_T49 l0 x7_1).f1) x8_3).f1), .int .i64 ((rd_T57 ((rd_T49 l0 x7_1).f1) x8_3).f2), .int .i64 ((rd_T57 ((rd_T49 l0 x7_1).f1) x8_3).f3), .int .i64 ((rd_T57 ((rd_T49 l0 x7_1).f1) x8_3).f4)] 57 (0, 0))) := ⟨by rw [← hq_]; exact (zK BK423.1)⟩; have n3_ : Aside0 (Below w.heap.size w w30) := ⟨by rw [← hq_]; exact zB0⟩; clear HO_4 HO_6 BK423 HB hq_; have HO_4 := n0_; have HO_6 := n1_; have BK423 := n2_; have HB := n3_; clear n0_ n1_ n2_ n3_)); obtain ⟨Ao31, co31, eo31⟩ := Kd.R_slice HO_4.1; subst eo31; have p432 : 0 ≤ (t428 : Int) := zA; have q432 : t428 < (t413.length : Int) := zA; obtain ⟨ad432, e432, hx432_0⟩ := Kd.at_int (Kd.R_reads' HO_4.1).2.2 t428 p432 q432; cases e432; replace p432 := eq_true p432; replace q432 := eq_true q432; have hcz32 := zc_5 (w := w30) BK423.1) | ((with_reducible refine zG Try.func57 76 #[.agg #[.int .i64 ((rd_T57 ((rd_T49 l0 x7_1).f1) x8_3).f0), .int .i64 ((rd_T57 ((rd_T49 l0 x7_1).f1) x8_3).f1), .int .i64 ((rd_T57 ((rd_T49 l0 x7_1).f1) x8_3).f2), .int .i64 ((rd_T57 ((rd_T49 l0 x7_1).f1) x8_3).f3), .int .i64 (rd t413 t428)]] ?_); (with_reducible refine (spec_Code.calls ((rd_T57 ((rd_T49 l0 x7_1).f1) x8_3).f0) ((rd_T57 ((rd_T49 l0 x7_1).f1) x8_3).f1) ((rd_T57 ((rd_T49 l0 x7_1).f1) x8_3).f2) ((rd_T57 ((rd_T49 l0 x7_1).f1) x8_3).f3) (rd t413 t428) t433 t434 _ A26.1).mono ?_); rintro e w33 ⟨rfl, hb⟩; refine ⟨_, rfl, ?_⟩; replace HO_4 := zM (Kd.R_below (by refine zrR ?_; exact (Kd.R_mono (zfR (Kd.R_types HO_4.1 BK423.1 (by decide))) (fun _ h_ => h_.1))) hb); replace HO_6 := zM (Kd.R_below (by refine zrR ?_; exact (Kd.R_mono (zfR (Kd.R_types HO_6.1 BK423.1 (by decide))) (fun _ h_ => h_.1))) hb); replace BK423 := zM (blk_below (g := gb423) (o := .cells #[.int .i64 ((rd_T57 ((rd_T49 l0 x7_1).f1) x8_3).f0), .int .i64 ((rd_T57 ((rd_T49 l0 x7_1).f1) x8_3).f1), .int .i64 ((rd_T57 ((rd_T49 l0 x7_1).f1) x8_3).f2), .int .i64 ((rd_T57 ((rd_T49 l0 x7_1).f1) x8_3).f3), .int .i64 (rd t413 t428)] 57 (0, 0)) zPq hb); replace HB := zM (below_step zB0 hb); clear hb) | ((with_reducible refine gate_builtin (b := .append) (xs := #[.tmp 79, .tmp 81]) rfl ?_); at_builtin; refine Kd.R_append (Kd.int .i64) (w0 := w) w.heap.size rfl (.tmp 79) (.tmp 81) 24 3 (.int .i64 0) 8 rfl Try.underlying24 info3 rfl (by decide) (by omega) u6 x6_3 t433 [.int .i64 t433] (fun k_ => some k_ ≠ (.slice (some ad432) t413.length co31 : Value).ownBlock) (fun _ => False) rfl rfl ?aP (fun _ hk => hk.elim) ?aF ?aO ?aB ?aS ?aL ?_; (case aP => exact rfl); (case aB => exact zB0); (case aF => exact (fun k_ hk => Kd.fresh' (Kd.R_lt (zR HO_4.1)) k_ hk)); (case aO => exact (zR HO_6.1)); (case aS => exact (below_size zB0)); (case aL => have := LMc27.out; omega); intro v436 w34 ho hb hg hat; rw [← Ny435.1] at ho; replace HO_4 := zM (Kd.R_after (ok := (fun _ => True)) (by refine zrR ?_; exact Kd.R_mono HO_4.1 (fun _ hk => ⟨trivial, hk⟩)) hg hat); replace BK423 := zM (blk_grown (g := gb423) (o := .cells #[.int .i64 ((rd_T57 ((rd_T49 l0 x7_1).f1) x8_3).f0), .int .i64 ((rd_T57 ((rd_T49 l0 x7_1).f1) x8_3).f1), .int .i64 ((rd_T57 ((rd_T49 l0 x7_1).f1) x8_3).f2), .int .i64 ((rd_T57 ((rd_T49 l0 x7_1).f1) x8_3).f3), .int .i64 (rd t413 t428)] 57 (0, 0)) (zK BK423.1) hg (Kd.R_ne HO_6.1 BK423.1 (by decide))); replace HB := zM hb; have HO437 := zM ho; clear HO_6; clear ho hb hg hat))
       go_roundg k3
       case measure => have := HK1.1; have := HJ5.1; have := HK3.1; omega
       case rel => exact ⟨(y435), (wrap64 (x8_3 + 1)), zJJ, H', ⟨by have := HK1.1; have := HJ5.1; have := HK3.1; omega⟩, ⟨by refine zrR ?_; exact Kd.R_mono HO_4.1 (fun _ hk => hk.2)⟩, ⟨zR HO437.1⟩, ⟨zB0⟩⟩

/-! ### spec_DrawLayout: function 20 -/
def spec_DrawLayout.f (k : Nat) (l0 : List Int) : Option ((List (S49))) := (spec_l1New.f k l0).bind fun bt449 => ((spec_l27DrawList.f k bt449.1 bt449.2.1 bt449.2.2).bind fun bt453 => (some bt453.1))
theorem spec_DrawLayout.mono : ∀ a0 k, LeO (spec_DrawLayout.f k a0) (spec_DrawLayout.f (k + 1) a0) := by
 intro a0 k
 unfold spec_DrawLayout.f
 have mo0 := @spec_l1New.mono
 have mo1 := @spec_l27DrawList.mono
 exact zL
theorem spec_DrawLayout.calls (k : Nat) (A0 : Option Addr) (c0 : Nat) (l0 : List Int) (r : List (S49)) (w : World) (hr0 : Kd.C (Kd.int .u8) w A0 l0.length l0) (hc0 : l0.length ≤ c0) (h : spec_DrawLayout.f k l0 = some r) :
  Calls Try.prog 20 #[.slice A0 l0.length c0] w fun e w' => ∃ v0_ : Value, e = .returned (v0_) ∧ Kd.S k49 49 w' w.heap.size (fun _ => True) v0_ r ∧ Below w.heap.size w w' := by
 have HR0 := zM hr0
 have HC0 := zM hc0
 clear hr0 hc0
 have HB := zM (Below.refl w.heap.size w)
 unfold spec_DrawLayout.f at h
 have H := h
 clear h
 replace H := zO H
 obtain ⟨⟨t449, t450, t451⟩, A2, H⟩ := H
 try dsimp only at H
 replace H := zO H
 obtain ⟨⟨t453, t456, t457⟩, A3, H⟩ := H
 try dsimp only at H
 obtain rfl := Option.some.inj H
 go_enter Try.func20, Try.ntmps20
 go_wp2_with (first | ((with_reducible refine zG Try.func32 4 #[.slice A0 l0.length c0] ?_); (with_reducible refine (spec_l1New.calls k _ _ l0 t449 t450 t451 w _ ?side1 ?side2 ?side3 A2.1).mono ?_); (case side1 => exact zB0); (case side2 => exact HR0.1); (case side3 => exact HC0.1); rintro e w4 ⟨g452, rfl, hi, hb, hb2⟩; refine ⟨_, rfl, ?_⟩; replace HB := zM hb; have HI452 := zM hi; clear hb hb2 hi) | ((with_reducible refine zG Try.func53 5 #[.pointer (some ⟨g452, 0, none⟩)] ?_); (with_reducible refine (spec_l27DrawList.calls k g452 t449 t450 t451 t453 t456 t457 w _ ?side1 ?side2 A3.1).mono ?_); (case side1 => exact zB56); (case side2 => exact zB57); rintro e w5 ⟨v454, rfl, ho0, hi, hb, hk⟩; refine ⟨_, rfl, ?_⟩; have HO455 := zM (Kd.S_lower ho0 (below_size zB57)); replace HB := zM hb; replace HI452 := zM hi; clear hb hk hi ho0))
 go_ret
 exact ⟨_, zE, zS HO455.1, zB57⟩

/-! ### spec_DrawPartOk: function 23 -/
def spec_DrawPartOk.f (k : Nat) (l0 : List Int) : Option (ByteArray × (List (S57)) × (List (S61))) := (spec_l1New.f k l0).bind fun bt459 => ((spec_l27DrawPart.f k bt459.1 bt459.2.1 bt459.2.2).bind fun bt463 => (some (bt463.1, bt463.2.1, bt463.2.2.1)))
theorem spec_DrawPartOk.mono : ∀ a0 k, LeO (spec_DrawPartOk.f k a0) (spec_DrawPartOk.f (k + 1) a0) := by
 intro a0 k
 unfold spec_DrawPartOk.f
 have mo0 := @spec_l1New.mono
 have mo1 := @spec_l27DrawPart.mono
 exact zL
theorem spec_DrawPartOk.calls (k : Nat) (A0 : Option Addr) (c0 : Nat) (l0 : List Int) (r1 : ByteArray) (r2 : List (S57)) (r3 : List (S61)) (w : World) (hr0 : Kd.C (Kd.int .u8) w A0 l0.length l0) (hc0 : l0.length ≤ c0) (h : spec_DrawPartOk.f k l0 = some (r1, r2, r3)) :
  Calls Try.prog 23 #[.slice A0 l0.length c0] w fun e w' => ∃ v1_ v2_ : Value, e = .returned (.agg #[.string r1, v1_, v2_]) ∧ Kd.R k57 57 w' w.heap.size (fun _ => True) v1_ r2 ∧ Kd.R k61 61 w' w.heap.size (fun _ => True) v2_ r3 ∧ Below w.heap.size w w' := by
 have hu49 := Try.underlying49
 have HR0 := zM hr0
 have HC0 := zM hc0
 clear hr0 hc0
 have HB := zM (Below.refl w.heap.size w)
 unfold spec_DrawPartOk.f at h
 have H := h
 clear h
 replace H := zO H
 obtain ⟨⟨t459, t460, t461⟩, A2, H⟩ := H
 try dsimp only at H
 replace H := zO H
 obtain ⟨⟨t463, t464, t467, t470, t471⟩, A3, H⟩ := H
 try dsimp only at H
 simp only [Option.some.injEq, Prod.mk.injEq] at H
 obtain ⟨rfl, rfl, rfl⟩ := H
 go_enter Try.func23, Try.ntmps23
 go_wp2_with (first | ((with_reducible refine zBx 2 49 #[.string (⟨#[]⟩ : ByteArray), .slice none 0 0, .slice none 0 0] ?_); intro gb458 hg w4 hbox hb; have BK458 := zM hbox; have GW458 := zM (zW hg (below_size zB0)); have GE458 := zM (zW hg (below_size zB0)); replace HB := zM (below_step zB0 hb); clear hb hbox hg) | ((with_reducible refine zG Try.func32 4 #[.slice A0 l0.length c0] ?_); (with_reducible refine (spec_l1New.calls k _ _ l0 t459 t460 t461 w _ ?side1 ?side2 ?side3 A2.1).mono ?_); (case side1 => exact zB0); (case side2 => exact HR0.1); (case side3 => exact HC0.1); rintro e w5 ⟨g462, rfl, hi, hb, hb2⟩; refine ⟨_, rfl, ?_⟩; replace HB := zM hb; have HI462 := zM hi; have NB462_458 := zM (IsS104.ne_blk hi (zb BK458.1 hb2) (by decide)); have NB458_462 := zM (Ne.symm (IsS104.ne_blk hi (zb BK458.1 hb2) (by decide))); replace BK458 := zM (zb BK458.1 hb2); clear hb hb2 hi) | ((with_reducible refine zG Try.func58 5 #[.pointer (some ⟨g462, 0, none⟩)] ?_); (with_reducible refine (spec_l27DrawPart.calls k g462 t459 t460 t461 t463 t464 t467 t470 t471 w _ ?side1 ?side2 A3.1).mono ?_); (case side1 => exact zB59); (case side2 => exact zB60); rintro e w6 ⟨v465, v468, rfl, ho0, ho1, hi, hb, hk⟩; refine ⟨_, rfl, ?_⟩; replace BK458 := zM (zh hk BK458.1 NB458_462.1); have HO466 := zM (Kd.R_lower ho0 (below_size zB60)); have HO469 := zM (Kd.R_lower ho1 (below_size zB60)); replace HB := zM hb; replace HI462 := zM hi; clear hb hk hi ho0 ho1; have hnb7 := NB458_462.1; have hnc7 := NB462_458.1; have hcz8 := zc_3 (w := w6) BK458.1; obtain ⟨Ao9, co9, eo9⟩ := Kd.R_slice HO466.1; subst eo9; obtain ⟨Ao10, co10, eo10⟩ := Kd.R_slice HO469.1; subst eo10))
 refine bodyPost_ret (results_cell_row rfl _ _ gb458 49 #[.string t463, .slice Ao9 t464.length co9, .slice Ao10 t467.length co10] (0, 0) _ rfl (by exact zp3 (zK BK458.1)) Try.underlying49 rfl (by kernel_rfl)) rfl ?_
 exact ⟨_, _, zE, by refine zrR ?_; exact Kd.R_mono (zfR (zfR (zfR (Kd.R_types HO466.1 BK458.1 (by decide))))) (fun _ hk => trivial), by refine zrR ?_; exact Kd.R_mono (zfR (zfR (zfR (Kd.R_types HO469.1 BK458.1 (by decide))))) (fun _ hk => trivial), zB60⟩

/-! ### spec_DrawPartAt: function 24 -/
def spec_DrawPartAt.f (k : Nat) (l0 : List Int) : Option ((List (S49)) × ByteArray) := (spec_l1New.f k l0).bind fun bt472 => ((spec_l27DrawList.f k bt472.1 bt472.2.1 bt472.2.2).bind fun bt476 => ((spec_l1Pick.f bt472.1 bt476.2.1 bt476.2.2 (([(⟨#[109, 97, 105, 110]⟩ : ByteArray), (⟨#[101, 110, 100]⟩ : ByteArray), (⟨#[110, 111, 110, 101]⟩ : ByteArray)] : List ByteArray))).bind fun bt484 => (some (bt476.1, bt484.1))))
theorem spec_DrawPartAt.mono : ∀ a0 k, LeO (spec_DrawPartAt.f k a0) (spec_DrawPartAt.f (k + 1) a0) := by
 intro a0 k
 unfold spec_DrawPartAt.f
 have mo0 := @spec_l1New.mono
 have mo1 := @spec_l27DrawList.mono
 exact zL
theorem spec_DrawPartAt.calls (k : Nat) (A0 : Option Addr) (c0 : Nat) (l0 : List Int) (r1 : List (S49)) (r2 : ByteArray) (w : World) (hr0 : Kd.C (Kd.int .u8) w A0 l0.length l0) (hc0 : l0.length ≤ c0) (h : spec_DrawPartAt.f k l0 = some (r1, r2)) :
  Calls Try.prog 24 #[.slice A0 l0.length c0] w fun e w' => ∃ v0_ : Value, e = .returned (.tuple #[v0_, .string r2]) ∧ Kd.S k49 49 w' w.heap.size (fun _ => True) v0_ r1 ∧ Below w.heap.size w w' := by
 have HR0 := zM hr0
 have HC0 := zM hc0
 clear hr0 hc0
 have HB := zM (Below.refl w.heap.size w)
 unfold spec_DrawPartAt.f at h
 have H := h
 clear h
 replace H := zO H
 obtain ⟨⟨t472, t473, t474⟩, A2, H⟩ := H
 try dsimp only at H
 replace H := zO H
 obtain ⟨⟨t476, t479, t480⟩, A3, H⟩ := H
 try dsimp only at H
 generalize hy481 : ((([(⟨#[109, 97, 105, 110]⟩ : ByteArray), (⟨#[101, 110, 100]⟩ : ByteArray), (⟨#[110, 111, 110, 101]⟩ : ByteArray)] : List ByteArray)) : List ByteArray) = y481 at H
 have Ny481 := zM hy481.symm
 clear hy481
 replace H := zO H
 obtain ⟨⟨t484, t485, t486⟩, A4, H⟩ := H
 try dsimp only at H
 simp only [Option.some.injEq, Prod.mk.injEq] at H
 obtain ⟨rfl, rfl⟩ := H
 go_enter Try.func24, Try.ntmps24
 go_wp2_with (first | ((with_reducible refine zG Try.func32 7 #[.slice A0 l0.length c0] ?_); (with_reducible refine (spec_l1New.calls k _ _ l0 t472 t473 t474 w _ ?side1 ?side2 ?side3 A2.1).mono ?_); (case side1 => exact zB0); (case side2 => exact HR0.1); (case side3 => exact HC0.1); rintro e w5 ⟨g475, rfl, hi, hb, hb2⟩; refine ⟨_, rfl, ?_⟩; replace HB := zM hb; have HI475 := zM hi; clear hb hb2 hi) | ((with_reducible refine zG Try.func53 9 #[.pointer (some ⟨g475, 0, none⟩)] ?_); (with_reducible refine (spec_l27DrawList.calls k g475 t472 t473 t474 t476 t479 t480 w _ ?side1 ?side2 A3.1).mono ?_); (case side1 => exact zB61); (case side2 => exact zB62); rintro e w6 ⟨v477, rfl, ho0, hi, hb, hk⟩; refine ⟨_, rfl, ?_⟩; have HO478 := zM (Kd.S_lower ho0 (below_size zB62)); replace HB := zM hb; replace HI475 := zM hi; clear hb hk hi ho0) | ((with_reducible refine gate_dst (N := 12) rfl ?_); refine Kd.R_lit Kd.string _ 9 ?hg (N := 12) ?hd (xs := ([(⟨#[109, 97, 105, 110]⟩ : ByteArray), (⟨#[101, 110, 100]⟩ : ByteArray), (⟨#[110, 111, 110, 101]⟩ : ByteArray)] : List ByteArray)) (inner := [.string (⟨#[109, 97, 105, 110]⟩ : ByteArray), .string (⟨#[101, 110, 100]⟩ : ByteArray), .string (⟨#[110, 111, 110, 101]⟩ : ByteArray)]) (ok := fun _ => True) (okp := fun _ => True) ?hr ?hp (fun _ hk => hk) trivial (Below.refl _ _) (Nat.le_refl _) (by simp) ?_; (case hd => rfl); (case hg => rfl); (case hr => exact zHH); (case hp => exact (Reps.one (show Kd.M Kd.string _ _ _ (⟨#[109, 97, 105, 110]⟩ : ByteArray) [.string (⟨#[109, 97, 105, 110]⟩ : ByteArray)] from rfl) (Reps.one (show Kd.M Kd.string _ _ _ (⟨#[101, 110, 100]⟩ : ByteArray) [.string (⟨#[101, 110, 100]⟩ : ByteArray)] from rfl) (Reps.one (show Kd.M Kd.string _ _ _ (⟨#[110, 111, 110, 101]⟩ : ByteArray) [.string (⟨#[110, 111, 110, 101]⟩ : ByteArray)] from rfl) (Reps.none _ _))))); intro v482 w7 ho8 hb hg_ hnew_; clear hg_ hnew_; (first | rw [← Ny481.1] at ho8 | (simp only [Int.reduceToNat] at ho8; rw [← Ny481.1] at ho8)); replace HO478 := zM (Kd.S_below (zS HO478.1) hb); have HO483 := zM (Kd.R_lower ho8 (below_size zB62)); replace HB := zM (below_step zB62 hb); replace HI475 := zM (IsS104.below zB61 hb); clear hb ho8; obtain ⟨Ao9, co9, eo9⟩ := Kd.R_slice HO483.1; subst eo9) | ((with_reducible refine zG Try.func59 13 #[.pointer (some ⟨g475, 0, none⟩), .slice Ao9 y481.length co9] ?_); (with_reducible refine (spec_l1Pick.calls g475 t472 t479 t480 _ _ y481 t484 t485 t486 w _ ?side1 ?side2 ?side3 ?side4 ?side5 A4.1).mono ?_); (case side1 => exact zB61); (case side2 => exact zB62); (case side3 => exact zC (Kd.R_reads' HO483.1).2.2); (case side4 => exact (Kd.R_reads' HO483.1).2.1); (case side5 => exact far_slice (IsS104.own_ne HI475.1 HO483.1 (by decide))); rintro e w10 ⟨rfl, hi, hb, hk⟩; refine ⟨_, rfl, ?_⟩; replace HO478 := zM (Kd.S_mono (Kd.S_keep (IsS104.apartS (show IsS104 w _ g475 t472 t479 t480 from zB61) (zS HO478.1) (by decide)) hk (fun _ h => h.2)) (fun _ h => h.1)); replace HO483 := zM (Kd.R_mono (Kd.R_keep (IsS104.apart (show IsS104 w _ g475 t472 t479 t480 from zB61) (zR HO483.1) (by decide)) hk (fun _ h => h.2)) (fun _ h => h.1)); replace HB := zM hb; replace HI475 := zM hi; clear hb hk hi))
 go_ret2
 exact ⟨_, zE, zS HO478.1, zB62⟩

end Go.Proofs.Ytaakcbgpmabaaaa.PFnLinked
