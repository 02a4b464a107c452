-- made by wip/tools/myprint.py out of the seat's translation
import Derived.Test.YtaakcbgpmabaaaaPFnLinkedx0
import Derived.Test.YtaakcbgpmabaaaaPFnLinkedx2
import Derived.Test.YtaakcbgpmabaaaaPFnLinkedx8
namespace Go.Proofs.Ytaakcbgpmabaaaa.PFnLinked
open Go.RowKit Go.Proofs.YtaakcbgpmabaaaaW.PrintWords Go.Proofs.YtaakcbgpmabaaaaW.PrintLast Go.Proofs.YtaakcbgpmabaaaaW.PrintMore
attribute [local go_sem] max2_int min2_int max_two min_two max_three min_three max_four min_four   -- for this text's walks alone
set_option linter.unusedVariables false
set_option linter.unusedSimpArgs false
set_option maxHeartbeats 8000000
set_option maxRecDepth 100000

/-! ### impl_Link: function 18 -/
mutual
def impl_Link.l0 : Nat → List (S49) → List Int → List Int → List (S49) → Int → Int → Option (List Int × Bool)
 | 0, _, _, _, _, _, _ => none
 | k + 1, x0, x4, x6, x25, x26, x27 => if x27 < x26 then (if 0 ≤ x27 then (if x27 < (x25.length : Int) then ((impl_Ins_54.f ((rd_T49 x25 x27).f1)).bind fun t349 => (impl_Link.l1 k x0 x4 x6 t349 x25 x26 x27 ((rd_T49 x25 x27).f2) (((rd_T49 x25 x27).f2).length : Int) 0)) else (none)) else (none)) else (if 0 ≤ (wrap64 (24 - (x6.length : Int))) then (if x6.length + (wrap64 (24 - (x6.length : Int)) : Int).toNat < 17592186044416 then (some ((x6 ++ List.replicate (wrap64 (24 - (x6.length : Int)) : Int).toNat 0), true)) else (none)) else (none))
def impl_Link.l1 : Nat → List (S49) → List Int → List Int → List (S57) → List (S49) → Int → Int → List (S61) → Int → Int → Option (List Int × Bool)
 | 0, _, _, _, _, _, _, _, _, _, _ => none
 | k + 1, x0, x4, x6, x9, x25, x26, x27, x35, x36, x37 => if x37 < x36 then (if 0 ≤ x37 then (if x37 < (x35.length : Int) then ((impl_PartAt.f x0 ((rd_T61 x35 x37).f1)).bind fun t354 => (if t354 < 0 then (some (([] : List Int), false)) else (if 0 ≤ t354 then (if t354 < (x4.length : Int) then (if 0 ≤ ((rd_T61 x35 x37).f0) then (if ((rd_T61 x35 x37).f0) < (x9.length : Int) then (impl_Link.l1 k x0 x4 x6 (x9.set (((rd_T61 x35 x37).f0) : Int).toNat (⟨(rd_T57 x9 ((rd_T61 x35 x37).f0)).f0, (rd_T57 x9 ((rd_T61 x35 x37).f0)).f1, (rd_T57 x9 ((rd_T61 x35 x37).f0)).f2, (rd_T57 x9 ((rd_T61 x35 x37).f0)).f3, rd x4 t354⟩ : S57)) x25 x26 x27 x35 x36 (wrap64 (x37 + 1))) else (none)) else (none)) else (none)) else (none)))) else (none)) else (none)) else (impl_Link.l2 k x0 x4 x6 x25 x26 x27 x9 (x9.length : Int) 0)
def impl_Link.l2 : Nat → List (S49) → List Int → List Int → List (S49) → Int → Int → List (S57) → Int → Int → Option (List Int × Bool)
 | 0, _, _, _, _, _, _, _, _, _ => none
 | k + 1, x0, x4, x6, x25, x26, x27, x57, x58, x59 => if x59 < x58 then (if 0 ≤ x59 then (if x59 < (x57.length : Int) then ((impl_Code.f ((rd_T57 x57 x59).f0) ((rd_T57 x57 x59).f1) ((rd_T57 x57 x59).f2) ((rd_T57 x57 x59).f3) ((rd_T57 x57 x59).f4)).bind fun bt359 => (if x6.length < 17592186044416 then (impl_Link.l2 k x0 x4 (x6 ++ [bt359.1]) x25 x26 x27 x57 x58 (wrap64 (x59 + 1))) else (none))) else (none)) else (none)) else (impl_Link.l0 k x0 x4 x6 x25 x26 (wrap64 (x27 + 1)))
end
def impl_Link.f (k : Nat) (l0 : List (S49)) : Option (List Int × Bool) := (impl_Layout.f k l0).bind fun bt337 => (if bt337.2 = true then (impl_Link.l0 k l0 bt337.1 (([] : List Int)) l0 (l0.length : Int) 0) else (some (([] : List Int), false)))
theorem impl_Link.mono_l : ∀ k, (∀ y0 y1 y2 y3 y4 y5, LeO (impl_Link.l0 k y0 y1 y2 y3 y4 y5) (impl_Link.l0 (k + 1) y0 y1 y2 y3 y4 y5)) ∧ (∀ y0 y1 y2 y3 y4 y5 y6 y7 y8 y9, LeO (impl_Link.l1 k y0 y1 y2 y3 y4 y5 y6 y7 y8 y9) (impl_Link.l1 (k + 1) y0 y1 y2 y3 y4 y5 y6 y7 y8 y9)) ∧ (∀ y0 y1 y2 y3 y4 y5 y6 y7 y8, LeO (impl_Link.l2 k y0 y1 y2 y3 y4 y5 y6 y7 y8) (impl_Link.l2 (k + 1) y0 y1 y2 y3 y4 y5 y6 y7 y8))
 | 0 => ⟨fun _ _ _ _ _ _ r h => by simp [impl_Link.l0] at h, fun _ _ _ _ _ _ _ _ _ _ r h => by simp [impl_Link.l1] at h, fun _ _ _ _ _ _ _ _ _ r h => by simp [impl_Link.l2] at h⟩
 | k + 1 => by
  obtain ⟨ih0, ih1, ih2⟩ := impl_Link.mono_l k
  refine ⟨?_, ?_, ?_⟩
  ·intros
   unfold impl_Link.l0
   have mo0 := @impl_Layout.mono
   exact zL
  ·intros
   unfold impl_Link.l1
   have mo0 := @impl_Layout.mono
   exact zL
  ·intros
   unfold impl_Link.l2
   have mo0 := @impl_Layout.mono
   exact zL
theorem impl_Link.mono : ∀ a0 k, LeO (impl_Link.f k a0) (impl_Link.f (k + 1) a0) := by
 intro a0 k
 obtain ⟨ih0, ih1, ih2⟩ := impl_Link.mono_l k
 unfold impl_Link.f
 have mo0 := @impl_Layout.mono
 exact zL
def impl_Link.T15 : Bool × List (List Nat × List Nat) := (true, [([], []), ([], []), ([1], [1]), ([], []), ([], []), ([3, 4], [3, 4]), ([5], [5]), ([0, 2, 0, 1, 2, 3, 4, 5, 6], [0, 2]), ([7, 0, 1, 2, 3, 4, 5, 6], [7]), ([8, 6, 0, 1, 2, 3, 4, 5, 6], [6, 8])])
def impl_Link.B15 : List Nat := [0, 0, 2, 0, 0, 24, 56, 127, 255, 511]
theorem impl_Link.tab15 : rtab .any (opsOf Try.f18 15) = impl_Link.T15 := by kernel_rfl
theorem impl_Link.bits15 : waitsOk impl_Link.T15.2 impl_Link.B15 = true := by kernel_rfl
theorem impl_Link.calls (k : Nat) (A0 : Option Addr) (c0 : Nat) (l0 : List (S49)) (r1 : List Int) (r2 : Bool) (w : World) (hr0 : Kd.C k49 w A0 l0.length l0) (hc0 : l0.length ≤ c0) (h : impl_Link.f k l0 = some (r1, r2)) :
  Calls Try.prog 18 #[.slice A0 l0.length c0] w fun e w' => ∃ v0_ : Value, e = .returned (.tuple #[v0_, .bool r2]) ∧ Kd.R (Kd.int .i64) 3 w' w.heap.size (fun _ => True) v0_ r1 ∧ Below w.heap.size w w' := by
 have hu49 := Try.underlying49
 have hu61 := Try.underlying61
 have hu57 := Try.underlying57
 have HR0 := zM hr0
 have HC0 := zM hc0
 clear hr0 hc0
 have HB := zM (Below.refl w.heap.size w)
 unfold impl_Link.f at h
 have H := h
 clear h
 replace H := zO H
 obtain ⟨⟨t337, t338⟩, A2, H⟩ := H
 try dsimp only at H
 by_cases c3 : t338 = true
 rotate_left
 ·replace c3 := Bool.eq_false_iff.mpr c3
  subst c3
  rw [if_neg zF] at H
  simp only [Option.some.injEq, Prod.mk.injEq] at H
  obtain ⟨rfl, rfl⟩ := H
  go_enter Try.func18, Try.ntmps18
  go_wp2_with (first | ((with_reducible refine zG Try.func21 19 #[.slice A0 l0.length c0] ?_); (with_reducible refine (impl_Layout.calls k _ _ l0 t337 false _ ?side1 ?side2 A2.1).mono ?_); (case side1 => exact zC HR0.1); (case side2 => exact HC0.1); rintro e w52 ⟨v339, rfl, ho0, hb⟩; refine ⟨_, rfl, ?_⟩; have HO340 := zM (Kd.R_lower ho0 (below_size zB0)); replace HB := zM (below_step zB0 hb); clear hb ho0))
  go_ret2
  exact ⟨_, zE, by first | exact Kd.R_nil _ _ _ _ _ | exact Kd.N_nil _ _ _ _ _ | exact Kd.V_nil _ _ _ _ _ | exact Kd.Q_nil _ _ _ _ _ | exact Kd.S_nil _ _ _ _ _, zB0⟩
 subst c3
 rw [if_pos rfl] at H
 generalize hy341 : ((([] : List Int)) : List Int) = y341 at H
 have Ny341 := zM hy341.symm
 clear hy341
 have H' := zM H
 clear H
 go_enter Try.func18, Try.ntmps18
 go_wp2_with (first | ((with_reducible refine zG Try.func21 19 #[.slice A0 l0.length c0] ?_); (with_reducible refine (impl_Layout.calls k _ _ l0 t337 true _ ?side1 ?side2 A2.1).mono ?_); (case side1 => exact zC HR0.1); (case side2 => exact HC0.1); rintro e w4 ⟨v339, rfl, ho0, hb⟩; refine ⟨_, rfl, ?_⟩; have HO340 := zM (Kd.R_lower ho0 (below_size zB0)); replace HB := zM (below_step zB0 hb); clear hb ho0) | ((with_reducible refine gate_dst (N := 24) rfl ?_); refine Kd.R_lit (Kd.int .i64) _ 3 ?hg (N := 24) ?hd (xs := ([] : List Int)) (inner := []) (ok := fun _ => True) (okp := fun _ => True) ?hr ?hp (fun _ hk => hk) trivial (Below.refl _ _) (Nat.le_refl _) (by simp) ?_; (case hd => rfl); (case hg => rfl); (case hr => exact zHH); (case hp => exact (Reps.none _ _)); intro v342 w5 ho6 hb hg_ hnew_; clear hg_ hnew_; (first | rw [← Ny341.1] at ho6 | (simp only [Int.reduceToNat] at ho6; rw [← Ny341.1] at ho6)); have HO343 := zM (Kd.R_lower (Kd.R_new' ho6 (Kd.R_lt (zR HO340.1))) (below_size zB0)); replace HO340 := zM (Kd.R_elder' (zR HO340.1) (Kd.R_base ho6) hb); replace HB := zM (below_step zB0 hb); clear hb ho6))
 go_loopg [6, 27] k (fun kq v6 v27 w' => ∃ (x6_1 : List Int) (x27_1 : Int), v27 = .int .i64 x27_1 ∧ Aside0 (impl_Link.l0 kq l0 t337 x6_1 l0 (l0.length : Int) x27_1 = some (r1, r2)) ∧ Aside0 (kq ≤ k) ∧ Aside0 (Kd.R (Kd.int .i64) 3 w' w.heap.size (fun k_ => some k_ ≠ (v6 : Value).ownBlock) v339 t337) ∧ Aside0 (Kd.R (Kd.int .i64) 3 w' w.heap.size (fun k_ => some k_ ≠ (v339 : Value).ownBlock) v6 x6_1) ∧ Aside0 (Below w.heap.size w w'))
 case atStart => exact ⟨(y341), (0), zJJ, H', ⟨Nat.le_refl _⟩, ⟨by refine zrR ?_; exact Kd.R_mono HO340.1 (fun _ hk => hk.2)⟩, ⟨by refine zrR ?_; exact Kd.R_mono HO343.1 (fun _ hk => hk.2)⟩, ⟨zB0⟩⟩
 case round =>
  clear H'
  obtain ⟨x6_1, x27_1, rfl, HA, HK1, HO_4, HO_6, HB⟩ := hrel
  cases gk with
  | zero => exact absurd HA.1 (by simp [impl_Link.l0])
  | succ k1 =>
   have H := HA.1
   clear HA
   simp only [impl_Link.l0] at H
   by_cases c7 : x27_1 < (l0.length : Int)
   rotate_left
   ·rw [if_neg c7] at H
    have c7b0 := decide_eq_false c7
    clear c7
    obtain ⟨ji47, hji47⟩ : ∃ j_ : Int, (wrap64 (24 - (x6_1.length : Int))) = j_ := ⟨_, rfl⟩
    replace H : (if 0 ≤ (ji47) then (if x6_1.length + (ji47 : Int).toNat < 17592186044416 then (some ((x6_1 ++ List.replicate (ji47 : Int).toNat 0), true)) else (none)) else (none)) = some (r1, r2) := by first | (rw [hji47] at H; exact H) | (simp only [hji47] at H ⊢; exact H)
    have hji47w : (IntKind.i64.wrap (24 - (x6_1.length : Int))) = ji47 := (i64_w _).trans hji47
    replace H := zIp H
    obtain ⟨c48, H⟩ := H
    have c48b0 := eq_true c48
    have c48b1 : decide (0 ≤ (ji47)) = true := decide_eq_true c48
    clear c48
    replace H := zIn H
    obtain ⟨LMc49, H⟩ := H
    generalize hy344 : ((x6_1 ++ List.replicate (ji47 : Int).toNat 0) : List Int) = y344 at H
    have Ny344 := zM hy344.symm
    clear hy344
    simp only [Option.some.injEq, Prod.mk.injEq] at H
    obtain ⟨rfl, rfl⟩ := H
    obtain ⟨Ao50, co50, eo50⟩ := Kd.R_slice HO_6.1
    subst eo50
    go_wp2_with (first | (at_builtin; refine Kd.R_append_zeros (Kd.int .i64) (w0 := w) w.heap.size rfl (.tmp 74) (.tmp 77) 24 3 3 (.int .i64 0) 8 rfl Try.underlying24 Try.underlying3 info3 rfl (by decide) (by omega) (.slice Ao50 x6_1.length co50) x6_1 0 (ji47 : Int) (fun k_ => some k_ ≠ (v339 : Value).ownBlock) rfl rfl rfl ?aF ?aO zA ?aB ?aS ?aL ?_; (case aB => exact zB0); (case aF => exact (fun k_ hk => Kd.fresh' (Kd.R_lt (zR HO_4.1)) k_ hk)); (case aO => exact (zR HO_6.1)); (case aS => exact (below_size zB0)); (case aL => have := LMc49.out; omega); intro v345 w51 ho hb hg hat; rw [← Ny344.1] at ho; have n0_ := zM (Kd.R_after (ok := (fun _ => True)) (by refine zrR ?_; exact Kd.R_mono HO_4.1 (fun _ hk => ⟨trivial, hk⟩)) hg hat); have n1_ := zM hb; have n2_ := zM ho; clear HO_4; clear HB; clear HO_6; have HO_4 := n0_; have HB := n1_; have HO346 := n2_; clear n0_ n1_ n2_; clear ho hb hg hat))
    go_ret2
    exact ⟨_, by first | rfl | (simp [errW_none, errW_some] <;> rfl) | (simp only [← hji47]; first | rfl | (simp [errW_none, errW_some] <;> rfl)) | (simp [*, errW_none, errW_some] <;> rfl), by refine zrR ?_; exact Kd.R_mono HO346.1 (fun _ hk => trivial), zB0⟩
   rw [if_pos c7] at H
   have c7b0 := decide_eq_true c7
   clear c7
   replace H := zIt H
   obtain ⟨c8b0, H⟩ := H
   replace H := zIt H
   obtain ⟨c9b0, H⟩ := H
   replace H := zO H
   obtain ⟨t349, A10, H⟩ := H
   have H' := zM H
   clear H
   obtain ⟨p347, q347, ad347, A347_1, c347_1, A347_2, c347_2, e347, hx347_0, hx347_1, hx347_2, hl347_1, hi347_1, hl347_2, hi347_2⟩ := zRd (at_T49 HR0.1 x27_1)
   cases e347
   replace hx347_0 := zHx HB.1 hx347_0
   replace hx347_1 := zHx HB.1 hx347_1
   replace hx347_2 := zHx HB.1 hx347_2
   have HR347_1 := zM hi347_1
   have HC347_1 := zM hl347_1
   clear hi347_1 hl347_1
   have HR347_2 := zM hi347_2
   have HC347_2 := zM hl347_2
   clear hi347_2 hl347_2
   go_wp2_with (first | ((with_reducible refine zBx 8 49 #[.string (⟨#[]⟩ : ByteArray), .slice none 0 0, .slice none 0 0] ?_); intro gb348 hg w11 hbox hb; replace HO_4 := zM (Kd.R_below (zR HO_4.1) hb); replace HO_6 := zM (Kd.R_below (zR HO_6.1) hb); have BK348 := zM hbox; have GW348 := zM (zW hg (below_size zB0)); have GE348 := zM (zW hg (below_size zB0)); replace HB := zM (below_step zB0 hb); clear hb hbox hg; have hcz12 := zc_3 (w := w11) BK348.1) | ((with_reducible refine zG Try.func54 33 #[.slice A347_1 ((rd_T49 l0 x27_1).f1).length c347_1] ?_); (with_reducible refine (impl_Ins_54.calls _ _ ((rd_T49 l0 x27_1).f1) t349 _ ?side1 ?side2 A10.1).mono ?_); (case side1 => exact Kd.C_below HR347_1.1 zB0); (case side2 => exact HC347_1.1); rintro e w13 ⟨v350, rfl, ho0, hb⟩; refine ⟨_, rfl, ?_⟩; replace HO_4 := zM (Kd.R_below (by refine zrR ?_; exact (Kd.R_mono (zfR (zfR (zfR (Kd.R_types HO_4.1 BK348.1 (by decide))))) (fun _ h_ => h_.1))) hb); replace HO_6 := zM (Kd.R_below (by refine zrR ?_; exact (Kd.R_mono (zfR (zfR (zfR (Kd.R_types HO_6.1 BK348.1 (by decide))))) (fun _ h_ => h_.1))) hb); have HO351 := zM (Kd.R_lower ho0 (below_size zB0)); replace BK348 := zM (blk_below (g := gb348) (o := .cells #[.string ((rd_T49 l0 x27_1).f0), .slice A347_1 ((rd_T49 l0 x27_1).f1).length c347_1, .slice A347_2 ((rd_T49 l0 x27_1).f2).length c347_2] 49 (0, 0)) (by exact zp3 (zK BK348.1)) hb); replace HB := zM (below_step zB0 hb); clear hb ho0; have hcz14 := zc_3 (w := w13) BK348.1))
   go_loopg [37] k1 (fun kq v37 w' => ∃ (x9_2 : List (S57)) (x37_2 : Int), v37 = .int .i64 x37_2 ∧ Aside0 (impl_Link.l1 kq l0 t337 x6_1 x9_2 l0 (l0.length : Int) x27_1 ((rd_T49 l0 x27_1).f2) (((rd_T49 l0 x27_1).f2).length : Int) x37_2 = some (r1, r2)) ∧ Aside0 (kq ≤ k1) ∧ Aside0 (Kd.R (Kd.int .i64) 3 w' w.heap.size (fun k_ => some k_ ≠ (u6 : Value).ownBlock) v339 t337) ∧ Aside0 (Kd.R (Kd.int .i64) 3 w' w.heap.size (fun k_ => some k_ ≠ (v339 : Value).ownBlock) u6 x6_1) ∧ Aside0 (Kd.R k57 57 w' w.heap.size (fun _ => True) v350 x9_2) ∧ Aside0 (w'.heap[gb348]? = some (.cells #[.string ((rd_T49 l0 x27_1).f0), (.slice A347_1 ((rd_T49 l0 x27_1).f1).length c347_1), (.slice A347_2 ((rd_T49 l0 x27_1).f2).length c347_2)] 49 (0, 0))) ∧ Aside0 (Below w.heap.size w w'))
   case atStart => exact ⟨(t349), (0), zJJ, H', ⟨Nat.le_refl _⟩, ⟨zR HO_4.1⟩, ⟨zR HO_6.1⟩, ⟨zR HO351.1⟩, ⟨zK BK348.1⟩, ⟨zB0⟩⟩
   case round =>
    clear H'
    obtain ⟨x9_2, x37_2, rfl, HA, HK2, HO_4, HO_6, HO_9, BK348, HB⟩ := hrel
    cases gk with
    | zero => exact absurd HA.1 (by simp [impl_Link.l1])
    | succ k2 =>
     have H := HA.1
     clear HA
     simp only [impl_Link.l1] at H
     by_cases c15 : x37_2 < (((rd_T49 l0 x27_1).f2).length : Int)
     rotate_left
     ·rw [if_neg c15] at H
      have c15b0 := decide_eq_false c15
      clear c15
      have H' := zM H
      clear H
      obtain ⟨Ao36, co36, eo36⟩ := Kd.R_slice HO_9.1
      subst eo36
      go_wp2
      go_loopg [6, 59] k2 (fun kq v6 v59 w' => ∃ (x6_3 : List Int) (x59_3 : Int), v59 = .int .i64 x59_3 ∧ Aside0 (impl_Link.l2 kq l0 t337 x6_3 l0 (l0.length : Int) x27_1 x9_2 (x9_2.length : Int) x59_3 = some (r1, r2)) ∧ Aside0 (kq ≤ k2) ∧ Aside0 (Kd.R (Kd.int .i64) 3 w' w.heap.size (fun k_ => some k_ ≠ (v6 : Value).ownBlock) v339 t337) ∧ Aside0 (Kd.R (Kd.int .i64) 3 w' w.heap.size (fun k_ => some k_ ≠ (v339 : Value).ownBlock) v6 x6_3) ∧ Aside0 (Kd.R k57 57 w' w.heap.size (fun _ => True) (.slice Ao36 x9_2.length co36) x9_2) ∧ Aside0 (w'.heap[gb348]? = some (.cells #[.string ((rd_T49 l0 x27_1).f0), (.slice A347_1 ((rd_T49 l0 x27_1).f1).length c347_1), (.slice A347_2 ((rd_T49 l0 x27_1).f2).length c347_2)] 49 (0, 0))) ∧ Aside0 (Below w.heap.size w w'))
      case atStart => exact ⟨(x6_1), (0), zJJ, H', ⟨Nat.le_refl _⟩, ⟨zR HO_4.1⟩, ⟨zR HO_6.1⟩, ⟨zR HO_9.1⟩, ⟨zK BK348.1⟩, ⟨zB0⟩⟩
      case round =>
       clear H'
       try clear hf2
       try clear hf28
       obtain ⟨x6_3, x59_3, rfl, HA, HK3, HO_4, HO_6, HO_57, BK348, HB⟩ := hrel
       cases gk with
       | zero => exact absurd HA.1 (by simp [impl_Link.l2])
       | succ k3 =>
        have H := HA.1
        clear HA
        simp only [impl_Link.l2] at H
        by_cases c37 : x59_3 < (x9_2.length : Int)
        rotate_left
        ·rw [if_neg c37] at H
         have c37b0 := decide_eq_false c37
         clear c37
         have H' := zM H
         clear H
         go_wp2
         go_roundg k3
         case measure => have := HK1.1; have := HK2.1; have := HK3.1; omega
         case rel => exact ⟨(x6_3), (wrap64 (x27_1 + 1)), zJJ, H', ⟨by have := HK1.1; have := HK2.1; have := HK3.1; omega⟩, ⟨zR HO_4.1⟩, ⟨zR HO_6.1⟩, ⟨zB0⟩⟩
        rw [if_pos c37] at H
        have c37b0 := decide_eq_true c37
        clear c37
        replace H := zIt H
        obtain ⟨c38b0, H⟩ := H
        replace H := zIt H
        obtain ⟨c39b0, H⟩ := H
        replace H := zO H
        obtain ⟨⟨t359, t360⟩, A40, H⟩ := H
        try dsimp only at H
        replace H := zIn H
        obtain ⟨LMc41, H⟩ := H
        generalize hy361 : ((x6_3 ++ [t359]) : List Int) = y361 at H
        have Ny361 := zM hy361.symm
        clear hy361
        have H' := zM H
        clear H
        obtain ⟨p357, q357, ad357, e357, hx357_0, hx357_1, hx357_2, hx357_3, hx357_4⟩ := zRd (at_T57 (Kd.R_reads' HO_57.1).2.2 x59_3)
        cases e357
        go_wp2_with (first | ((with_reducible refine zBx 14 57 #[.int .i64 0, .int .i64 0, .int .i64 0, .int .i64 0, .int .i64 0] ?_); intro gb358 hg w42 hbox hb; replace HO_4 := zM (Kd.R_below (zR HO_4.1) hb); replace HO_6 := zM (Kd.R_below (zR HO_6.1) hb); replace HO_57 := zM (Kd.R_below (Kd.R_elderB (zR HO_57.1) gb358 (Nat.le_of_eq hg.symm)) hb); have BK358 := zM hbox; have GW358 := zM (zW hg (below_size zB0)); have GE358 := zM (zW hg (below_size zB0)); replace HB := zM (below_step zB0 hb); have NB348_358 := zM ((zn BK348.1 hg : gb348 ≠ gb358)); have NB358_348 := zM ((zm BK348.1 hg : gb358 ≠ gb348)); replace BK348 := zM (zb BK348.1 hb); clear hb hbox hg; have hnb43 := NB358_348.1; have hnc43 := NB348_358.1; have hcz44 := zc_5 (w := w42) BK358.1) | ((with_reducible refine zG Try.func55 65 #[.agg #[.int .i64 ((rd_T57 x9_2 x59_3).f0), .int .i64 ((rd_T57 x9_2 x59_3).f1), .int .i64 ((rd_T57 x9_2 x59_3).f2), .int .i64 ((rd_T57 x9_2 x59_3).f3), .int .i64 ((rd_T57 x9_2 x59_3).f4)]] ?_); (with_reducible refine (impl_Code.calls ((rd_T57 x9_2 x59_3).f0) ((rd_T57 x9_2 x59_3).f1) ((rd_T57 x9_2 x59_3).f2) ((rd_T57 x9_2 x59_3).f3) ((rd_T57 x9_2 x59_3).f4) t359 t360 _ A40.1).mono ?_); rintro e w45 ⟨rfl, hb⟩; refine ⟨_, rfl, ?_⟩; replace HO_4 := zM (Kd.R_below (by refine zrR ?_; exact (Kd.R_mono (zfR (zfR (zfR (zfR (zfR (Kd.R_types HO_4.1 BK358.1 (by decide))))))) (fun _ h_ => h_.1))) hb); replace HO_6 := zM (Kd.R_below (by refine zrR ?_; exact (Kd.R_mono (zfR (zfR (zfR (zfR (zfR (Kd.R_types HO_6.1 BK358.1 (by decide))))))) (fun _ h_ => h_.1))) hb); replace HO_57 := zM (Kd.R_below (by refine zrR ?_; exact (Kd.R_mono (zfR (zfR (zfR (zfR (zfR (Kd.R_mono HO_57.1 (fun k_ hk => (⟨hk, hk.2⟩ : _ ∧ k_ ≠ gb358)))))))) (fun _ h_ => h_.1))) hb); replace BK348 := zM (zf BK348.1 hb); replace BK358 := zM (blk_below (g := gb358) (o := .cells #[.int .i64 ((rd_T57 x9_2 x59_3).f0), .int .i64 ((rd_T57 x9_2 x59_3).f1), .int .i64 ((rd_T57 x9_2 x59_3).f2), .int .i64 ((rd_T57 x9_2 x59_3).f3), .int .i64 ((rd_T57 x9_2 x59_3).f4)] 57 (0, 0)) (by exact zp5 (zK BK358.1)) hb); replace HB := zM (below_step zB0 hb); clear hb) | ((with_reducible refine gate_builtin (b := .append) (xs := #[.tmp 68, .tmp 70]) rfl ?_); at_builtin; refine Kd.R_append (Kd.int .i64) (w0 := w) w.heap.size rfl (.tmp 68) (.tmp 70) 24 3 (.int .i64 0) 8 rfl Try.underlying24 info3 rfl (by decide) (by omega) u6 x6_3 t359 [.int .i64 t359] (fun k_ => some k_ ≠ (v339 : Value).ownBlock) (fun _ => False) rfl rfl ?aP (fun _ hk => hk.elim) ?aF ?aO ?aB ?aS ?aL ?_; (case aP => exact rfl); (case aB => exact zB0); (case aF => exact (fun k_ hk => Kd.fresh' (Kd.R_lt (zR HO_4.1)) k_ hk)); (case aO => exact (zR HO_6.1)); (case aS => exact (below_size zB0)); (case aL => have := LMc41.out; omega); intro v362 w46 ho hb hg hat; rw [← Ny361.1] at ho; replace HO_4 := zM (Kd.R_after (ok := (fun _ => True)) (by refine zrR ?_; exact Kd.R_mono HO_4.1 (fun _ hk => ⟨trivial, hk⟩)) hg hat); replace HO_57 := zM (Kd.R_over' (zR HO_57.1) (Kd.R_typed (zR HO_6.1)) (by decide) hg); replace BK348 := zM (zg BK348.1 hg (Kd.R_ne HO_6.1 BK348.1 (by decide))); replace BK358 := zM (zg BK358.1 hg (Kd.R_ne HO_6.1 BK358.1 (by decide))); replace HB := zM hb; have HO363 := zM ho; clear HO_6; clear ho hb hg hat))
        go_roundg k3
        case measure => have := HK1.1; have := HK2.1; have := HK3.1; omega
        case rel => exact ⟨(y361), (wrap64 (x59_3 + 1)), zJJ, H', ⟨by have := HK1.1; have := HK2.1; have := HK3.1; omega⟩, ⟨by refine zrR ?_; exact Kd.R_mono HO_4.1 (fun _ hk => hk.2)⟩, ⟨zR HO363.1⟩, ⟨by refine zrR ?_; exact Kd.R_mono HO_57.1 (fun _ hk => trivial)⟩, ⟨zK BK348.1⟩, ⟨zB0⟩⟩
     rw [if_pos c15] at H
     have c15b0 := decide_eq_true c15
     clear c15
     replace H := zIt H
     obtain ⟨c16b0, H⟩ := H
     replace H := zIt H
     obtain ⟨c17b0, H⟩ := H
     replace H := zO H
     obtain ⟨t354, A18, H⟩ := H
     by_cases c19 : t354 < 0
     ·rw [if_pos c19] at H
      have c19b0 := decide_eq_true c19
      clear c19
      simp only [Option.some.injEq, Prod.mk.injEq] at H
      obtain ⟨rfl, rfl⟩ := H
      obtain ⟨p352, q352, ad352, e352, hx352_0, hx352_1⟩ := zRd (at_T61 HR347_2.1 x37_2)
      cases e352
      replace hx352_0 := zHx HB.1 hx352_0
      replace hx352_1 := zHx HB.1 hx352_1
      go_wp2_with (first | ((with_reducible refine zBx 11 61 #[.int .i64 0, .string (⟨#[]⟩ : ByteArray)] ?_); intro gb353 hg w20 hbox hb; replace HO_4 := zM (Kd.R_below (zR HO_4.1) hb); replace HO_6 := zM (Kd.R_below (zR HO_6.1) hb); replace HO_9 := zM (Kd.R_below (zR HO_9.1) hb); have BK353 := zM hbox; have GW353 := zM (zW hg (below_size zB0)); have GE353 := zM (zW hg (below_size zB0)); replace HB := zM (below_step zB0 hb); have NB348_353 := zM ((zn BK348.1 hg : gb348 ≠ gb353)); have NB353_348 := zM ((zm BK348.1 hg : gb353 ≠ gb348)); replace BK348 := zM (zb BK348.1 hb); clear hb hbox hg; have hnb21 := NB353_348.1; have hnc21 := NB348_353.1; have hcz22 := zc_2 (w := w20) BK353.1) | ((with_reducible refine zG Try.func28 44 #[.slice (some ad347) l0.length c0, .string ((rd_T61 ((rd_T49 l0 x27_1).f2) x37_2).f1)] ?_); (with_reducible refine (impl_PartAt.calls _ _ l0 ((rd_T61 ((rd_T49 l0 x27_1).f2) x37_2).f1) t354 _ ?side1 ?side2 A18.1).mono ?_); (case side1 => exact Kd.C_below HR0.1 zB0); (case side2 => exact HC0.1); rintro e w23 ⟨rfl, hb⟩; refine ⟨_, rfl, ?_⟩; replace HO_4 := zM (Kd.R_below (by refine zrR ?_; exact (Kd.R_mono (zfR (zfR (Kd.R_types HO_4.1 BK353.1 (by decide)))) (fun _ h_ => h_.1))) hb); replace HO_6 := zM (Kd.R_below (by refine zrR ?_; exact (Kd.R_mono (zfR (zfR (Kd.R_types HO_6.1 BK353.1 (by decide)))) (fun _ h_ => h_.1))) hb); replace HO_9 := zM (Kd.R_below (by refine zrR ?_; exact (Kd.R_mono (zfR (zfR (Kd.R_types HO_9.1 BK353.1 (by decide)))) (fun _ h_ => h_.1))) hb); replace BK348 := zM (zf BK348.1 hb); replace BK353 := zM (blk_below (g := gb353) (o := .cells #[.int .i64 ((rd_T61 ((rd_T49 l0 x27_1).f2) x37_2).f0), .string ((rd_T61 ((rd_T49 l0 x27_1).f2) x37_2).f1)] 61 (0, 0)) (by exact zp2 (zK BK353.1)) hb); replace HB := zM (below_step zB0 hb); clear hb))
      go_ret2
      exact ⟨_, zE, by first | exact Kd.R_nil _ _ _ _ _ | exact Kd.N_nil _ _ _ _ _ | exact Kd.V_nil _ _ _ _ _ | exact Kd.Q_nil _ _ _ _ _ | exact Kd.S_nil _ _ _ _ _, zB0⟩
     rw [if_neg c19] at H
     have c19b0 := decide_eq_false c19
     clear c19
     replace H := zIt H
     obtain ⟨c24b0, H⟩ := H
     replace H := zIt H
     obtain ⟨c25b0, H⟩ := H
     replace H := zIt H
     obtain ⟨c26b0, H⟩ := H
     replace H := zIt H
     obtain ⟨c27b0, H⟩ := H
     generalize hy356 : ((x9_2.set (((rd_T61 ((rd_T49 l0 x27_1).f2) x37_2).f0) : Int).toNat (⟨(rd_T57 x9_2 ((rd_T61 ((rd_T49 l0 x27_1).f2) x37_2).f0)).f0, (rd_T57 x9_2 ((rd_T61 ((rd_T49 l0 x27_1).f2) x37_2).f0)).f1, (rd_T57 x9_2 ((rd_T61 ((rd_T49 l0 x27_1).f2) x37_2).f0)).f2, (rd_T57 x9_2 ((rd_T61 ((rd_T49 l0 x27_1).f2) x37_2).f0)).f3, rd t337 t354⟩ : S57)) : List (S57)) = y356 at H
     have Ny356 := zM hy356.symm
     clear hy356
     have H' := zM H
     clear H
     obtain ⟨p352, q352, ad352, e352, hx352_0, hx352_1⟩ := zRd (at_T61 HR347_2.1 x37_2)
     cases e352
     replace hx352_0 := zHx HB.1 hx352_0
     replace hx352_1 := zHx HB.1 hx352_1
     try go_wp2_with (first | ((with_reducible refine zBx 11 61 #[.int .i64 0, .string (⟨#[]⟩ : ByteArray)] ?_); intro gb353 hg w29 hbox hb; replace HO_4 := zM (Kd.R_below (zR HO_4.1) hb); replace HO_6 := zM (Kd.R_below (zR HO_6.1) hb); replace HO_9 := zM (Kd.R_below (zR HO_9.1) hb); have BK353 := zM hbox; have GW353 := zM (zW hg (below_size zB0)); have GE353 := zM (zW hg (below_size zB0)); replace HB := zM (below_step zB0 hb); have NB348_353 := zM ((zn BK348.1 hg : gb348 ≠ gb353)); have NB353_348 := zM ((zm BK348.1 hg : gb353 ≠ gb348)); replace BK348 := zM (zb BK348.1 hb); clear hb hbox hg; have hnb30 := NB353_348.1; have hnc30 := NB348_353.1; have hcz31 := zc_2 (w := w29) BK353.1) | ((with_reducible refine zG Try.func28 44 #[.slice (some ad347) l0.length c0, .string ((rd_T61 ((rd_T49 l0 x27_1).f2) x37_2).f1)] ?_); (with_reducible refine (impl_PartAt.calls _ _ l0 ((rd_T61 ((rd_T49 l0 x27_1).f2) x37_2).f1) t354 _ ?side1 ?side2 A18.1).mono ?_); (case side1 => exact Kd.C_below HR0.1 zB0); (case side2 => exact HC0.1); rintro e w32 ⟨rfl, hb⟩; refine ⟨_, rfl, ?_⟩; replace HO_4 := zM (Kd.R_below (by refine zrR ?_; exact (Kd.R_mono (zfR (zfR (Kd.R_types HO_4.1 BK353.1 (by decide)))) (fun _ h_ => h_.1))) hb); replace HO_6 := zM (Kd.R_below (by refine zrR ?_; exact (Kd.R_mono (zfR (zfR (Kd.R_types HO_6.1 BK353.1 (by decide)))) (fun _ h_ => h_.1))) hb); replace HO_9 := zM (Kd.R_below (by refine zrR ?_; exact (Kd.R_mono (zfR (zfR (Kd.R_types HO_9.1 BK353.1 (by decide)))) (fun _ h_ => h_.1))) hb); replace BK348 := zM (zf BK348.1 hb); replace BK353 := zM (blk_below (g := gb353) (o := .cells #[.int .i64 ((rd_T61 ((rd_T49 l0 x27_1).f2) x37_2).f0), .string ((rd_T61 ((rd_T49 l0 x27_1).f2) x37_2).f1)] 61 (0, 0)) (by exact zp2 (zK BK353.1)) hb); replace HB := zM (below_step zB0 hb); clear hb))
     replace HO_4 := zM (Kd.R_drew HO_4.1)
     replace HO_6 := zM (Kd.R_drew HO_6.1)
     replace HO_9 := zM (Kd.R_drew HO_9.1)
     replace BK348 := zM (blk_drew BK348.1)
     replace BK353 := zM (blk_drew BK353.1)
     replace HB := zM (below_drew1 HB.1)
     obtain ⟨Ao34, co34, eo34⟩ := Kd.R_slice HO_4.1
     (first | subst eo34 | (injection eo34 with f1_ f2_ f3_; have f4_ := f1_.symm; have f5_ := f3_.symm; clear f1_ f2_ f3_; subst f4_; subst f5_))
     obtain ⟨p355, q355, ad355, e355, hx355_0⟩ := zRd (Kd.at_int (Kd.R_reads' HO_4.1).2.2 t354)
     cases e355
     have p28 : 0 ≤ (((rd_T61 ((rd_T49 l0 x27_1).f2) x37_2).f0) : Int) := zA
     have q28 : (((rd_T61 ((rd_T49 l0 x27_1).f2) x37_2).f0) : Int) < ((x9_2.length : Int) : Int) := zA
     obtain ⟨go28, co28, eo28, gb28, gl28, cl28, HG28⟩ := Kd.R_form HO_9.1 (by omega)
     (first | cases eo28 | (injection eo28 with ea_ en_ ec_; (first | subst ea_ | (injection ea_ with ea_; subst ea_)); subst ec_; clear en_))
     have GB28 := zM gb28
     have GG28 := zM HG28
     clear gb28 gl28 HG28
     obtain ⟨ce28, hcl28, hM28, hcc28, hfr28⟩ := Kd.R_elem HO_9.1 z57 (((rd_T61 ((rd_T49 l0 x27_1).f2) x37_2).f0) : Int) p28 q28
     obtain rfl := k57_openM hM28
     have hx28_0 : World.cell? _ ⟨go28, (((rd_T61 ((rd_T49 l0 x27_1).f2) x37_2).f0) : Int).toNat * 5, none⟩ = some (.int .i64 ((rd_T57 x9_2 ((rd_T61 ((rd_T49 l0 x27_1).f2) x37_2).f0)).f0)) := hcc28 0 _ rfl
     have hx28_1 : World.cell? _ ⟨go28, (((rd_T61 ((rd_T49 l0 x27_1).f2) x37_2).f0) : Int).toNat * 5 + 1, none⟩ = some (.int .i64 ((rd_T57 x9_2 ((rd_T61 ((rd_T49 l0 x27_1).f2) x37_2).f0)).f1)) := hcc28 1 _ rfl
     have hx28_2 : World.cell? _ ⟨go28, (((rd_T61 ((rd_T49 l0 x27_1).f2) x37_2).f0) : Int).toNat * 5 + 2, none⟩ = some (.int .i64 ((rd_T57 x9_2 ((rd_T61 ((rd_T49 l0 x27_1).f2) x37_2).f0)).f2)) := hcc28 2 _ rfl
     have hx28_3 : World.cell? _ ⟨go28, (((rd_T61 ((rd_T49 l0 x27_1).f2) x37_2).f0) : Int).toNat * 5 + 3, none⟩ = some (.int .i64 ((rd_T57 x9_2 ((rd_T61 ((rd_T49 l0 x27_1).f2) x37_2).f0)).f3)) := hcc28 3 _ rfl
     have hx28_4 : World.cell? _ ⟨go28, (((rd_T61 ((rd_T49 l0 x27_1).f2) x37_2).f0) : Int).toNat * 5 + 4, none⟩ = some (.int .i64 ((rd_T57 x9_2 ((rd_T61 ((rd_T49 l0 x27_1).f2) x37_2).f0)).f4)) := hcc28 4 _ rfl
     have hf28_0 : World.frozen? _ ⟨go28, (((rd_T61 ((rd_T49 l0 x27_1).f2) x37_2).f0) : Int).toNat * 5, none⟩ = false := hfr28 0
     have hf28_1 : World.frozen? _ ⟨go28, (((rd_T61 ((rd_T49 l0 x27_1).f2) x37_2).f0) : Int).toNat * 5 + 1, none⟩ = false := hfr28 1
     have hf28_2 : World.frozen? _ ⟨go28, (((rd_T61 ((rd_T49 l0 x27_1).f2) x37_2).f0) : Int).toNat * 5 + 2, none⟩ = false := hfr28 2
     have hf28_3 : World.frozen? _ ⟨go28, (((rd_T61 ((rd_T49 l0 x27_1).f2) x37_2).f0) : Int).toNat * 5 + 3, none⟩ = false := hfr28 3
     have hf28_4 : World.frozen? _ ⟨go28, (((rd_T61 ((rd_T49 l0 x27_1).f2) x37_2).f0) : Int).toNat * 5 + 4, none⟩ = false := hfr28 4
     clear hcl28 hcc28 hfr28 hM28
     replace p28 := eq_true p28
     replace q28 := eq_true q28
     obtain ⟨ce35, hcl35, hM35, hcc35, hfr35⟩ := Kd.R_elem HO_9.1 z57 (((rd_T61 ((rd_T49 l0 x27_1).f2) x37_2).f0) : Int) zA (by have h_ : (((rd_T61 ((rd_T49 l0 x27_1).f2) x37_2).f0) : Int) < ((x9_2.length : Int) : Int) := zA; first | exact h_ | (have e_ := (Kd.R_reads' HO_9.1).1; omega) | simpa using h_)
     obtain rfl := k57_openM hM35
     have HP35 := (Kd.R_seg HO_9.1 (((rd_T61 ((rd_T49 l0 x27_1).f2) x37_2).f0) : Int) zA (by have h_ : (((rd_T61 ((rd_T49 l0 x27_1).f2) x37_2).f0) : Int) < ((x9_2.length : Int) : Int) := zA; first | exact h_ | (have e_ := (Kd.R_reads' HO_9.1).1; omega) | simpa using h_) (seg := [.int .i64 (rd t337 t354)]) (j := 4) hcl35 hcc35 (show 5 ≤ 5 from by decide) (x' := (⟨(rd_T57 x9_2 ((rd_T61 ((rd_T49 l0 x27_1).f2) x37_2).f0)).f0, (rd_T57 x9_2 ((rd_T61 ((rd_T49 l0 x27_1).f2) x37_2).f0)).f1, (rd_T57 x9_2 ((rd_T61 ((rd_T49 l0 x27_1).f2) x37_2).f0)).f2, (rd_T57 x9_2 ((rd_T61 ((rd_T49 l0 x27_1).f2) x37_2).f0)).f3, rd t337 t354⟩ : S57)) (k57_mkM _ _ _ (⟨(rd_T57 x9_2 ((rd_T61 ((rd_T49 l0 x27_1).f2) x37_2).f0)).f0, (rd_T57 x9_2 ((rd_T61 ((rd_T49 l0 x27_1).f2) x37_2).f0)).f1, (rd_T57 x9_2 ((rd_T61 ((rd_T49 l0 x27_1).f2) x37_2).f0)).f2, (rd_T57 x9_2 ((rd_T61 ((rd_T49 l0 x27_1).f2) x37_2).f0)).f3, rd t337 t354⟩ : S57) ) (fun _ hk => hk)).1
     rw [← Ny356.1] at HP35
     have HQ35 := zM HP35
     clear hcl35 hcc35 hfr35 hM35 HP35
     refine start_ (n := 10) (S := fun w' => w'.cell? ⟨gb353, 0, none⟩ = some (.int .i64 ((rd_T61 ((rd_T49 l0 x27_1).f2) x37_2).f0)) ∧ w'.cell? ⟨gb353, 1, none⟩ = some (.string ((rd_T61 ((rd_T49 l0 x27_1).f2) x37_2).f1)) ∧ w'.cell? (ad355.add (t354).toNat) = some (.int .i64 (rd t337 t354))) (ds := [9]) #[false, false, false, false, false, false, false, false, false, false] (by kernel_rfl) rfl rfl ⟨(blk_cell BK353.1 0).trans rfl, (blk_cell BK353.1 1).trans rfl, hx355_0⟩ (fun hHeld => ?_); refine with_tabW impl_Link.tab15 impl_Link.bits15 (fun HT_ HW_ => ?_)
     generalize w32.drew = w33 at HO_4 HO_6 HO_9 BK348 BK353 HB GG28 HQ35 hf28_0 hf28_1 hf28_2 hf28_3 hf28_4 hx28_0 hx28_1 hx28_2 hx28_3 hx28_4 hx355_0 hHeld ⊢
     refine zPu 0 ?_
     refine zPu 1 ?_
     refine zPu 3 ?_
     refine zPu 4 ?_
     refine zPu 5 ?_
     refine zTk3 2 hHeld ?_
     refine zTk3 6 hHeld ?_
     refine zPu 7 ?_
     refine zPu 8 ?_
     refine last_ (i := 9) (N := none) #[true, true, true, true, true, true, true, true, true, true] rfl rfl (one_of HT_.1 (by kernel_rfl)) (by decide) (fun K hK => ?_)
     refine skip_ (w1 := ?_) (by rfl) rfl ?_ ?_
     rotate_left
     ·go_simp
      rfl
     refine hK.out _ _ ?_
     clear hK K
     refine done_ (done_of HT_.1 (by kernel_rfl)) ?_
     try go_wp2
     go_roundg k2
     case measure => have := HK1.1; have := HK2.1; omega
     case rel => exact ⟨(y356), (wrap64 (x37_2 + 1)), zJJ, H', ⟨by have := HK1.1; have := HK2.1; omega⟩, ⟨by refine zrR ?_; exact Kd.R_mono (Kd.R_far (p := ⟨go28, (((rd_T61 ((rd_T49 l0 x27_1).f2) x37_2).f0) : Int).toNat * 5 + 4, none⟩) (Kd.R_types HO_4.1 GG28.out (by decide)) (fun _ hk => hk.2) (.int .i64 (rd t337 t354))) (fun _ hk => hk.1)⟩, ⟨by refine zrR ?_; exact Kd.R_mono (Kd.R_far (p := ⟨go28, (((rd_T61 ((rd_T49 l0 x27_1).f2) x37_2).f0) : Int).toNat * 5 + 4, none⟩) (Kd.R_types HO_6.1 GG28.out (by decide)) (fun _ hk => hk.2) (.int .i64 (rd t337 t354))) (fun _ hk => hk.1)⟩, ⟨zR HQ35.out⟩, ⟨by refine zP ?_; refine blk_far ?_ (by have h_ := Kd.R_ne HO_9.1 BK348.1 (by decide); intro e_; exact h_ (by rw [e_]; rfl)) _; refine zP ?_; exact BK348.1⟩, ⟨zB0⟩⟩

/-! ### spec_l27Ref: function 56 -/
def spec_l27Ref.l0 : Nat → Int → Int → ByteArray → List (S57) → List (S61) → Option (Int)
 | 0, _, _, _, _, _ => none
 | k + 1, x1, x5, x365000, x365001, x365002 => if x5 < (x365002.length : Int) then (if 0 ≤ x5 then (if ((rd_T61 x365002 x5).f0) = x1 then (some x5) else (spec_l27Ref.l0 k x1 (wrap64 (x5 + 1)) x365000 x365001 x365002)) else (none)) else (some (-1))
def spec_l27Ref.f (k : Nat) (a0_0 : ByteArray) (l0_1 : List (S57)) (l0_2 : List (S61)) (a1 : Int) : Option (Int) := spec_l27Ref.l0 k a1 0 a0_0 l0_1 l0_2
theorem spec_l27Ref.mono_l : ∀ k, (∀ y0 y1 y2 y3 y4, LeO (spec_l27Ref.l0 k y0 y1 y2 y3 y4) (spec_l27Ref.l0 (k + 1) y0 y1 y2 y3 y4))
 | 0 => fun _ _ _ _ _ r h => by simp [spec_l27Ref.l0] at h
 | k + 1 => by
  have ih0 := spec_l27Ref.mono_l k
  ·intros
   unfold spec_l27Ref.l0
   exact zL
theorem spec_l27Ref.mono : ∀ a0 a1 a2 a3 k, LeO (spec_l27Ref.f k a0 a1 a2 a3) (spec_l27Ref.f (k + 1) a0 a1 a2 a3) := by
 intro a0 a1 a2 a3 k
 have ih0 := spec_l27Ref.mono_l k
 unfold spec_l27Ref.f
 exact zL
theorem spec_l27Ref.calls (k : Nat) (a0_0 : ByteArray) (A0_1 : Option Addr) (c0_1 : Nat) (l0_1 : List (S57)) (A0_2 : Option Addr) (c0_2 : Nat) (l0_2 : List (S61)) (a1 : Int) (r : Int) (w : World) (hr0_1 : Kd.C k57 w A0_1 l0_1.length l0_1) (hc0_1 : l0_1.length ≤ c0_1) (hr0_2 : Kd.C k61 w A0_2 l0_2.length l0_2) (hc0_2 : l0_2.length ≤ c0_2) (h : spec_l27Ref.f k a0_0 l0_1 l0_2 a1 = some r) :
  Calls Try.prog 56 #[.agg #[.string a0_0, .slice A0_1 l0_1.length c0_1, .slice A0_2 l0_2.length c0_2], .int .i64 a1] w fun e w' => e = .returned (.int .i64 r) ∧ Below w.heap.size w w' := by
 have hu49 := Try.underlying49
 have HR0_1 := zM hr0_1
 have HC0_1 := zM hc0_1
 clear hr0_1 hc0_1
 have HR0_2 := zM hr0_2
 have HC0_2 := zM hc0_2
 clear hr0_2 hc0_2
 have HB := zM (Below.refl w.heap.size w)
 unfold spec_l27Ref.f at h
 have H := h
 clear h
 have H' := zM H
 clear H
 go_enter Try.func56, Try.ntmps56
 go_wp2_with (first | ((with_reducible refine zBx 2 49 #[.string a0_0, .slice A0_1 l0_1.length c0_1, .slice A0_2 l0_2.length c0_2] ?_); intro gb364 hg w3 hbox hb; have BK364 := zM hbox; have GW364 := zM (zW hg (below_size zB0)); have GE364 := zM (zW hg (below_size zB0)); replace HB := zM (below_step zB0 hb); clear hb hbox hg))
 go_loopg [5] k (fun kq v5 w' => ∃ (x5_1 : Int), v5 = .int .i64 x5_1 ∧ Aside0 (spec_l27Ref.l0 kq a1 x5_1 a0_0 l0_1 l0_2 = some r) ∧ Aside0 (kq ≤ k) ∧ Aside0 (w'.heap[gb364]? = some (.cells #[.string a0_0, (.slice A0_1 l0_1.length c0_1), (.slice A0_2 l0_2.length c0_2)] 49 (0, 0))) ∧ Aside0 (Below w.heap.size w w'))
 case atStart => exact ⟨(0), zJJ, H', ⟨Nat.le_refl _⟩, ⟨zK BK364.1⟩, ⟨zB0⟩⟩
 case round =>
  clear H'
  obtain ⟨x5_1, rfl, HA, HK1, BK364, HB⟩ := hrel
  cases gk with
  | zero => exact absurd HA.1 (by simp [spec_l27Ref.l0])
  | succ k1 =>
   have H := HA.1
   clear HA
   simp only [spec_l27Ref.l0] at H
   by_cases c4 : x5_1 < (l0_2.length : Int)
   rotate_left
   ·rw [if_neg c4] at H
    have c4b0 := decide_eq_false c4
    clear c4
    obtain rfl := Option.some.inj H
    have hcz9 := zc_3 (w := wr) BK364.1
    go_wp2
    go_ret
    exact ⟨zE, zB0⟩
   rw [if_pos c4] at H
   have c4b0 := decide_eq_true c4
   clear c4
   replace H := zIt H
   obtain ⟨c5b0, H⟩ := H
   by_cases c6 : ((rd_T61 l0_2 x5_1).f0) = a1
   ·rw [if_pos c6] at H
    have c6b0 : (((rd_T61 l0_2 x5_1).f0) == a1) = true := beq_iff_eq.mpr c6
    have c6b1 : (((rd_T61 l0_2 x5_1).f0) != a1) = false := bne_eq_false_iff_eq.mpr c6
    clear c6
    obtain rfl := Option.some.inj H
    have hcz7 := zc_3 (w := wr) BK364.1
    obtain ⟨p365, q365, ad365, e365, hx365_0, hx365_1⟩ := zRd (at_T61 HR0_2.1 x5_1)
    cases e365
    replace hx365_0 := zHx HB.1 hx365_0
    replace hx365_1 := zHx HB.1 hx365_1
    go_wp2
    go_ret
    exact ⟨zE, zB0⟩
   rw [if_neg c6] at H
   have c6b0 : (((rd_T61 l0_2 x5_1).f0) == a1) = false := beq_eq_false_iff_ne.mpr c6
   have c6b1 : (((rd_T61 l0_2 x5_1).f0) != a1) = true := bne_iff_ne.mpr c6
   have H' := zM H
   clear H
   have hcz8 := zc_3 (w := wr) BK364.1
   obtain ⟨p365, q365, ad365, e365, hx365_0, hx365_1⟩ := zRd (at_T61 HR0_2.1 x5_1)
   cases e365
   replace hx365_0 := zHx HB.1 hx365_0
   replace hx365_1 := zHx HB.1 hx365_1
   go_wp2
   go_roundg k1
   case measure => have := HK1.1; omega
   case rel => exact ⟨(wrap64 (x5_1 + 1)), zJJ, H', ⟨by have := HK1.1; omega⟩, ⟨zK BK364.1⟩, ⟨zB0⟩⟩

/-! ### spec_l8Field: function 101 -/
def spec_l8Field.f (a0 : Int) (a1 : Int) (a2 : Bool) : Option (Bool) := (spec_l1In.f a0 0 a1).bind fun t366 => (if t366 = true then (if a2 = true then (some true) else (some (a0 == 0))) else (some false))
theorem spec_l8Field.calls (a0 : Int) (a1 : Int) (a2 : Bool) (r : Bool) (w : World) (h : spec_l8Field.f a0 a1 a2 = some r) :
  Calls Try.prog 101 #[.int .i64 a0, .int .i64 a1, .bool a2] w fun e w' => e = .returned (.bool r) ∧ Drawn0 w w' := by
 unfold spec_l8Field.f at h
 have H := h
 clear h
 replace H := zO H
 obtain ⟨t366, A4, H⟩ := H
 by_cases c5 : t366 = true
 rotate_left
 ·replace c5 := Bool.eq_false_iff.mpr c5
  subst c5
  rw [if_neg zF] at H
  obtain rfl := Option.some.inj H
  go_enter Try.func101, Try.ntmps101
  go_wp2_with (first | ((with_reducible refine zG Try.func46 9 #[.int .i64 a0, .int .i64 0, .int .i64 a1] ?_); (with_reducible refine (spec_l1In.calls a0 0 a1 false _ A4.1).mono ?_); rintro e w' ⟨rfl, ⟨nd, rfl⟩⟩; refine ⟨_, rfl, ?_⟩))
  go_ret
  exact ⟨zJJ, zDD⟩
 subst c5
 rw [if_pos rfl] at H
 by_cases c6 : a2 = true
 ·subst c6
  rw [if_pos rfl] at H
  obtain rfl := Option.some.inj H
  go_enter Try.func101, Try.ntmps101
  go_wp2_with (first | ((with_reducible refine zG Try.func46 9 #[.int .i64 a0, .int .i64 0, .int .i64 a1] ?_); (with_reducible refine (spec_l1In.calls a0 0 a1 true _ A4.1).mono ?_); rintro e w' ⟨rfl, ⟨nd, rfl⟩⟩; refine ⟨_, rfl, ?_⟩))
  go_ret
  exact ⟨zJJ, zDD⟩
 replace c6 := Bool.eq_false_iff.mpr c6
 subst c6
 rw [if_neg zF] at H
 obtain rfl := Option.some.inj H
 go_enter Try.func101, Try.ntmps101
 go_wp2_with (first | ((with_reducible refine zG Try.func46 9 #[.int .i64 a0, .int .i64 0, .int .i64 a1] ?_); (with_reducible refine (spec_l1In.calls a0 0 a1 true _ A4.1).mono ?_); rintro e w' ⟨rfl, ⟨nd, rfl⟩⟩; refine ⟨_, rfl, ?_⟩))
 go_ret
 exact ⟨zJJ, zDD⟩

end Go.Proofs.Ytaakcbgpmabaaaa.PFnLinked
