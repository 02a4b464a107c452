-- made by wip/tools/myprint.py out of the seat's translation
import Derived.Test.YtnjdepmlpdjghaaPFnAllEndsx0
import Derived.Test.YtnjdepmlpdjghaaPFnAllEndsx2
import Derived.Test.YtnjdepmlpdjghaaPFnAllEndsx6
import Derived.Test.YtnjdepmlpdjghaaPFnAllEndsx12
import Derived.Test.YtnjdepmlpdjghaaPFnAllEndsx16
import Derived.Test.YtnjdepmlpdjghaaPFnAllEndsx17
namespace Go.Proofs.Ytnjdepmlpdjghaa.PFnAllEnds
open Go.RowKit Go.Proofs.YtnjdepmlpdjghaaW.PrintWords Go.Proofs.YtnjdepmlpdjghaaW.PrintLast Go.Proofs.YtnjdepmlpdjghaaW.PrintMore
attribute [local go_sem] max2_int min2_int max_two min_two max_three min_three max_four min_four   -- for this text's walks alone
set_option linter.unusedVariables false
set_option linter.unusedSimpArgs false
set_option maxHeartbeats 8000000
set_option maxRecDepth 100000

/-! ### laws_FnAllEnds: function 5 -/
mutual
def laws_FnAllEnds.l0 : Nat → List Int → List Int → List (S29) → Int → List (List Int) → List (List Int) → Int → Option (Bool)
 | 0, _, _, _, _, _, _, _ => none
 | k + 1, x0, x3, x4, x5, x6, x7, x8 => if x8 < (x6.length : Int) then (if 0 ≤ x8 then (if x8 < (x7.length : Int) then ((laws_sameInts.f k (rd_L2 x6 x8) (rd_L2 x7 x8)).bind fun t672 => (if t672 = true then (laws_FnAllEnds.l1 k x0 x3 x4 x5 x6 x7 x8 0) else (some false))) else (none)) else (none)) else (if (x6.length : Int) = 0 then (laws_FnAllEnds.j2 k x0 x3 x4 x5 x6 true) else (laws_FnAllEnds.j2 k x0 x3 x4 x5 x6 (decide ((x6.length : Int) ≥ 40))))
def laws_FnAllEnds.l1 : Nat → List Int → List Int → List (S29) → Int → List (List Int) → List (List Int) → Int → Int → Option (Bool)
 | 0, _, _, _, _, _, _, _, _ => none
 | k + 1, x0, x3, x4, x5, x6, x7, x8, x9 => if x9 < x8 then (if 0 ≤ x8 then (if x8 < (x6.length : Int) then (if 0 ≤ x9 then (if x9 < (x6.length : Int) then ((laws_sameInts.f k (rd_L2 x6 x8) (rd_L2 x6 x9)).bind fun t675 => (if t675 = true then (some false) else (laws_FnAllEnds.l1 k x0 x3 x4 x5 x6 x7 x8 (wrap64 (x9 + 1))))) else (none)) else (none)) else (none)) else (none)) else (laws_FnAllEnds.l0 k x0 x3 x4 x5 x6 x7 (wrap64 (x8 + 1)))
def laws_FnAllEnds.j2 : Nat → List Int → List Int → List (S29) → Int → List (List Int) → Bool → Option (Bool)
 | 0, _, _, _, _, _, _ => none
 | k + 1, x0, x3, x4, x5, x6, x75 => if x75 = true then (some (decide ((x6.length : Int) ≤ 40))) else (laws_FnAllEnds.l2 k x0 x5 x6 x3 x4 0)
def laws_FnAllEnds.l2 : Nat → List Int → Int → List (List Int) → List Int → List (S29) → Int → Option (Bool)
 | 0, _, _, _, _, _, _ => none
 | k + 1, x0, x5, x6, x10, x11, x12 => if x12 < x5 then (laws_FnAllEnds.l3 k x0 x5 x6 x10 x11 x12 (-1) 0) else (laws_FnAllEnds.l4 k x6 x10 0)
def laws_FnAllEnds.l3 : Nat → List Int → Int → List (List Int) → List Int → List (S29) → Int → Int → Int → Option (Bool)
 | 0, _, _, _, _, _, _, _, _ => none
 | k + 1, x0, x5, x6, x10, x11, x12, x13, x14 => if x14 < (x11.length : Int) then ((laws_at.f x0 x12).bind fun t676 => (if (x11.length : Int) = 0 then (none) else (if 0 ≤ (Int.tmod (wrap64 (x14 + t676)) (x11.length : Int)) then (if (Int.tmod (wrap64 (x14 + t676)) (x11.length : Int)) < (x11.length : Int) then (if ((rd_T29 x11 (Int.tmod (wrap64 (x14 + t676)) (x11.length : Int))).f2) = 0 then (laws_FnAllEnds.l3 k x0 x5 x6 x10 x11 x12 (Int.tmod (wrap64 (x14 + t676)) (x11.length : Int)) (wrap64 (x14 + 1))) else (laws_FnAllEnds.l3 k x0 x5 x6 x10 x11 x12 x13 (wrap64 (x14 + 1)))) else (none)) else (none)))) else ((impl_FlatRun.f k x10 x11 (([x13] : List Int))).bind fun bt681 => (laws_FnAllEnds.l2 k x0 x5 x6 bt681.1 bt681.2 (wrap64 (x12 + 1))))
def laws_FnAllEnds.l4 : Nat → List (List Int) → List Int → Int → Option (Bool)
 | 0, _, _, _ => none
 | k + 1, x6, x10, x16 => if x16 < (x6.length : Int) then (if 0 ≤ x16 then ((laws_sameInts.f k (rd_L2 x6 x16) x10).bind fun t688 => (if t688 = true then (some true) else (laws_FnAllEnds.l4 k x6 x10 (wrap64 (x16 + 1))))) else (none)) else (some false)
end
def laws_FnAllEnds.f (k : Nat) (l0 : List Int) : Option (Bool) := (laws_big.f l0).bind fun t656 => (if t656 = true then (some true) else ((spec_DrawEnds2.f k l0).bind fun bt657 => ((impl_Ends2.f k bt657.1 bt657.2.1 bt657.2.2).bind fun t664 => ((spec_Ends2.f k bt657.1 bt657.2.1 bt657.2.2).bind fun t667 => (if (t664.length : Int) = (t667.length : Int) then (laws_FnAllEnds.l0 k l0 bt657.1 bt657.2.1 bt657.2.2 t664 t667 0) else (some false))))))
theorem laws_FnAllEnds.mono_l : ∀ k, (∀ y0 y1 y2 y3 y4 y5 y6, LeO (laws_FnAllEnds.l0 k y0 y1 y2 y3 y4 y5 y6) (laws_FnAllEnds.l0 (k + 1) y0 y1 y2 y3 y4 y5 y6)) ∧ (∀ y0 y1 y2 y3 y4 y5 y6 y7, LeO (laws_FnAllEnds.l1 k y0 y1 y2 y3 y4 y5 y6 y7) (laws_FnAllEnds.l1 (k + 1) y0 y1 y2 y3 y4 y5 y6 y7)) ∧ (∀ y0 y1 y2 y3 y4 y5, LeO (laws_FnAllEnds.j2 k y0 y1 y2 y3 y4 y5) (laws_FnAllEnds.j2 (k + 1) y0 y1 y2 y3 y4 y5)) ∧ (∀ y0 y1 y2 y3 y4 y5, LeO (laws_FnAllEnds.l2 k y0 y1 y2 y3 y4 y5) (laws_FnAllEnds.l2 (k + 1) y0 y1 y2 y3 y4 y5)) ∧ (∀ y0 y1 y2 y3 y4 y5 y6 y7, LeO (laws_FnAllEnds.l3 k y0 y1 y2 y3 y4 y5 y6 y7) (laws_FnAllEnds.l3 (k + 1) y0 y1 y2 y3 y4 y5 y6 y7)) ∧ (∀ y0 y1 y2, LeO (laws_FnAllEnds.l4 k y0 y1 y2) (laws_FnAllEnds.l4 (k + 1) y0 y1 y2))
 | 0 => ⟨fun _ _ _ _ _ _ _ r h => by simp [laws_FnAllEnds.l0] at h, fun _ _ _ _ _ _ _ _ r h => by simp [laws_FnAllEnds.l1] at h, fun _ _ _ _ _ _ r h => by simp [laws_FnAllEnds.j2] at h, fun _ _ _ _ _ _ r h => by simp [laws_FnAllEnds.l2] at h, fun _ _ _ _ _ _ _ _ r h => by simp [laws_FnAllEnds.l3] at h, fun _ _ _ r h => by simp [laws_FnAllEnds.l4] at h⟩
 | k + 1 => by
  obtain ⟨ih0, ih1, ih2, ih3, ih4, ih5⟩ := laws_FnAllEnds.mono_l k
  refine ⟨?_, ?_, ?_, ?_, ?_, ?_⟩
  ·intros
   unfold laws_FnAllEnds.l0
   have mo0 := @impl_Ends2.mono
   have mo1 := @impl_FlatRun.mono
   have mo2 := @laws_sameInts.mono
   have mo3 := @spec_DrawEnds2.mono
   have mo4 := @spec_Ends2.mono
   exact zL
  ·intros
   unfold laws_FnAllEnds.l1
   have mo0 := @impl_Ends2.mono
   have mo1 := @impl_FlatRun.mono
   have mo2 := @laws_sameInts.mono
   have mo3 := @spec_DrawEnds2.mono
   have mo4 := @spec_Ends2.mono
   exact zL
  ·intros
   unfold laws_FnAllEnds.j2
   have mo0 := @impl_Ends2.mono
   have mo1 := @impl_FlatRun.mono
   have mo2 := @laws_sameInts.mono
   have mo3 := @spec_DrawEnds2.mono
   have mo4 := @spec_Ends2.mono
   exact zL
  ·intros
   unfold laws_FnAllEnds.l2
   have mo0 := @impl_Ends2.mono
   have mo1 := @impl_FlatRun.mono
   have mo2 := @laws_sameInts.mono
   have mo3 := @spec_DrawEnds2.mono
   have mo4 := @spec_Ends2.mono
   exact zL
  ·intros
   unfold laws_FnAllEnds.l3
   have mo0 := @impl_Ends2.mono
   have mo1 := @impl_FlatRun.mono
   have mo2 := @laws_sameInts.mono
   have mo3 := @spec_DrawEnds2.mono
   have mo4 := @spec_Ends2.mono
   exact zL
  ·intros
   unfold laws_FnAllEnds.l4
   have mo0 := @impl_Ends2.mono
   have mo1 := @impl_FlatRun.mono
   have mo2 := @laws_sameInts.mono
   have mo3 := @spec_DrawEnds2.mono
   have mo4 := @spec_Ends2.mono
   exact zL
theorem laws_FnAllEnds.mono : ∀ a0 k, LeO (laws_FnAllEnds.f k a0) (laws_FnAllEnds.f (k + 1) a0) := by
 intro a0 k
 obtain ⟨ih0, ih1, ih2, ih3, ih4, ih5⟩ := laws_FnAllEnds.mono_l k
 unfold laws_FnAllEnds.f
 have mo0 := @impl_Ends2.mono
 have mo1 := @impl_FlatRun.mono
 have mo2 := @laws_sameInts.mono
 have mo3 := @spec_DrawEnds2.mono
 have mo4 := @spec_Ends2.mono
 exact zL
theorem laws_FnAllEnds.calls (k : Nat) (A0 : Option Addr) (c0 : Nat) (l0 : List Int) (r : Bool) (w : World) (hr0 : Kd.C (Kd.int .u8) w A0 l0.length l0) (hc0 : l0.length ≤ c0) (h : laws_FnAllEnds.f k l0 = some r) :
  Calls Try.prog 5 #[.slice A0 l0.length c0] w fun e w' => e = .returned (.bool r) ∧ Below w.heap.size w w' := by
 have HR0 := zM hr0
 have HC0 := zM hc0
 clear hr0 hc0
 have HB := zM (Below.refl w.heap.size w)
 unfold laws_FnAllEnds.f at h
 have H := h
 clear h
 replace H := zO H
 obtain ⟨t656, A2, H⟩ := H
 by_cases c3 : t656 = true
 ·subst c3
  rw [if_pos rfl] at H
  obtain rfl := Option.some.inj H
  go_enter Try.func5, Try.ntmps5
  go_wp2_with (first | (go_at_call 10; (with_reducible refine (laws_big.calls _ _ l0 true _ ?side1 ?side2 A2.1).mono ?_); (case side1 => exact zC HR0.1); (case side2 => exact HC0.1); rintro e w' ⟨rfl, ⟨nd, rfl⟩⟩; (try first | exact ⟨rfl, _, World.drewN_drewN _ _ _⟩ | exact ⟨rfl, _, Eq.trans (World.drewN_drewN _ _ _) (congrArg (World.drewN _) (Nat.add_assoc _ _ _))⟩)))
  repeat (go_quiet (first | (go_at_call 10; (with_reducible refine (laws_big.calls _ _ l0 true _ ?side1 ?side2 A2.1).mono ?_); (case side1 => exact zC HR0.1); (case side2 => exact HC0.1); rintro e w' ⟨rfl, ⟨nd, rfl⟩⟩; (try first | exact ⟨rfl, _, World.drewN_drewN _ _ _⟩ | exact ⟨rfl, _, Eq.trans (World.drewN_drewN _ _ _) (congrArg (World.drewN _) (Nat.add_assoc _ _ _))⟩))); try go_wp2_with (first | (go_at_call 10; (with_reducible refine (laws_big.calls _ _ l0 true _ ?side1 ?side2 A2.1).mono ?_); (case side1 => exact zC HR0.1); (case side2 => exact HC0.1); rintro e w' ⟨rfl, ⟨nd, rfl⟩⟩; (try first | exact ⟨rfl, _, World.drewN_drewN _ _ _⟩ | exact ⟨rfl, _, Eq.trans (World.drewN_drewN _ _ _) (congrArg (World.drewN _) (Nat.add_assoc _ _ _))⟩))))
  go_ret
  exact ⟨zE, zB0⟩
 replace c3 := Bool.eq_false_iff.mpr c3
 subst c3
 rw [if_neg zF] at H
 replace H := zO H
 obtain ⟨⟨t657, t660, t663⟩, A4, H⟩ := H
 try dsimp only at H
 replace H := zO H
 obtain ⟨t664, A5, H⟩ := H
 replace H := zO H
 obtain ⟨t667, A6, H⟩ := H
 by_cases c7 : (t664.length : Int) = (t667.length : Int)
 rotate_left
 ·rw [if_neg c7] at H
  have c7b0 : ((t664.length : Int) == (t667.length : Int)) = false := beq_eq_false_iff_ne.mpr c7
  have c7b1 : ((t664.length : Int) != (t667.length : Int)) = true := bne_iff_ne.mpr c7
  have c7b2 : (t664.length == t667.length) = false := by first | simpa using c7 | (simp at c7 ⊢; omega)
  obtain rfl := Option.some.inj H
  go_enter Try.func5, Try.ntmps5
  go_wp2_with (first | (go_at_call 10; (with_reducible refine (laws_big.calls _ _ l0 false _ ?side1 ?side2 A2.1).mono ?_); (case side1 => exact zC HR0.1); (case side2 => exact HC0.1); rintro e w' ⟨rfl, ⟨nd, rfl⟩⟩; (try first | exact ⟨rfl, _, World.drewN_drewN _ _ _⟩ | exact ⟨rfl, _, Eq.trans (World.drewN_drewN _ _ _) (congrArg (World.drewN _) (Nat.add_assoc _ _ _))⟩)) | (go_at_call 32; (with_reducible refine (spec_DrawEnds2.calls k _ _ l0 t657 t660 t663 _ ?side1 ?side2 A4.1).mono ?_); (case side1 => exact zC HR0.1); (case side2 => exact HC0.1); rintro e w53 ⟨v658, v661, rfl, ho0, ho1, hb⟩; have n0_ := zM (Kd.R_lower (Kd.R_mono (ok' := fun k_ => True) ho0 (fun _ hk_ => trivial)) (below_size zB0)); have n1_ := zM (Kd.N_lower (Kd.N_mono (ok' := fun k_ => some k_ ≠ (v658 : Value).ownBlock) ho1 (fun k_ hk_ => hk_.2)) (below_size zB0)); have n2_ := zM (below_step zB0 hb); clear HB; have HO659 := n0_; have HO662 := n1_; have HB := n2_; clear n0_ n1_ n2_; clear hb ho0 ho1; obtain ⟨Ao54, co54, eo54⟩ := Kd.R_slice HO659.1; subst eo54; obtain ⟨Ao55, co55, eo55⟩ := Kd.N_slice HO662.1; subst eo55) | (go_at_call 24; (with_reducible refine (impl_Ends2.calls k _ _ t657 _ _ t660 t663 t664 _ ?side1 ?side2 ?side3 ?side4 A5.1).mono ?_); (case side1 => exact zC (Kd.R_reads' HO659.1).2.2); (case side2 => exact (Kd.R_reads' HO659.1).2.1); (case side3 => exact zC (Kd.N_reads' HO662.1).2.2); (case side4 => exact (Kd.N_reads' HO662.1).2.1); rintro e w56 ⟨v665, rfl, ho0, hb⟩; have n0_ := zM (Kd.R_below (zR HO659.1) hb); have n1_ := zM (Kd.N_elder' (by refine zrN ?_; exact HO662.1) (Kd.S_base ho0) hb); have n2_ := zM (Kd.N_lower (Kd.N_mono (ok' := fun k_ => some k_ ≠ (.slice Ao54 t657.length co54 : Value).ownBlock ∧ some k_ ≠ (.slice Ao55 t660.length co55 : Value).ownBlock) (Kd.S_N (Kd.S_bound ho0)) (fun k_ hk_ => ⟨(Kd.fresh' (Kd.R_lt (zR HO659.1)) k_ hk_.2.1), (Kd.fresh' (Kd.N_lt (by refine zrN ?_; exact HO662.1)) k_ hk_.2.1)⟩)) (below_size zB0)); have n3_ := zM (below_step zB0 hb); clear HO659; clear HO662; clear HB; have HO659 := n0_; have HO662 := n1_; have HO666 := n2_; have HB := n3_; clear n0_ n1_ n2_ n3_; clear hb ho0) | (go_at_call 21; (with_reducible refine (spec_Ends2.calls k _ _ t657 _ _ t660 t663 t667 _ ?side1 ?side2 ?side3 ?side4 A6.1).mono ?_); (case side1 => exact zC (Kd.R_reads' HO659.1).2.2); (case side2 => exact (Kd.R_reads' HO659.1).2.1); (case side3 => exact zC (Kd.N_reads' HO662.1).2.2); (case side4 => exact (Kd.N_reads' HO662.1).2.1); rintro e w57 ⟨v668, rfl, ho0, hb⟩; have n0_ := zM (Kd.R_below (zR HO659.1) hb); have n1_ := zM (Kd.N_elder' (by refine zrN ?_; exact HO662.1) (Kd.S_base ho0) hb); have n2_ := zM (Kd.N_elder' (by refine zrN ?_; exact HO666.1) (Kd.S_base ho0) hb); have n3_ := zM (Kd.N_lower (Kd.N_mono (ok' := fun k_ => some k_ ≠ (.slice Ao54 t657.length co54 : Value).ownBlock ∧ some k_ ≠ (.slice Ao55 t660.length co55 : Value).ownBlock ∧ some k_ ≠ (v665 : Value).ownBlock) (Kd.S_N (Kd.S_bound ho0)) (fun k_ hk_ => ⟨(Kd.fresh' (Kd.R_lt (zR HO659.1)) k_ hk_.2.1), (Kd.fresh' (Kd.N_lt (by refine zrN ?_; exact HO662.1)) k_ hk_.2.1), (Kd.fresh' (Kd.N_lt (by refine zrN ?_; exact HO666.1)) k_ hk_.2.1)⟩)) (below_size zB0)); have n4_ := zM (below_step zB0 hb); clear HO659; clear HO662; clear HO666; clear HB; have HO659 := n0_; have HO662 := n1_; have HO666 := n2_; have HO669 := n3_; have HB := n4_; clear n0_ n1_ n2_ n3_ n4_; clear hb ho0; obtain ⟨Ao58, co58, eo58⟩ := Kd.N_slice HO666.1; subst eo58; obtain ⟨Ao59, co59, eo59⟩ := Kd.N_slice HO669.1; subst eo59))
  repeat (go_quiet (first | (go_at_call 10; (with_reducible refine (laws_big.calls _ _ l0 false _ ?side1 ?side2 A2.1).mono ?_); (case side1 => exact zC HR0.1); (case side2 => exact HC0.1); rintro e w' ⟨rfl, ⟨nd, rfl⟩⟩; (try first | exact ⟨rfl, _, World.drewN_drewN _ _ _⟩ | exact ⟨rfl, _, Eq.trans (World.drewN_drewN _ _ _) (congrArg (World.drewN _) (Nat.add_assoc _ _ _))⟩)) | (go_at_call 32; (with_reducible refine (spec_DrawEnds2.calls k _ _ l0 t657 t660 t663 _ ?side1 ?side2 A4.1).mono ?_); (case side1 => exact zC HR0.1); (case side2 => exact HC0.1); rintro e w53 ⟨v658, v661, rfl, ho0, ho1, hb⟩; have n0_ := zM (Kd.R_lower (Kd.R_mono (ok' := fun k_ => True) ho0 (fun _ hk_ => trivial)) (below_size zB0)); have n1_ := zM (Kd.N_lower (Kd.N_mono (ok' := fun k_ => some k_ ≠ (v658 : Value).ownBlock) ho1 (fun k_ hk_ => hk_.2)) (below_size zB0)); have n2_ := zM (below_step zB0 hb); clear HB; have HO659 := n0_; have HO662 := n1_; have HB := n2_; clear n0_ n1_ n2_; clear hb ho0 ho1; obtain ⟨Ao54, co54, eo54⟩ := Kd.R_slice HO659.1; subst eo54; obtain ⟨Ao55, co55, eo55⟩ := Kd.N_slice HO662.1; subst eo55) | (go_at_call 24; (with_reducible refine (impl_Ends2.calls k _ _ t657 _ _ t660 t663 t664 _ ?side1 ?side2 ?side3 ?side4 A5.1).mono ?_); (case side1 => exact zC (Kd.R_reads' HO659.1).2.2); (case side2 => exact (Kd.R_reads' HO659.1).2.1); (case side3 => exact zC (Kd.N_reads' HO662.1).2.2); (case side4 => exact (Kd.N_reads' HO662.1).2.1); rintro e w56 ⟨v665, rfl, ho0, hb⟩; have n0_ := zM (Kd.R_below (zR HO659.1) hb); have n1_ := zM (Kd.N_elder' (by refine zrN ?_; exact HO662.1) (Kd.S_base ho0) hb); have n2_ := zM (Kd.N_lower (Kd.N_mono (ok' := fun k_ => some k_ ≠ (.slice Ao54 t657.length co54 : Value).ownBlock ∧ some k_ ≠ (.slice Ao55 t660.length co55 : Value).ownBlock) (Kd.S_N (Kd.S_bound ho0)) (fun k_ hk_ => ⟨(Kd.fresh' (Kd.R_lt (zR HO659.1)) k_ hk_.2.1), (Kd.fresh' (Kd.N_lt (by refine zrN ?_; exact HO662.1)) k_ hk_.2.1)⟩)) (below_size zB0)); have n3_ := zM (below_step zB0 hb); clear HO659; clear HO662; clear HB; have HO659 := n0_; have HO662 := n1_; have HO666 := n2_; have HB := n3_; clear n0_ n1_ n2_ n3_; clear hb ho0) | (go_at_call 21; (with_reducible refine (spec_Ends2.calls k _ _ t657 _ _ t660 t663 t667 _ ?side1 ?side2 ?side3 ?side4 A6.1).mono ?_); (case side1 => exact zC (Kd.R_reads' HO659.1).2.2); (case side2 => exact (Kd.R_reads' HO659.1).2.1); (case side3 => exact zC (Kd.N_reads' HO662.1).2.2); (case side4 => exact (Kd.N_reads' HO662.1).2.1); rintro e w57 ⟨v668, rfl, ho0, hb⟩; have n0_ := zM (Kd.R_below (zR HO659.1) hb); have n1_ := zM (Kd.N_elder' (by refine zrN ?_; exact HO662.1) (Kd.S_base ho0) hb); have n2_ := zM (Kd.N_elder' (by refine zrN ?_; exact HO666.1) (Kd.S_base ho0) hb); have n3_ := zM (Kd.N_lower (Kd.N_mono (ok' := fun k_ => some k_ ≠ (.slice Ao54 t657.length co54 : Value).ownBlock ∧ some k_ ≠ (.slice Ao55 t660.length co55 : Value).ownBlock ∧ some k_ ≠ (v665 : Value).ownBlock) (Kd.S_N (Kd.S_bound ho0)) (fun k_ hk_ => ⟨(Kd.fresh' (Kd.R_lt (zR HO659.1)) k_ hk_.2.1), (Kd.fresh' (Kd.N_lt (by refine zrN ?_; exact HO662.1)) k_ hk_.2.1), (Kd.fresh' (Kd.N_lt (by refine zrN ?_; exact HO666.1)) k_ hk_.2.1)⟩)) (below_size zB0)); have n4_ := zM (below_step zB0 hb); clear HO659; clear HO662; clear HO666; clear HB; have HO659 := n0_; have HO662 := n1_; have HO666 := n2_; have HO669 := n3_; have HB := n4_; clear n0_ n1_ n2_ n3_ n4_; clear hb ho0; obtain ⟨Ao58, co58, eo58⟩ := Kd.N_slice HO666.1; subst eo58; obtain ⟨Ao59, co59, eo59⟩ := Kd.N_slice HO669.1; subst eo59)); try go_wp2_with (first | (go_at_call 10; (with_reducible refine (laws_big.calls _ _ l0 false _ ?side1 ?side2 A2.1).mono ?_); (case side1 => exact zC HR0.1); (case side2 => exact HC0.1); rintro e w' ⟨rfl, ⟨nd, rfl⟩⟩; (try first | exact ⟨rfl, _, World.drewN_drewN _ _ _⟩ | exact ⟨rfl, _, Eq.trans (World.drewN_drewN _ _ _) (congrArg (World.drewN _) (Nat.add_assoc _ _ _))⟩)) | (go_at_call 32; (with_reducible refine (spec_DrawEnds2.calls k _ _ l0 t657 t660 t663 _ ?side1 ?side2 A4.1).mono ?_); (case side1 => exact zC HR0.1); (case side2 => exact HC0.1); rintro e w53 ⟨v658, v661, rfl, ho0, ho1, hb⟩; have n0_ := zM (Kd.R_lower (Kd.R_mono (ok' := fun k_ => True) ho0 (fun _ hk_ => trivial)) (below_size zB0)); have n1_ := zM (Kd.N_lower (Kd.N_mono (ok' := fun k_ => some k_ ≠ (v658 : Value).ownBlock) ho1 (fun k_ hk_ => hk_.2)) (below_size zB0)); have n2_ := zM (below_step zB0 hb); clear HB; have HO659 := n0_; have HO662 := n1_; have HB := n2_; clear n0_ n1_ n2_; clear hb ho0 ho1; obtain ⟨Ao54, co54, eo54⟩ := Kd.R_slice HO659.1; subst eo54; obtain ⟨Ao55, co55, eo55⟩ := Kd.N_slice HO662.1; subst eo55) | (go_at_call 24; (with_reducible refine (impl_Ends2.calls k _ _ t657 _ _ t660 t663 t664 _ ?side1 ?side2 ?side3 ?side4 A5.1).mono ?_); (case side1 => exact zC (Kd.R_reads' HO659.1).2.2); (case side2 => exact (Kd.R_reads' HO659.1).2.1); (case side3 => exact zC (Kd.N_reads' HO662.1).2.2); (case side4 => exact (Kd.N_reads' HO662.1).2.1); rintro e w56 ⟨v665, rfl, ho0, hb⟩; have n0_ := zM (Kd.R_below (zR HO659.1) hb); have n1_ := zM (Kd.N_elder' (by refine zrN ?_; exact HO662.1) (Kd.S_base ho0) hb); have n2_ := zM (Kd.N_lower (Kd.N_mono (ok' := fun k_ => some k_ ≠ (.slice Ao54 t657.length co54 : Value).ownBlock ∧ some k_ ≠ (.slice Ao55 t660.length co55 : Value).ownBlock) (Kd.S_N (Kd.S_bound ho0)) (fun k_ hk_ => ⟨(Kd.fresh' (Kd.R_lt (zR HO659.1)) k_ hk_.2.1), (Kd.fresh' (Kd.N_lt (by refine zrN ?_; exact HO662.1)) k_ hk_.2.1)⟩)) (below_size zB0)); have n3_ := zM (below_step zB0 hb); clear HO659; clear HO662; clear HB; have HO659 := n0_; have HO662 := n1_; have HO666 := n2_; have HB := n3_; clear n0_ n1_ n2_ n3_; clear hb ho0) | (go_at_call 21; (with_reducible refine (spec_Ends2.calls k _ _ t657 _ _ t660 t663 t667 _ ?side1 ?side2 ?side3 ?side4 A6.1).mono ?_); (case side1 => exact zC (Kd.R_reads' HO659.1).2.2); (case side2 => exact (Kd.R_reads' HO659.1).2.1); (case side3 => exact zC (Kd.N_reads' HO662.1).2.2); (case side4 => exact (Kd.N_reads' HO662.1).2.1); rintro e w57 ⟨v668, rfl, ho0, hb⟩; have n0_ := zM (Kd.R_below (zR HO659.1) hb); have n1_ := zM (Kd.N_elder' (by refine zrN ?_; exact HO662.1) (Kd.S_base ho0) hb); have n2_ := zM (Kd.N_elder' (by refine zrN ?_; exact HO666.1) (Kd.S_base ho0) hb); have n3_ := zM (Kd.N_lower (Kd.N_mono (ok' := fun k_ => some k_ ≠ (.slice Ao54 t657.length co54 : Value).ownBlock ∧ some k_ ≠ (.slice Ao55 t660.length co55 : Value).ownBlock ∧ some k_ ≠ (v665 : Value).ownBlock) (Kd.S_N (Kd.S_bound ho0)) (fun k_ hk_ => ⟨(Kd.fresh' (Kd.R_lt (zR HO659.1)) k_ hk_.2.1), (Kd.fresh' (Kd.N_lt (by refine zrN ?_; exact HO662.1)) k_ hk_.2.1), (Kd.fresh' (Kd.N_lt (by refine zrN ?_; exact HO666.1)) k_ hk_.2.1)⟩)) (below_size zB0)); have n4_ := zM (below_step zB0 hb); clear HO659; clear HO662; clear HO666; clear HB; have HO659 := n0_; have HO662 := n1_; have HO666 := n2_; have HO669 := n3_; have HB := n4_; clear n0_ n1_ n2_ n3_ n4_; clear hb ho0; obtain ⟨Ao58, co58, eo58⟩ := Kd.N_slice HO666.1; subst eo58; obtain ⟨Ao59, co59, eo59⟩ := Kd.N_slice HO669.1; subst eo59)))
  go_ret
  exact ⟨zE, zB0⟩
 rw [if_pos c7] at H
 have c7b0 : ((t664.length : Int) == (t667.length : Int)) = true := beq_iff_eq.mpr c7
 have c7b1 : ((t664.length : Int) != (t667.length : Int)) = false := bne_eq_false_iff_eq.mpr c7
 have c7b2 : (t664.length == t667.length) = true := by first | simpa using c7 | (simp at c7 ⊢; omega)
 clear c7
 have H' := zM H
 clear H
 go_enter Try.func5, Try.ntmps5
 go_wp2_with (first | (go_at_call 10; (with_reducible refine (laws_big.calls _ _ l0 false _ ?side1 ?side2 A2.1).mono ?_); (case side1 => exact zC HR0.1); (case side2 => exact HC0.1); rintro e w' ⟨rfl, ⟨nd, rfl⟩⟩; (try first | exact ⟨rfl, _, World.drewN_drewN _ _ _⟩ | exact ⟨rfl, _, Eq.trans (World.drewN_drewN _ _ _) (congrArg (World.drewN _) (Nat.add_assoc _ _ _))⟩)) | (go_at_call 32; (with_reducible refine (spec_DrawEnds2.calls k _ _ l0 t657 t660 t663 _ ?side1 ?side2 A4.1).mono ?_); (case side1 => exact zC HR0.1); (case side2 => exact HC0.1); rintro e w8 ⟨v658, v661, rfl, ho0, ho1, hb⟩; have n0_ := zM (Kd.R_lower (Kd.R_mono (ok' := fun k_ => True) ho0 (fun _ hk_ => trivial)) (below_size zB0)); have n1_ := zM (Kd.N_lower (Kd.N_mono (ok' := fun k_ => some k_ ≠ (v658 : Value).ownBlock) ho1 (fun k_ hk_ => hk_.2)) (below_size zB0)); have n2_ := zM (below_step zB0 hb); clear HB; have HO659 := n0_; have HO662 := n1_; have HB := n2_; clear n0_ n1_ n2_; clear hb ho0 ho1; obtain ⟨Ao9, co9, eo9⟩ := Kd.R_slice HO659.1; subst eo9; obtain ⟨Ao10, co10, eo10⟩ := Kd.N_slice HO662.1; subst eo10) | (go_at_call 24; (with_reducible refine (impl_Ends2.calls k _ _ t657 _ _ t660 t663 t664 _ ?side1 ?side2 ?side3 ?side4 A5.1).mono ?_); (case side1 => exact zC (Kd.R_reads' HO659.1).2.2); (case side2 => exact (Kd.R_reads' HO659.1).2.1); (case side3 => exact zC (Kd.N_reads' HO662.1).2.2); (case side4 => exact (Kd.N_reads' HO662.1).2.1); rintro e w11 ⟨v665, rfl, ho0, hb⟩; have n0_ := zM (Kd.R_below (zR HO659.1) hb); have n1_ := zM (Kd.N_elder' (by refine zrN ?_; exact HO662.1) (Kd.S_base ho0) hb); have n2_ := zM (Kd.N_lower (Kd.N_mono (ok' := fun k_ => some k_ ≠ (.slice Ao9 t657.length co9 : Value).ownBlock ∧ some k_ ≠ (.slice Ao10 t660.length co10 : Value).ownBlock) (Kd.S_N (Kd.S_bound ho0)) (fun k_ hk_ => ⟨(Kd.fresh' (Kd.R_lt (zR HO659.1)) k_ hk_.2.1), (Kd.fresh' (Kd.N_lt (by refine zrN ?_; exact HO662.1)) k_ hk_.2.1)⟩)) (below_size zB0)); have n3_ := zM (below_step zB0 hb); clear HO659; clear HO662; clear HB; have HO659 := n0_; have HO662 := n1_; have HO666 := n2_; have HB := n3_; clear n0_ n1_ n2_ n3_; clear hb ho0) | (go_at_call 21; (with_reducible refine (spec_Ends2.calls k _ _ t657 _ _ t660 t663 t667 _ ?side1 ?side2 ?side3 ?side4 A6.1).mono ?_); (case side1 => exact zC (Kd.R_reads' HO659.1).2.2); (case side2 => exact (Kd.R_reads' HO659.1).2.1); (case side3 => exact zC (Kd.N_reads' HO662.1).2.2); (case side4 => exact (Kd.N_reads' HO662.1).2.1); rintro e w12 ⟨v668, rfl, ho0, hb⟩; have n0_ := zM (Kd.R_below (zR HO659.1) hb); have n1_ := zM (Kd.N_elder' (by refine zrN ?_; exact HO662.1) (Kd.S_base ho0) hb); have n2_ := zM (Kd.N_elder' (by refine zrN ?_; exact HO666.1) (Kd.S_base ho0) hb); have n3_ := zM (Kd.N_lower (Kd.N_mono (ok' := fun k_ => some k_ ≠ (.slice Ao9 t657.length co9 : Value).ownBlock ∧ some k_ ≠ (.slice Ao10 t660.length co10 : Value).ownBlock ∧ some k_ ≠ (v665 : Value).ownBlock) (Kd.S_N (Kd.S_bound ho0)) (fun k_ hk_ => ⟨(Kd.fresh' (Kd.R_lt (zR HO659.1)) k_ hk_.2.1), (Kd.fresh' (Kd.N_lt (by refine zrN ?_; exact HO662.1)) k_ hk_.2.1), (Kd.fresh' (Kd.N_lt (by refine zrN ?_; exact HO666.1)) k_ hk_.2.1)⟩)) (below_size zB0)); have n4_ := zM (below_step zB0 hb); clear HO659; clear HO662; clear HO666; clear HB; have HO659 := n0_; have HO662 := n1_; have HO666 := n2_; have HO669 := n3_; have HB := n4_; clear n0_ n1_ n2_ n3_ n4_; clear hb ho0; obtain ⟨Ao13, co13, eo13⟩ := Kd.N_slice HO666.1; subst eo13; obtain ⟨Ao14, co14, eo14⟩ := Kd.N_slice HO669.1; subst eo14))
 repeat (go_quiet (first | (go_at_call 10; (with_reducible refine (laws_big.calls _ _ l0 false _ ?side1 ?side2 A2.1).mono ?_); (case side1 => exact zC HR0.1); (case side2 => exact HC0.1); rintro e w' ⟨rfl, ⟨nd, rfl⟩⟩; (try first | exact ⟨rfl, _, World.drewN_drewN _ _ _⟩ | exact ⟨rfl, _, Eq.trans (World.drewN_drewN _ _ _) (congrArg (World.drewN _) (Nat.add_assoc _ _ _))⟩)) | (go_at_call 32; (with_reducible refine (spec_DrawEnds2.calls k _ _ l0 t657 t660 t663 _ ?side1 ?side2 A4.1).mono ?_); (case side1 => exact zC HR0.1); (case side2 => exact HC0.1); rintro e w8 ⟨v658, v661, rfl, ho0, ho1, hb⟩; have n0_ := zM (Kd.R_lower (Kd.R_mono (ok' := fun k_ => True) ho0 (fun _ hk_ => trivial)) (below_size zB0)); have n1_ := zM (Kd.N_lower (Kd.N_mono (ok' := fun k_ => some k_ ≠ (v658 : Value).ownBlock) ho1 (fun k_ hk_ => hk_.2)) (below_size zB0)); have n2_ := zM (below_step zB0 hb); clear HB; have HO659 := n0_; have HO662 := n1_; have HB := n2_; clear n0_ n1_ n2_; clear hb ho0 ho1; obtain ⟨Ao9, co9, eo9⟩ := Kd.R_slice HO659.1; subst eo9; obtain ⟨Ao10, co10, eo10⟩ := Kd.N_slice HO662.1; subst eo10) | (go_at_call 24; (with_reducible refine (impl_Ends2.calls k _ _ t657 _ _ t660 t663 t664 _ ?side1 ?side2 ?side3 ?side4 A5.1).mono ?_); (case side1 => exact zC (Kd.R_reads' HO659.1).2.2); (case side2 => exact (Kd.R_reads' HO659.1).2.1); (case side3 => exact zC (Kd.N_reads' HO662.1).2.2); (case side4 => exact (Kd.N_reads' HO662.1).2.1); rintro e w11 ⟨v665, rfl, ho0, hb⟩; have n0_ := zM (Kd.R_below (zR HO659.1) hb); have n1_ := zM (Kd.N_elder' (by refine zrN ?_; exact HO662.1) (Kd.S_base ho0) hb); have n2_ := zM (Kd.N_lower (Kd.N_mono (ok' := fun k_ => some k_ ≠ (.slice Ao9 t657.length co9 : Value).ownBlock ∧ some k_ ≠ (.slice Ao10 t660.length co10 : Value).ownBlock) (Kd.S_N (Kd.S_bound ho0)) (fun k_ hk_ => ⟨(Kd.fresh' (Kd.R_lt (zR HO659.1)) k_ hk_.2.1), (Kd.fresh' (Kd.N_lt (by refine zrN ?_; exact HO662.1)) k_ hk_.2.1)⟩)) (below_size zB0)); have n3_ := zM (below_step zB0 hb); clear HO659; clear HO662; clear HB; have HO659 := n0_; have HO662 := n1_; have HO666 := n2_; have HB := n3_; clear n0_ n1_ n2_ n3_; clear hb ho0) | (go_at_call 21; (with_reducible refine (spec_Ends2.calls k _ _ t657 _ _ t660 t663 t667 _ ?side1 ?side2 ?side3 ?side4 A6.1).mono ?_); (case side1 => exact zC (Kd.R_reads' HO659.1).2.2); (case side2 => exact (Kd.R_reads' HO659.1).2.1); (case side3 => exact zC (Kd.N_reads' HO662.1).2.2); (case side4 => exact (Kd.N_reads' HO662.1).2.1); rintro e w12 ⟨v668, rfl, ho0, hb⟩; have n0_ := zM (Kd.R_below (zR HO659.1) hb); have n1_ := zM (Kd.N_elder' (by refine zrN ?_; exact HO662.1) (Kd.S_base ho0) hb); have n2_ := zM (Kd.N_elder' (by refine zrN ?_; exact HO666.1) (Kd.S_base ho0) hb); have n3_ := zM (Kd.N_lower (Kd.N_mono (ok' := fun k_ => some k_ ≠ (.slice Ao9 t657.length co9 : Value).ownBlock ∧ some k_ ≠ (.slice Ao10 t660.length co10 : Value).ownBlock ∧ some k_ ≠ (v665 : Value).ownBlock) (Kd.S_N (Kd.S_bound ho0)) (fun k_ hk_ => ⟨(Kd.fresh' (Kd.R_lt (zR HO659.1)) k_ hk_.2.1), (Kd.fresh' (Kd.N_lt (by refine zrN ?_; exact HO662.1)) k_ hk_.2.1), (Kd.fresh' (Kd.N_lt (by refine zrN ?_; exact HO666.1)) k_ hk_.2.1)⟩)) (below_size zB0)); have n4_ := zM (below_step zB0 hb); clear HO659; clear HO662; clear HO666; clear HB; have HO659 := n0_; have HO662 := n1_; have HO666 := n2_; have HO669 := n3_; have HB := n4_; clear n0_ n1_ n2_ n3_ n4_; clear hb ho0; obtain ⟨Ao13, co13, eo13⟩ := Kd.N_slice HO666.1; subst eo13; obtain ⟨Ao14, co14, eo14⟩ := Kd.N_slice HO669.1; subst eo14)); try go_wp2_with (first | (go_at_call 10; (with_reducible refine (laws_big.calls _ _ l0 false _ ?side1 ?side2 A2.1).mono ?_); (case side1 => exact zC HR0.1); (case side2 => exact HC0.1); rintro e w' ⟨rfl, ⟨nd, rfl⟩⟩; (try first | exact ⟨rfl, _, World.drewN_drewN _ _ _⟩ | exact ⟨rfl, _, Eq.trans (World.drewN_drewN _ _ _) (congrArg (World.drewN _) (Nat.add_assoc _ _ _))⟩)) | (go_at_call 32; (with_reducible refine (spec_DrawEnds2.calls k _ _ l0 t657 t660 t663 _ ?side1 ?side2 A4.1).mono ?_); (case side1 => exact zC HR0.1); (case side2 => exact HC0.1); rintro e w8 ⟨v658, v661, rfl, ho0, ho1, hb⟩; have n0_ := zM (Kd.R_lower (Kd.R_mono (ok' := fun k_ => True) ho0 (fun _ hk_ => trivial)) (below_size zB0)); have n1_ := zM (Kd.N_lower (Kd.N_mono (ok' := fun k_ => some k_ ≠ (v658 : Value).ownBlock) ho1 (fun k_ hk_ => hk_.2)) (below_size zB0)); have n2_ := zM (below_step zB0 hb); clear HB; have HO659 := n0_; have HO662 := n1_; have HB := n2_; clear n0_ n1_ n2_; clear hb ho0 ho1; obtain ⟨Ao9, co9, eo9⟩ := Kd.R_slice HO659.1; subst eo9; obtain ⟨Ao10, co10, eo10⟩ := Kd.N_slice HO662.1; subst eo10) | (go_at_call 24; (with_reducible refine (impl_Ends2.calls k _ _ t657 _ _ t660 t663 t664 _ ?side1 ?side2 ?side3 ?side4 A5.1).mono ?_); (case side1 => exact zC (Kd.R_reads' HO659.1).2.2); (case side2 => exact (Kd.R_reads' HO659.1).2.1); (case side3 => exact zC (Kd.N_reads' HO662.1).2.2); (case side4 => exact (Kd.N_reads' HO662.1).2.1); rintro e w11 ⟨v665, rfl, ho0, hb⟩; have n0_ := zM (Kd.R_below (zR HO659.1) hb); have n1_ := zM (Kd.N_elder' (by refine zrN ?_; exact HO662.1) (Kd.S_base ho0) hb); have n2_ := zM (Kd.N_lower (Kd.N_mono (ok' := fun k_ => some k_ ≠ (.slice Ao9 t657.length co9 : Value).ownBlock ∧ some k_ ≠ (.slice Ao10 t660.length co10 : Value).ownBlock) (Kd.S_N (Kd.S_bound ho0)) (fun k_ hk_ => ⟨(Kd.fresh' (Kd.R_lt (zR HO659.1)) k_ hk_.2.1), (Kd.fresh' (Kd.N_lt (by refine zrN ?_; exact HO662.1)) k_ hk_.2.1)⟩)) (below_size zB0)); have n3_ := zM (below_step zB0 hb); clear HO659; clear HO662; clear HB; have HO659 := n0_; have HO662 := n1_; have HO666 := n2_; have HB := n3_; clear n0_ n1_ n2_ n3_; clear hb ho0) | (go_at_call 21; (with_reducible refine (spec_Ends2.calls k _ _ t657 _ _ t660 t663 t667 _ ?side1 ?side2 ?side3 ?side4 A6.1).mono ?_); (case side1 => exact zC (Kd.R_reads' HO659.1).2.2); (case side2 => exact (Kd.R_reads' HO659.1).2.1); (case side3 => exact zC (Kd.N_reads' HO662.1).2.2); (case side4 => exact (Kd.N_reads' HO662.1).2.1); rintro e w12 ⟨v668, rfl, ho0, hb⟩; have n0_ := zM (Kd.R_below (zR HO659.1) hb); have n1_ := zM (Kd.N_elder' (by refine zrN ?_; exact HO662.1) (Kd.S_base ho0) hb); have n2_ := zM (Kd.N_elder' (by refine zrN ?_; exact HO666.1) (Kd.S_base ho0) hb); have n3_ := zM (Kd.N_lower (Kd.N_mono (ok' := fun k_ => some k_ ≠ (.slice Ao9 t657.length co9 : Value).ownBlock ∧ some k_ ≠ (.slice Ao10 t660.length co10 : Value).ownBlock ∧ some k_ ≠ (v665 : Value).ownBlock) (Kd.S_N (Kd.S_bound ho0)) (fun k_ hk_ => ⟨(Kd.fresh' (Kd.R_lt (zR HO659.1)) k_ hk_.2.1), (Kd.fresh' (Kd.N_lt (by refine zrN ?_; exact HO662.1)) k_ hk_.2.1), (Kd.fresh' (Kd.N_lt (by refine zrN ?_; exact HO666.1)) k_ hk_.2.1)⟩)) (below_size zB0)); have n4_ := zM (below_step zB0 hb); clear HO659; clear HO662; clear HO666; clear HB; have HO659 := n0_; have HO662 := n1_; have HO666 := n2_; have HO669 := n3_; have HB := n4_; clear n0_ n1_ n2_ n3_ n4_; clear hb ho0; obtain ⟨Ao13, co13, eo13⟩ := Kd.N_slice HO666.1; subst eo13; obtain ⟨Ao14, co14, eo14⟩ := Kd.N_slice HO669.1; subst eo14)))
 go_loopg [8] k (fun kq v8 w' => ∃ (x8_1 : Int), v8 = .int .i64 x8_1 ∧ Aside0 (laws_FnAllEnds.l0 kq l0 t657 t660 t663 t664 t667 x8_1 = some r) ∧ Aside0 (kq ≤ k) ∧ Aside0 (Kd.R (Kd.int .i64) 3 w' w.heap.size (fun _ => True) (.slice Ao9 t657.length co9) t657) ∧ Aside0 (Kd.N k29 29 w' w.heap.size (fun k_ => some k_ ≠ ((.slice Ao9 t657.length co9) : Value).ownBlock ∧ some k_ ≠ ((.slice Ao13 t664.length co13) : Value).ownBlock ∧ some k_ ≠ ((.slice Ao14 t667.length co14) : Value).ownBlock) (.slice Ao10 t660.length co10) t660) ∧ Aside0 (Kd.N (Kd.slice 3 (Kd.int .i64)) 24 w' w.heap.size (fun k_ => some k_ ≠ ((.slice Ao9 t657.length co9) : Value).ownBlock ∧ some k_ ≠ ((.slice Ao10 t660.length co10) : Value).ownBlock ∧ some k_ ≠ ((.slice Ao14 t667.length co14) : Value).ownBlock) (.slice Ao13 t664.length co13) t664) ∧ Aside0 (Kd.N (Kd.slice 3 (Kd.int .i64)) 24 w' w.heap.size (fun k_ => some k_ ≠ ((.slice Ao9 t657.length co9) : Value).ownBlock ∧ some k_ ≠ ((.slice Ao10 t660.length co10) : Value).ownBlock ∧ some k_ ≠ ((.slice Ao13 t664.length co13) : Value).ownBlock) (.slice Ao14 t667.length co14) t667) ∧ Aside0 (Below w.heap.size w w'))
 case atStart => exact ⟨(0), zJJ, H', ⟨Nat.le_refl _⟩, ⟨zR HO659.1⟩, ⟨by refine zrN ?_; exact Kd.N_mono HO662.1 (fun _ hk => ⟨hk.1.1, ⟨hk.1.2, hk.2⟩⟩)⟩, ⟨by refine zrN ?_; exact Kd.N_mono HO666.1 (fun _ hk => ⟨hk.1.1, ⟨hk.1.2, hk.2⟩⟩)⟩, ⟨by refine zrN ?_; exact HO669.1⟩, ⟨zB0⟩⟩
 case round =>
  clear H'
  obtain ⟨x8_1, rfl, HA, HK1, HO_3, HO_4, HO_6, HO_7, HB⟩ := hrel
  cases gk with
  | zero => exact absurd HA.1 (by simp [laws_FnAllEnds.l0])
  | succ k1 =>
   have H := HA.1
   clear HA
   simp only [laws_FnAllEnds.l0] at H
   by_cases c15 : x8_1 < (t664.length : Int)
   ·rw [if_pos c15] at H
    have c15b0 := decide_eq_true c15
    clear c15
    replace H := zIt H
    obtain ⟨c16b0, H⟩ := H
    replace H := zIt H
    obtain ⟨c17b0, H⟩ := H
    replace H := zO H
    obtain ⟨t672, A18, H⟩ := H
    by_cases c19 : t672 = true
    rotate_left
    ·replace c19 := Bool.eq_false_iff.mpr c19
     subst c19
     rw [if_neg zF] at H
     obtain rfl := Option.some.inj H
     obtain ⟨p670, q670, ad670, A670_0, c670_0, e670, hx670_0, hl670_0, hi670_0⟩ := zRd (at_L2 (Kd.N_reads' HO_6.1).2.2 x8_1)
     cases e670
     obtain ⟨ce670, hce670, hMe670, hcc670⟩ := Kd.N_get HO_6.1 [] x8_1 zA (by first | exact zA | (have e_ := (Kd.N_reads' HO_6.1).1; omega))
     obtain ⟨ua670_0, uc670_0, rfl, ul670_0, ge670_0⟩ := Kd.FK_slice_open hMe670
     have hv670_0 := hcc670 0 _ rfl
     rw [Nat.add_zero, show ((Kd.slice 3 (Kd.int .i64))).sz = 1 from rfl, Nat.mul_one] at hv670_0
     replace hv670_0 := Option.some.inj (hv670_0.symm.trans hx670_0)
     injection hv670_0 with hva_ hvn_ hvc_
     rw [hva_] at ge670_0
     rw [hvc_] at ul670_0
     have HL670_0 := zM (show Kd.V (Kd.int .i64) 3 _ w.heap.size _ _ (rd_L2 t664 x8_1) from Kd.V_mk ul670_0 ge670_0)
     clear hva_ hvn_ hvc_ ge670_0 ul670_0 hcc670 hce670
     have HR670_0 := zM hi670_0
     have HC670_0 := zM hl670_0
     clear hi670_0 hl670_0
     obtain ⟨p671, q671, ad671, A671_0, c671_0, e671, hx671_0, hl671_0, hi671_0⟩ := zRd (at_L2 (Kd.N_reads' HO_7.1).2.2 x8_1)
     cases e671
     obtain ⟨ce671, hce671, hMe671, hcc671⟩ := Kd.N_get HO_7.1 [] x8_1 zA (by first | exact zA | (have e_ := (Kd.N_reads' HO_7.1).1; omega))
     obtain ⟨ua671_0, uc671_0, rfl, ul671_0, ge671_0⟩ := Kd.FK_slice_open hMe671
     have hv671_0 := hcc671 0 _ rfl
     rw [Nat.add_zero, show ((Kd.slice 3 (Kd.int .i64))).sz = 1 from rfl, Nat.mul_one] at hv671_0
     replace hv671_0 := Option.some.inj (hv671_0.symm.trans hx671_0)
     injection hv671_0 with hva_ hvn_ hvc_
     rw [hva_] at ge671_0
     rw [hvc_] at ul671_0
     have HL671_0 := zM (show Kd.V (Kd.int .i64) 3 _ w.heap.size _ _ (rd_L2 t667 x8_1) from Kd.V_mk ul671_0 ge671_0)
     clear hva_ hvn_ hvc_ ge671_0 ul671_0 hcc671 hce671
     have HR671_0 := zM hi671_0
     have HC671_0 := zM hl671_0
     clear hi671_0 hl671_0
     go_wp2_with (first | (go_at_call 16; (with_reducible refine (laws_sameInts.calls k1 _ _ (rd_L2 t664 x8_1) _ _ (rd_L2 t667 x8_1) false _ ?side1 ?side2 ?side3 ?side4 A18.1).mono ?_); (case side1 => exact zC HR670_0.1); (case side2 => exact HC670_0.1); (case side3 => exact zC HR671_0.1); (case side4 => exact HC671_0.1); rintro e w' ⟨rfl, ⟨nd, rfl⟩⟩; (try first | exact ⟨rfl, _, World.drewN_drewN _ _ _⟩ | exact ⟨rfl, _, Eq.trans (World.drewN_drewN _ _ _) (congrArg (World.drewN _) (Nat.add_assoc _ _ _))⟩)))
     repeat (go_quiet (first | (go_at_call 16; (with_reducible refine (laws_sameInts.calls k1 _ _ (rd_L2 t664 x8_1) _ _ (rd_L2 t667 x8_1) false _ ?side1 ?side2 ?side3 ?side4 A18.1).mono ?_); (case side1 => exact zC HR670_0.1); (case side2 => exact HC670_0.1); (case side3 => exact zC HR671_0.1); (case side4 => exact HC671_0.1); rintro e w' ⟨rfl, ⟨nd, rfl⟩⟩; (try first | exact ⟨rfl, _, World.drewN_drewN _ _ _⟩ | exact ⟨rfl, _, Eq.trans (World.drewN_drewN _ _ _) (congrArg (World.drewN _) (Nat.add_assoc _ _ _))⟩))); try go_wp2_with (first | (go_at_call 16; (with_reducible refine (laws_sameInts.calls k1 _ _ (rd_L2 t664 x8_1) _ _ (rd_L2 t667 x8_1) false _ ?side1 ?side2 ?side3 ?side4 A18.1).mono ?_); (case side1 => exact zC HR670_0.1); (case side2 => exact HC670_0.1); (case side3 => exact zC HR671_0.1); (case side4 => exact HC671_0.1); rintro e w' ⟨rfl, ⟨nd, rfl⟩⟩; (try first | exact ⟨rfl, _, World.drewN_drewN _ _ _⟩ | exact ⟨rfl, _, Eq.trans (World.drewN_drewN _ _ _) (congrArg (World.drewN _) (Nat.add_assoc _ _ _))⟩))))
     go_ret
     exact ⟨zE, zB0⟩
    subst c19
    rw [if_pos rfl] at H
    have H' := zM H
    clear H
    obtain ⟨p670, q670, ad670, A670_0, c670_0, e670, hx670_0, hl670_0, hi670_0⟩ := zRd (at_L2 (Kd.N_reads' HO_6.1).2.2 x8_1)
    cases e670
    obtain ⟨ce670, hce670, hMe670, hcc670⟩ := Kd.N_get HO_6.1 [] x8_1 zA (by first | exact zA | (have e_ := (Kd.N_reads' HO_6.1).1; omega))
    obtain ⟨ua670_0, uc670_0, rfl, ul670_0, ge670_0⟩ := Kd.FK_slice_open hMe670
    have hv670_0 := hcc670 0 _ rfl
    rw [Nat.add_zero, show ((Kd.slice 3 (Kd.int .i64))).sz = 1 from rfl, Nat.mul_one] at hv670_0
    replace hv670_0 := Option.some.inj (hv670_0.symm.trans hx670_0)
    injection hv670_0 with hva_ hvn_ hvc_
    rw [hva_] at ge670_0
    rw [hvc_] at ul670_0
    have HL670_0 := zM (show Kd.V (Kd.int .i64) 3 _ w.heap.size _ _ (rd_L2 t664 x8_1) from Kd.V_mk ul670_0 ge670_0)
    clear hva_ hvn_ hvc_ ge670_0 ul670_0 hcc670 hce670
    have HR670_0 := zM hi670_0
    have HC670_0 := zM hl670_0
    clear hi670_0 hl670_0
    obtain ⟨p671, q671, ad671, A671_0, c671_0, e671, hx671_0, hl671_0, hi671_0⟩ := zRd (at_L2 (Kd.N_reads' HO_7.1).2.2 x8_1)
    cases e671
    obtain ⟨ce671, hce671, hMe671, hcc671⟩ := Kd.N_get HO_7.1 [] x8_1 zA (by first | exact zA | (have e_ := (Kd.N_reads' HO_7.1).1; omega))
    obtain ⟨ua671_0, uc671_0, rfl, ul671_0, ge671_0⟩ := Kd.FK_slice_open hMe671
    have hv671_0 := hcc671 0 _ rfl
    rw [Nat.add_zero, show ((Kd.slice 3 (Kd.int .i64))).sz = 1 from rfl, Nat.mul_one] at hv671_0
    replace hv671_0 := Option.some.inj (hv671_0.symm.trans hx671_0)
    injection hv671_0 with hva_ hvn_ hvc_
    rw [hva_] at ge671_0
    rw [hvc_] at ul671_0
    have HL671_0 := zM (show Kd.V (Kd.int .i64) 3 _ w.heap.size _ _ (rd_L2 t667 x8_1) from Kd.V_mk ul671_0 ge671_0)
    clear hva_ hvn_ hvc_ ge671_0 ul671_0 hcc671 hce671
    have HR671_0 := zM hi671_0
    have HC671_0 := zM hl671_0
    clear hi671_0 hl671_0
    go_wp2_with (first | (go_at_call 16; (with_reducible refine (laws_sameInts.calls k1 _ _ (rd_L2 t664 x8_1) _ _ (rd_L2 t667 x8_1) true _ ?side1 ?side2 ?side3 ?side4 A18.1).mono ?_); (case side1 => exact zC HR670_0.1); (case side2 => exact HC670_0.1); (case side3 => exact zC HR671_0.1); (case side4 => exact HC671_0.1); rintro e w' ⟨rfl, ⟨nd, rfl⟩⟩; (try first | exact ⟨rfl, _, World.drewN_drewN _ _ _⟩ | exact ⟨rfl, _, Eq.trans (World.drewN_drewN _ _ _) (congrArg (World.drewN _) (Nat.add_assoc _ _ _))⟩)))
    repeat (go_quiet (first | (go_at_call 16; (with_reducible refine (laws_sameInts.calls k1 _ _ (rd_L2 t664 x8_1) _ _ (rd_L2 t667 x8_1) true _ ?side1 ?side2 ?side3 ?side4 A18.1).mono ?_); (case side1 => exact zC HR670_0.1); (case side2 => exact HC670_0.1); (case side3 => exact zC HR671_0.1); (case side4 => exact HC671_0.1); rintro e w' ⟨rfl, ⟨nd, rfl⟩⟩; (try first | exact ⟨rfl, _, World.drewN_drewN _ _ _⟩ | exact ⟨rfl, _, Eq.trans (World.drewN_drewN _ _ _) (congrArg (World.drewN _) (Nat.add_assoc _ _ _))⟩))); try go_wp2_with (first | (go_at_call 16; (with_reducible refine (laws_sameInts.calls k1 _ _ (rd_L2 t664 x8_1) _ _ (rd_L2 t667 x8_1) true _ ?side1 ?side2 ?side3 ?side4 A18.1).mono ?_); (case side1 => exact zC HR670_0.1); (case side2 => exact HC670_0.1); (case side3 => exact zC HR671_0.1); (case side4 => exact HC671_0.1); rintro e w' ⟨rfl, ⟨nd, rfl⟩⟩; (try first | exact ⟨rfl, _, World.drewN_drewN _ _ _⟩ | exact ⟨rfl, _, Eq.trans (World.drewN_drewN _ _ _) (congrArg (World.drewN _) (Nat.add_assoc _ _ _))⟩))))
    go_loopg [9] k1 (fun kq v9 w' => ∃ (x9_2 : Int), v9 = .int .i64 x9_2 ∧ Aside0 (laws_FnAllEnds.l1 kq l0 t657 t660 t663 t664 t667 x8_1 x9_2 = some r) ∧ Aside0 (kq ≤ k1) ∧ Aside0 (Kd.R (Kd.int .i64) 3 w' w.heap.size (fun _ => True) (.slice Ao9 t657.length co9) t657) ∧ Aside0 (Kd.N k29 29 w' w.heap.size (fun k_ => some k_ ≠ ((.slice Ao9 t657.length co9) : Value).ownBlock ∧ some k_ ≠ ((.slice (some ad670) t664.length co13) : Value).ownBlock ∧ some k_ ≠ ((.slice (some ad671) t667.length co14) : Value).ownBlock) (.slice Ao10 t660.length co10) t660) ∧ Aside0 (Kd.N (Kd.slice 3 (Kd.int .i64)) 24 w' w.heap.size (fun k_ => some k_ ≠ ((.slice Ao9 t657.length co9) : Value).ownBlock ∧ some k_ ≠ ((.slice Ao10 t660.length co10) : Value).ownBlock ∧ some k_ ≠ ((.slice (some ad671) t667.length co14) : Value).ownBlock) (.slice (some ad670) t664.length co13) t664) ∧ Aside0 (Kd.N (Kd.slice 3 (Kd.int .i64)) 24 w' w.heap.size (fun k_ => some k_ ≠ ((.slice Ao9 t657.length co9) : Value).ownBlock ∧ some k_ ≠ ((.slice Ao10 t660.length co10) : Value).ownBlock ∧ some k_ ≠ ((.slice (some ad670) t664.length co13) : Value).ownBlock) (.slice (some ad671) t667.length co14) t667) ∧ Aside0 (Kd.C (Kd.int .i64) w' A670_0 (rd_L2 t664 x8_1).length (rd_L2 t664 x8_1)) ∧ Aside0 (Kd.C (Kd.int .i64) w' A671_0 (rd_L2 t667 x8_1).length (rd_L2 t667 x8_1)) ∧ Aside0 (Below w.heap.size w w'))
    case atStart => exact ⟨(0), zJJ, H', ⟨Nat.le_refl _⟩, ⟨zR HO_3.1⟩, ⟨by refine zrN ?_; exact HO_4.1⟩, ⟨by refine zrN ?_; exact HO_6.1⟩, ⟨by refine zrN ?_; exact HO_7.1⟩, ⟨zC HR670_0.1⟩, ⟨zC HR671_0.1⟩, ⟨zB0⟩⟩
    case round =>
     clear H'
     obtain ⟨x9_2, rfl, HA, HK2, HO_3, HO_4, HO_6, HO_7, HR670_0, HR671_0, HB⟩ := hrel
     cases gk with
     | zero => exact absurd HA.1 (by simp [laws_FnAllEnds.l1])
     | succ k2 =>
      have H := HA.1
      clear HA
      simp only [laws_FnAllEnds.l1] at H
      by_cases c20 : x9_2 < x8_1
      rotate_left
      ·rw [if_neg c20] at H
       have c20b0 := decide_eq_false c20
       clear c20
       have H' := zM H
       clear H
       go_wp2
       repeat (go_quiet (fail); try go_wp2)
       go_roundg k2
       case measure => have := HK1.1; have := HK2.1; omega
       case rel => exact ⟨(wrap64 (x8_1 + 1)), zJJ, H', ⟨by have := HK1.1; have := HK2.1; omega⟩, ⟨zR HO_3.1⟩, ⟨by refine zrN ?_; exact HO_4.1⟩, ⟨by refine zrN ?_; exact HO_6.1⟩, ⟨by refine zrN ?_; exact HO_7.1⟩, ⟨zB0⟩⟩
      rw [if_pos c20] at H
      have c20b0 := decide_eq_true c20
      clear c20
      replace H := zIt H
      obtain ⟨c21b0, H⟩ := H
      replace H := zIt H
      obtain ⟨c22b0, H⟩ := H
      replace H := zIt H
      obtain ⟨c23b0, H⟩ := H
      replace H := zIt H
      obtain ⟨c24b0, H⟩ := H
      replace H := zO H
      obtain ⟨t675, A25, H⟩ := H
      by_cases c26 : t675 = true
      ·subst c26
       rw [if_pos rfl] at H
       obtain rfl := Option.some.inj H
       obtain ⟨p673, q673, ad673, A673_0, c673_0, e673, hx673_0, hl673_0, hi673_0⟩ := zRd (at_L2 (Kd.N_reads' HO_6.1).2.2 x8_1)
       obtain rfl : ad670 = ad673 := (by injection e673)
       obtain ⟨ce673, hce673, hMe673, hcc673⟩ := Kd.N_get HO_6.1 [] x8_1 zA (by first | exact zA | (have e_ := (Kd.N_reads' HO_6.1).1; omega))
       obtain ⟨ua673_0, uc673_0, rfl, ul673_0, ge673_0⟩ := Kd.FK_slice_open hMe673
       have hv673_0 := hcc673 0 _ rfl
       rw [Nat.add_zero, show ((Kd.slice 3 (Kd.int .i64))).sz = 1 from rfl, Nat.mul_one] at hv673_0
       replace hv673_0 := Option.some.inj (hv673_0.symm.trans hx673_0)
       injection hv673_0 with hva_ hvn_ hvc_
       rw [hva_] at ge673_0
       rw [hvc_] at ul673_0
       have HL673_0 := zM (show Kd.V (Kd.int .i64) 3 _ w.heap.size _ _ (rd_L2 t664 x8_1) from Kd.V_mk ul673_0 ge673_0)
       clear hva_ hvn_ hvc_ ge673_0 ul673_0 hcc673 hce673
       have HR673_0 := zM hi673_0
       have HC673_0 := zM hl673_0
       clear hi673_0 hl673_0
       obtain ⟨p674, q674, ad674, A674_0, c674_0, e674, hx674_0, hl674_0, hi674_0⟩ := zRd (at_L2 (Kd.N_reads' HO_6.1).2.2 x9_2)
       obtain rfl : ad670 = ad674 := (by injection e674)
       obtain ⟨ce674, hce674, hMe674, hcc674⟩ := Kd.N_get HO_6.1 [] x9_2 zA (by first | exact zA | (have e_ := (Kd.N_reads' HO_6.1).1; omega))
       obtain ⟨ua674_0, uc674_0, rfl, ul674_0, ge674_0⟩ := Kd.FK_slice_open hMe674
       have hv674_0 := hcc674 0 _ rfl
       rw [Nat.add_zero, show ((Kd.slice 3 (Kd.int .i64))).sz = 1 from rfl, Nat.mul_one] at hv674_0
       replace hv674_0 := Option.some.inj (hv674_0.symm.trans hx674_0)
       injection hv674_0 with hva_ hvn_ hvc_
       rw [hva_] at ge674_0
       rw [hvc_] at ul674_0
       have HL674_0 := zM (show Kd.V (Kd.int .i64) 3 _ w.heap.size _ _ (rd_L2 t664 x9_2) from Kd.V_mk ul674_0 ge674_0)
       clear hva_ hvn_ hvc_ ge674_0 ul674_0 hcc674 hce674
       have HR674_0 := zM hi674_0
       have HC674_0 := zM hl674_0
       clear hi674_0 hl674_0
       go_wp2_with (first | (go_at_call 16; (with_reducible refine (laws_sameInts.calls k2 _ _ (rd_L2 t664 x8_1) _ _ (rd_L2 t664 x9_2) true _ ?side1 ?side2 ?side3 ?side4 A25.1).mono ?_); (case side1 => exact zC HR673_0.1); (case side2 => exact HC673_0.1); (case side3 => exact zC HR674_0.1); (case side4 => exact HC674_0.1); rintro e w' ⟨rfl, ⟨nd, rfl⟩⟩; (try first | exact ⟨rfl, _, World.drewN_drewN _ _ _⟩ | exact ⟨rfl, _, Eq.trans (World.drewN_drewN _ _ _) (congrArg (World.drewN _) (Nat.add_assoc _ _ _))⟩)))
       repeat (go_quiet (first | (go_at_call 16; (with_reducible refine (laws_sameInts.calls k2 _ _ (rd_L2 t664 x8_1) _ _ (rd_L2 t664 x9_2) true _ ?side1 ?side2 ?side3 ?side4 A25.1).mono ?_); (case side1 => exact zC HR673_0.1); (case side2 => exact HC673_0.1); (case side3 => exact zC HR674_0.1); (case side4 => exact HC674_0.1); rintro e w' ⟨rfl, ⟨nd, rfl⟩⟩; (try first | exact ⟨rfl, _, World.drewN_drewN _ _ _⟩ | exact ⟨rfl, _, Eq.trans (World.drewN_drewN _ _ _) (congrArg (World.drewN _) (Nat.add_assoc _ _ _))⟩))); try go_wp2_with (first | (go_at_call 16; (with_reducible refine (laws_sameInts.calls k2 _ _ (rd_L2 t664 x8_1) _ _ (rd_L2 t664 x9_2) true _ ?side1 ?side2 ?side3 ?side4 A25.1).mono ?_); (case side1 => exact zC HR673_0.1); (case side2 => exact HC673_0.1); (case side3 => exact zC HR674_0.1); (case side4 => exact HC674_0.1); rintro e w' ⟨rfl, ⟨nd, rfl⟩⟩; (try first | exact ⟨rfl, _, World.drewN_drewN _ _ _⟩ | exact ⟨rfl, _, Eq.trans (World.drewN_drewN _ _ _) (congrArg (World.drewN _) (Nat.add_assoc _ _ _))⟩))))
       go_ret
       exact ⟨zE, zB0⟩
      replace c26 := Bool.eq_false_iff.mpr c26
      subst c26
      rw [if_neg zF] at H
      have H' := zM H
      clear H
      obtain ⟨p673, q673, ad673, A673_0, c673_0, e673, hx673_0, hl673_0, hi673_0⟩ := zRd (at_L2 (Kd.N_reads' HO_6.1).2.2 x8_1)
      obtain rfl : ad670 = ad673 := (by injection e673)
      obtain ⟨ce673, hce673, hMe673, hcc673⟩ := Kd.N_get HO_6.1 [] x8_1 zA (by first | exact zA | (have e_ := (Kd.N_reads' HO_6.1).1; omega))
      obtain ⟨ua673_0, uc673_0, rfl, ul673_0, ge673_0⟩ := Kd.FK_slice_open hMe673
      have hv673_0 := hcc673 0 _ rfl
      rw [Nat.add_zero, show ((Kd.slice 3 (Kd.int .i64))).sz = 1 from rfl, Nat.mul_one] at hv673_0
      replace hv673_0 := Option.some.inj (hv673_0.symm.trans hx673_0)
      injection hv673_0 with hva_ hvn_ hvc_
      rw [hva_] at ge673_0
      rw [hvc_] at ul673_0
      have HL673_0 := zM (show Kd.V (Kd.int .i64) 3 _ w.heap.size _ _ (rd_L2 t664 x8_1) from Kd.V_mk ul673_0 ge673_0)
      clear hva_ hvn_ hvc_ ge673_0 ul673_0 hcc673 hce673
      have HR673_0 := zM hi673_0
      have HC673_0 := zM hl673_0
      clear hi673_0 hl673_0
      obtain ⟨p674, q674, ad674, A674_0, c674_0, e674, hx674_0, hl674_0, hi674_0⟩ := zRd (at_L2 (Kd.N_reads' HO_6.1).2.2 x9_2)
      obtain rfl : ad670 = ad674 := (by injection e674)
      obtain ⟨ce674, hce674, hMe674, hcc674⟩ := Kd.N_get HO_6.1 [] x9_2 zA (by first | exact zA | (have e_ := (Kd.N_reads' HO_6.1).1; omega))
      obtain ⟨ua674_0, uc674_0, rfl, ul674_0, ge674_0⟩ := Kd.FK_slice_open hMe674
      have hv674_0 := hcc674 0 _ rfl
      rw [Nat.add_zero, show ((Kd.slice 3 (Kd.int .i64))).sz = 1 from rfl, Nat.mul_one] at hv674_0
      replace hv674_0 := Option.some.inj (hv674_0.symm.trans hx674_0)
      injection hv674_0 with hva_ hvn_ hvc_
      rw [hva_] at ge674_0
      rw [hvc_] at ul674_0
      have HL674_0 := zM (show Kd.V (Kd.int .i64) 3 _ w.heap.size _ _ (rd_L2 t664 x9_2) from Kd.V_mk ul674_0 ge674_0)
      clear hva_ hvn_ hvc_ ge674_0 ul674_0 hcc674 hce674
      have HR674_0 := zM hi674_0
      have HC674_0 := zM hl674_0
      clear hi674_0 hl674_0
      go_wp2_with (first | (go_at_call 16; (with_reducible refine (laws_sameInts.calls k2 _ _ (rd_L2 t664 x8_1) _ _ (rd_L2 t664 x9_2) false _ ?side1 ?side2 ?side3 ?side4 A25.1).mono ?_); (case side1 => exact zC HR673_0.1); (case side2 => exact HC673_0.1); (case side3 => exact zC HR674_0.1); (case side4 => exact HC674_0.1); rintro e w' ⟨rfl, ⟨nd, rfl⟩⟩; (try first | exact ⟨rfl, _, World.drewN_drewN _ _ _⟩ | exact ⟨rfl, _, Eq.trans (World.drewN_drewN _ _ _) (congrArg (World.drewN _) (Nat.add_assoc _ _ _))⟩)))
      repeat (go_quiet (first | (go_at_call 16; (with_reducible refine (laws_sameInts.calls k2 _ _ (rd_L2 t664 x8_1) _ _ (rd_L2 t664 x9_2) false _ ?side1 ?side2 ?side3 ?side4 A25.1).mono ?_); (case side1 => exact zC HR673_0.1); (case side2 => exact HC673_0.1); (case side3 => exact zC HR674_0.1); (case side4 => exact HC674_0.1); rintro e w' ⟨rfl, ⟨nd, rfl⟩⟩; (try first | exact ⟨rfl, _, World.drewN_drewN _ _ _⟩ | exact ⟨rfl, _, Eq.trans (World.drewN_drewN _ _ _) (congrArg (World.drewN _) (Nat.add_assoc _ _ _))⟩))); try go_wp2_with (first | (go_at_call 16; (with_reducible refine (laws_sameInts.calls k2 _ _ (rd_L2 t664 x8_1) _ _ (rd_L2 t664 x9_2) false _ ?side1 ?side2 ?side3 ?side4 A25.1).mono ?_); (case side1 => exact zC HR673_0.1); (case side2 => exact HC673_0.1); (case side3 => exact zC HR674_0.1); (case side4 => exact HC674_0.1); rintro e w' ⟨rfl, ⟨nd, rfl⟩⟩; (try first | exact ⟨rfl, _, World.drewN_drewN _ _ _⟩ | exact ⟨rfl, _, Eq.trans (World.drewN_drewN _ _ _) (congrArg (World.drewN _) (Nat.add_assoc _ _ _))⟩))))
      go_roundg k2
      case measure => have := HK1.1; have := HK2.1; omega
      case rel => exact ⟨(wrap64 (x9_2 + 1)), zJJ, H', ⟨by have := HK1.1; have := HK2.1; omega⟩, ⟨zR HO_3.1⟩, ⟨by refine zrN ?_; exact HO_4.1⟩, ⟨by refine zrN ?_; exact HO_6.1⟩, ⟨by refine zrN ?_; exact HO_7.1⟩, ⟨zC HR670_0.1⟩, ⟨zC HR671_0.1⟩, ⟨zB0⟩⟩
   rw [if_neg c15] at H
   have c15b0 := decide_eq_false c15
   clear c15
   have HC27 := zM H
   clear H
   go_upto_region 18 with (fail)
   repeat (go_quiet (fail); go_upto_region 18 with (fail))
   go_cut [75] (fun v75 wc => ∃ (kq : Nat) (x75_26 : Bool), v75 = .bool x75_26 ∧ Aside0 (laws_FnAllEnds.j2 kq l0 t657 t660 t663 t664 x75_26 = some r) ∧ Aside0 (kq ≤ k1) ∧ Aside0 (Kd.R (Kd.int .i64) 3 wc w.heap.size (fun _ => True) (.slice Ao9 t657.length co9) t657) ∧ Aside0 (Kd.N k29 29 wc w.heap.size (fun k_ => some k_ ≠ ((.slice Ao9 t657.length co9) : Value).ownBlock ∧ some k_ ≠ ((.slice Ao13 t664.length co13) : Value).ownBlock) (.slice Ao10 t660.length co10) t660) ∧ Aside0 (Kd.N (Kd.slice 3 (Kd.int .i64)) 24 wc w.heap.size (fun k_ => some k_ ≠ ((.slice Ao9 t657.length co9) : Value).ownBlock ∧ some k_ ≠ ((.slice Ao10 t660.length co10) : Value).ownBlock) (.slice Ao13 t664.length co13) t664) ∧ Aside0 (Below w.heap.size w wc))
   case first =>
    have H := HC27.1
    clear HC27
    by_cases c28 : (t664.length : Int) = 0
    ·rw [if_pos c28] at H
     have c28b0 : ((t664.length : Int) == 0) = true := beq_iff_eq.mpr c28
     have c28b1 : ((t664.length : Int) != 0) = false := bne_eq_false_iff_eq.mpr c28
     clear c28
     (first | rw [c28b0] | (simp only [i64_w, i32_w]; rw [c28b0]) | skip)
     have H' := zM H
     clear H
     go_wp2
     repeat (go_quiet (fail); try go_wp2)
     go_meet
     case rel => exact ⟨_, (true), zJJ, H', ⟨by have := HK1.1; first | omega | exact Nat.le_refl _⟩, ⟨zR HO_3.1⟩, ⟨by refine zrN ?_; exact Kd.N_mono HO_4.1 (fun _ hk => ⟨hk.1, hk.2.1⟩)⟩, ⟨by refine zrN ?_; exact Kd.N_mono HO_6.1 (fun _ hk => ⟨hk.1, hk.2.1⟩)⟩, ⟨zB0⟩⟩
    rw [if_neg c28] at H
    have c28b0 : ((t664.length : Int) == 0) = false := beq_eq_false_iff_ne.mpr c28
    have c28b1 : ((t664.length : Int) != 0) = true := bne_iff_ne.mpr c28
    have c28b2 : ¬ (t664 = []) := fun h_ => c28 (by rw [h_]; rfl)
    (first | rw [c28b0] | (simp only [i64_w, i32_w]; rw [c28b0]) | skip)
    have H' := zM H
    clear H
    go_wp2
    repeat (go_quiet (fail); try go_wp2)
    go_meet
    case rel => exact ⟨_, (decide ((t664.length : Int) ≥ 40)), zJJ, H', ⟨by have := HK1.1; first | omega | exact Nat.le_refl _⟩, ⟨zR HO_3.1⟩, ⟨by refine zrN ?_; exact Kd.N_mono HO_4.1 (fun _ hk => ⟨hk.1, hk.2.1⟩)⟩, ⟨by refine zrN ?_; exact Kd.N_mono HO_6.1 (fun _ hk => ⟨hk.1, hk.2.1⟩)⟩, ⟨zB0⟩⟩
   case rest =>
    clear HC27
    obtain ⟨kq, x75_26, rfl, HA, HJ26, HO_3, HO_4, HO_6, HB⟩ := hcut
    cases kq with
    | zero => exact absurd HA.1 (by simp [laws_FnAllEnds.j2])
    | succ kj26 =>
     have H := HA.1
     clear HA
     simp only [laws_FnAllEnds.j2] at H
     by_cases c29 : x75_26 = true
     ·subst c29
      rw [if_pos rfl] at H
      obtain rfl := Option.some.inj H
      go_wp2
      repeat (go_quiet (fail); try go_wp2)
      go_ret
      exact ⟨zE, zB0⟩
     replace c29 := Bool.eq_false_iff.mpr c29
     subst c29
     rw [if_neg zF] at H
     have H' := zM H
     clear H
     go_wp2
     repeat (go_quiet (fail); try go_wp2)
     go_loopg [10, 11, 12] kj26 (fun kq v10 v11 v12 w' => ∃ (x10_3 : List Int) (x11_3 : List (S29)) (x12_3 : Int), v12 = .int .i64 x12_3 ∧ Aside0 (laws_FnAllEnds.l2 kq l0 t663 t664 x10_3 x11_3 x12_3 = some r) ∧ Aside0 (kq ≤ kj26) ∧ Aside0 (Kd.N (Kd.slice 3 (Kd.int .i64)) 24 w' w.heap.size (fun k_ => some k_ ≠ (v10 : Value).ownBlock ∧ some k_ ≠ (v11 : Value).ownBlock) (.slice Ao13 t664.length co13) t664) ∧ Aside0 (Kd.R (Kd.int .i64) 3 w' w.heap.size (fun _ => True) v10 x10_3) ∧ Aside0 (Kd.N k29 29 w' w.heap.size (fun k_ => some k_ ≠ ((.slice Ao13 t664.length co13) : Value).ownBlock ∧ some k_ ≠ (v10 : Value).ownBlock) v11 x11_3) ∧ Aside0 (Below w.heap.size w w'))
     case atStart => exact ⟨(t657), (t660), (0), zJJ, H', ⟨Nat.le_refl _⟩, ⟨by refine zrN ?_; exact HO_6.1⟩, ⟨zR HO_3.1⟩, ⟨by refine zrN ?_; exact Kd.N_mono HO_4.1 (fun _ hk => ⟨hk.2, hk.1⟩)⟩, ⟨zB0⟩⟩
     case round =>
      clear H'
      obtain ⟨x10_3, x11_3, x12_3, rfl, HA, HK3, HO_6, HO_10, HO_11, HB⟩ := hrel
      cases gk with
      | zero => exact absurd HA.1 (by simp [laws_FnAllEnds.l2])
      | succ k3 =>
       have H := HA.1
       clear HA
       simp only [laws_FnAllEnds.l2] at H
       by_cases c30 : x12_3 < t663
       rotate_left
       ·rw [if_neg c30] at H
        have c30b0 := decide_eq_false c30
        clear c30
        have H' := zM H
        clear H
        go_wp2
        repeat (go_quiet (fail); try go_wp2)
        go_loopg [16] k3 (fun kq v16 w' => ∃ (x16_4 : Int), v16 = .int .i64 x16_4 ∧ Aside0 (laws_FnAllEnds.l4 kq t664 x10_3 x16_4 = some r) ∧ Aside0 (kq ≤ k3) ∧ Aside0 (Kd.N (Kd.slice 3 (Kd.int .i64)) 24 w' w.heap.size (fun k_ => some k_ ≠ (u10 : Value).ownBlock) (.slice Ao13 t664.length co13) t664) ∧ Aside0 (Kd.R (Kd.int .i64) 3 w' w.heap.size (fun _ => True) u10 x10_3) ∧ Aside0 (Below w.heap.size w w'))
        case atStart => exact ⟨(0), zJJ, H', ⟨Nat.le_refl _⟩, ⟨by refine zrN ?_; exact Kd.N_mono HO_6.1 (fun _ hk => hk.1)⟩, ⟨zR HO_10.1⟩, ⟨zB0⟩⟩
        case round =>
         clear H'
         obtain ⟨x16_4, rfl, HA, HK4, HO_6, HO_10, HB⟩ := hrel
         cases gk with
         | zero => exact absurd HA.1 (by simp [laws_FnAllEnds.l4])
         | succ k4 =>
          have H := HA.1
          clear HA
          simp only [laws_FnAllEnds.l4] at H
          by_cases c47 : x16_4 < (t664.length : Int)
          rotate_left
          ·rw [if_neg c47] at H
           have c47b0 := decide_eq_false c47
           clear c47
           obtain rfl := Option.some.inj H
           go_wp2
           repeat (go_quiet (fail); try go_wp2)
           go_ret
           exact ⟨zE, zB0⟩
          rw [if_pos c47] at H
          have c47b0 := decide_eq_true c47
          clear c47
          replace H := zIt H
          obtain ⟨c48b0, H⟩ := H
          replace H := zO H
          obtain ⟨t688, A49, H⟩ := H
          by_cases c50 : t688 = true
          ·subst c50
           rw [if_pos rfl] at H
           obtain rfl := Option.some.inj H
           obtain ⟨p687, q687, ad687, A687_0, c687_0, e687, hx687_0, hl687_0, hi687_0⟩ := zRd (at_L2 (Kd.N_reads' HO_6.1).2.2 x16_4)
           cases e687
           obtain ⟨ce687, hce687, hMe687, hcc687⟩ := Kd.N_get HO_6.1 [] x16_4 zA (by first | exact zA | (have e_ := (Kd.N_reads' HO_6.1).1; omega))
           obtain ⟨ua687_0, uc687_0, rfl, ul687_0, ge687_0⟩ := Kd.FK_slice_open hMe687
           have hv687_0 := hcc687 0 _ rfl
           rw [Nat.add_zero, show ((Kd.slice 3 (Kd.int .i64))).sz = 1 from rfl, Nat.mul_one] at hv687_0
           replace hv687_0 := Option.some.inj (hv687_0.symm.trans hx687_0)
           injection hv687_0 with hva_ hvn_ hvc_
           rw [hva_] at ge687_0
           rw [hvc_] at ul687_0
           have HL687_0 := zM (show Kd.V (Kd.int .i64) 3 _ w.heap.size _ _ (rd_L2 t664 x16_4) from Kd.V_mk ul687_0 ge687_0)
           clear hva_ hvn_ hvc_ ge687_0 ul687_0 hcc687 hce687
           have HR687_0 := zM hi687_0
           have HC687_0 := zM hl687_0
           clear hi687_0 hl687_0
           obtain ⟨Ao51, co51, eo51⟩ := Kd.R_slice HO_10.1
           subst eo51
           go_wp2_with (first | (go_at_call 16; (with_reducible refine (laws_sameInts.calls k4 _ _ (rd_L2 t664 x16_4) _ _ x10_3 true _ ?side1 ?side2 ?side3 ?side4 A49.1).mono ?_); (case side1 => exact zC HR687_0.1); (case side2 => exact HC687_0.1); (case side3 => exact zC (Kd.R_reads' HO_10.1).2.2); (case side4 => exact (Kd.R_reads' HO_10.1).2.1); rintro e w' ⟨rfl, ⟨nd, rfl⟩⟩; (try first | exact ⟨rfl, _, World.drewN_drewN _ _ _⟩ | exact ⟨rfl, _, Eq.trans (World.drewN_drewN _ _ _) (congrArg (World.drewN _) (Nat.add_assoc _ _ _))⟩)))
           repeat (go_quiet (first | (go_at_call 16; (with_reducible refine (laws_sameInts.calls k4 _ _ (rd_L2 t664 x16_4) _ _ x10_3 true _ ?side1 ?side2 ?side3 ?side4 A49.1).mono ?_); (case side1 => exact zC HR687_0.1); (case side2 => exact HC687_0.1); (case side3 => exact zC (Kd.R_reads' HO_10.1).2.2); (case side4 => exact (Kd.R_reads' HO_10.1).2.1); rintro e w' ⟨rfl, ⟨nd, rfl⟩⟩; (try first | exact ⟨rfl, _, World.drewN_drewN _ _ _⟩ | exact ⟨rfl, _, Eq.trans (World.drewN_drewN _ _ _) (congrArg (World.drewN _) (Nat.add_assoc _ _ _))⟩))); try go_wp2_with (first | (go_at_call 16; (with_reducible refine (laws_sameInts.calls k4 _ _ (rd_L2 t664 x16_4) _ _ x10_3 true _ ?side1 ?side2 ?side3 ?side4 A49.1).mono ?_); (case side1 => exact zC HR687_0.1); (case side2 => exact HC687_0.1); (case side3 => exact zC (Kd.R_reads' HO_10.1).2.2); (case side4 => exact (Kd.R_reads' HO_10.1).2.1); rintro e w' ⟨rfl, ⟨nd, rfl⟩⟩; (try first | exact ⟨rfl, _, World.drewN_drewN _ _ _⟩ | exact ⟨rfl, _, Eq.trans (World.drewN_drewN _ _ _) (congrArg (World.drewN _) (Nat.add_assoc _ _ _))⟩))))
           go_ret
           exact ⟨zE, zB0⟩
          replace c50 := Bool.eq_false_iff.mpr c50
          subst c50
          rw [if_neg zF] at H
          have H' := zM H
          clear H
          obtain ⟨p687, q687, ad687, A687_0, c687_0, e687, hx687_0, hl687_0, hi687_0⟩ := zRd (at_L2 (Kd.N_reads' HO_6.1).2.2 x16_4)
          cases e687
          obtain ⟨ce687, hce687, hMe687, hcc687⟩ := Kd.N_get HO_6.1 [] x16_4 zA (by first | exact zA | (have e_ := (Kd.N_reads' HO_6.1).1; omega))
          obtain ⟨ua687_0, uc687_0, rfl, ul687_0, ge687_0⟩ := Kd.FK_slice_open hMe687
          have hv687_0 := hcc687 0 _ rfl
          rw [Nat.add_zero, show ((Kd.slice 3 (Kd.int .i64))).sz = 1 from rfl, Nat.mul_one] at hv687_0
          replace hv687_0 := Option.some.inj (hv687_0.symm.trans hx687_0)
          injection hv687_0 with hva_ hvn_ hvc_
          rw [hva_] at ge687_0
          rw [hvc_] at ul687_0
          have HL687_0 := zM (show Kd.V (Kd.int .i64) 3 _ w.heap.size _ _ (rd_L2 t664 x16_4) from Kd.V_mk ul687_0 ge687_0)
          clear hva_ hvn_ hvc_ ge687_0 ul687_0 hcc687 hce687
          have HR687_0 := zM hi687_0
          have HC687_0 := zM hl687_0
          clear hi687_0 hl687_0
          obtain ⟨Ao52, co52, eo52⟩ := Kd.R_slice HO_10.1
          subst eo52
          go_wp2_with (first | (go_at_call 16; (with_reducible refine (laws_sameInts.calls k4 _ _ (rd_L2 t664 x16_4) _ _ x10_3 false _ ?side1 ?side2 ?side3 ?side4 A49.1).mono ?_); (case side1 => exact zC HR687_0.1); (case side2 => exact HC687_0.1); (case side3 => exact zC (Kd.R_reads' HO_10.1).2.2); (case side4 => exact (Kd.R_reads' HO_10.1).2.1); rintro e w' ⟨rfl, ⟨nd, rfl⟩⟩; (try first | exact ⟨rfl, _, World.drewN_drewN _ _ _⟩ | exact ⟨rfl, _, Eq.trans (World.drewN_drewN _ _ _) (congrArg (World.drewN _) (Nat.add_assoc _ _ _))⟩)))
          repeat (go_quiet (first | (go_at_call 16; (with_reducible refine (laws_sameInts.calls k4 _ _ (rd_L2 t664 x16_4) _ _ x10_3 false _ ?side1 ?side2 ?side3 ?side4 A49.1).mono ?_); (case side1 => exact zC HR687_0.1); (case side2 => exact HC687_0.1); (case side3 => exact zC (Kd.R_reads' HO_10.1).2.2); (case side4 => exact (Kd.R_reads' HO_10.1).2.1); rintro e w' ⟨rfl, ⟨nd, rfl⟩⟩; (try first | exact ⟨rfl, _, World.drewN_drewN _ _ _⟩ | exact ⟨rfl, _, Eq.trans (World.drewN_drewN _ _ _) (congrArg (World.drewN _) (Nat.add_assoc _ _ _))⟩))); try go_wp2_with (first | (go_at_call 16; (with_reducible refine (laws_sameInts.calls k4 _ _ (rd_L2 t664 x16_4) _ _ x10_3 false _ ?side1 ?side2 ?side3 ?side4 A49.1).mono ?_); (case side1 => exact zC HR687_0.1); (case side2 => exact HC687_0.1); (case side3 => exact zC (Kd.R_reads' HO_10.1).2.2); (case side4 => exact (Kd.R_reads' HO_10.1).2.1); rintro e w' ⟨rfl, ⟨nd, rfl⟩⟩; (try first | exact ⟨rfl, _, World.drewN_drewN _ _ _⟩ | exact ⟨rfl, _, Eq.trans (World.drewN_drewN _ _ _) (congrArg (World.drewN _) (Nat.add_assoc _ _ _))⟩))))
          go_roundg k4
          case measure => have := HK1.1; have := HJ26.1; have := HK3.1; have := HK4.1; omega
          case rel => exact ⟨(wrap64 (x16_4 + 1)), zJJ, H', ⟨by have := HK1.1; have := HJ26.1; have := HK3.1; have := HK4.1; omega⟩, ⟨by refine zrN ?_; exact HO_6.1⟩, ⟨zR HO_10.1⟩, ⟨zB0⟩⟩
       rw [if_pos c30] at H
       have c30b0 := decide_eq_true c30
       clear c30
       have H' := zM H
       clear H
       go_wp2
       repeat (go_quiet (fail); try go_wp2)
       go_loopg [13, 14] k3 (fun kq v13 v14 w' => ∃ (x13_4 : Int) (x14_4 : Int), v13 = .int .i64 x13_4 ∧ v14 = .int .i64 x14_4 ∧ Aside0 (laws_FnAllEnds.l3 kq l0 t663 t664 x10_3 x11_3 x12_3 x13_4 x14_4 = some r) ∧ Aside0 (kq ≤ k3) ∧ Aside0 (Kd.N (Kd.slice 3 (Kd.int .i64)) 24 w' w.heap.size (fun k_ => some k_ ≠ (u10 : Value).ownBlock ∧ some k_ ≠ (u11 : Value).ownBlock) (.slice Ao13 t664.length co13) t664) ∧ Aside0 (Kd.R (Kd.int .i64) 3 w' w.heap.size (fun _ => True) u10 x10_3) ∧ Aside0 (Kd.N k29 29 w' w.heap.size (fun k_ => some k_ ≠ ((.slice Ao13 t664.length co13) : Value).ownBlock ∧ some k_ ≠ (u10 : Value).ownBlock) u11 x11_3) ∧ Aside0 (Below w.heap.size w w'))
       case atStart => exact ⟨((-1)), (0), zJJ, zJJ, H', ⟨Nat.le_refl _⟩, ⟨by refine zrN ?_; exact HO_6.1⟩, ⟨zR HO_10.1⟩, ⟨by refine zrN ?_; exact HO_11.1⟩, ⟨zB0⟩⟩
       case round =>
        clear H'
        obtain ⟨x13_4, x14_4, rfl, rfl, HA, HK4, HO_6, HO_10, HO_11, HB⟩ := hrel
        cases gk with
        | zero => exact absurd HA.1 (by simp [laws_FnAllEnds.l3])
        | succ k4 =>
         have H := HA.1
         clear HA
         simp only [laws_FnAllEnds.l3] at H
         by_cases c31 : x14_4 < (x11_3.length : Int)
         ·rw [if_pos c31] at H
          have c31b0 := decide_eq_true c31
          clear c31
          replace H := zO H
          obtain ⟨t676, A32, H⟩ := H
          by_cases c33 : (x11_3.length : Int) = 0
          ·rw [if_pos c33] at H
           exact absurd H (by simp)
          rw [if_neg c33] at H
          have c33b0 : ((x11_3.length : Int) == 0) = false := beq_eq_false_iff_ne.mpr c33
          have c33b1 : ((x11_3.length : Int) != 0) = true := bne_iff_ne.mpr c33
          have c33b2 : ¬ (x11_3 = []) := fun h_ => c33 (by rw [h_]; rfl)
          obtain ⟨ji34, hji34⟩ : ∃ j_ : Int, (Int.tmod (wrap64 (x14_4 + t676)) (x11_3.length : Int)) = j_ := ⟨_, rfl⟩
          replace H : (if 0 ≤ (ji34) then (if (ji34) < (x11_3.length : Int) then (if ((rd_T29 x11_3 (ji34)).f2) = 0 then (laws_FnAllEnds.l3 k4 l0 t663 t664 x10_3 x11_3 x12_3 ji34 (wrap64 (x14_4 + 1))) else (laws_FnAllEnds.l3 k4 l0 t663 t664 x10_3 x11_3 x12_3 x13_4 (wrap64 (x14_4 + 1)))) else (none)) else (none)) = some r := by first | (rw [hji34] at H; exact H) | (simp only [hji34] at H ⊢; exact H)
          (try rw [hji34] at A32)
          replace H := zIt H
          obtain ⟨c35b0, H⟩ := H
          replace H := zIt H
          obtain ⟨c36b0, H⟩ := H
          by_cases c37 : ((rd_T29 x11_3 (ji34)).f2) = 0
          rotate_left
          ·rw [if_neg c37] at H
           have c37b0 : (((rd_T29 x11_3 (ji34)).f2) == 0) = false := beq_eq_false_iff_ne.mpr c37
           have c37b1 : (((rd_T29 x11_3 (ji34)).f2) != 0) = true := bne_iff_ne.mpr c37
           have H' := zM H
           clear H
           obtain ⟨Ao39, co39, eo39⟩ := Kd.N_slice HO_11.1
           subst eo39
           go_wp2_with (first | (go_at_call 14; (with_reducible refine (laws_at.calls _ _ l0 x12_3 t676 _ ?side1 ?side2 A32.1).mono ?_); (case side1 => exact zC (Kd.C_below HR0.1 HB.1)); (case side2 => exact HC0.1); rintro e w' ⟨rfl, ⟨nd, rfl⟩⟩; (try first | exact ⟨rfl, _, World.drewN_drewN _ _ _⟩ | exact ⟨rfl, _, Eq.trans (World.drewN_drewN _ _ _) (congrArg (World.drewN _) (Nat.add_assoc _ _ _))⟩); obtain ⟨p677, q677, ad677, A677_0, c677_0, e677, hx677_0, hx677_1, hx677_2, hl677_0, hi677_0⟩ := zRd (at_T29 (Kd.N_reads' HO_11.1).2.2 (ji34)); cases e677; obtain ⟨ce677, hce677, hMe677, hcc677⟩ := Kd.N_get HO_11.1 z29 (ji34) zA (by first | exact zA | (have e_ := (Kd.N_reads' HO_11.1).1; omega)); obtain ⟨ua677_0, uc677_0, rfl, ul677_0, ge677_0⟩ := k29_openF hMe677; have hv677_0 := hcc677 0 _ rfl; rw [Nat.add_zero] at hv677_0; replace hv677_0 := Option.some.inj (hv677_0.symm.trans hx677_0); injection hv677_0 with hva_ hvn_ hvc_; rw [hva_] at ge677_0; rw [hvc_] at ul677_0; have HL677_0 := zM (show Kd.V (Kd.int .i64) 3 _ w.heap.size _ _ ((rd_T29 x11_3 (ji34)).f0) from Kd.V_mk ul677_0 ge677_0); clear hva_ hvn_ hvc_ ge677_0 ul677_0; clear hcc677 hce677; have HR677_0 := zM hi677_0; have HC677_0 := zM hl677_0; clear hi677_0 hl677_0))
           repeat (go_quiet (first | (go_at_call 14; (with_reducible refine (laws_at.calls _ _ l0 x12_3 t676 _ ?side1 ?side2 A32.1).mono ?_); (case side1 => exact zC (Kd.C_below HR0.1 HB.1)); (case side2 => exact HC0.1); rintro e w' ⟨rfl, ⟨nd, rfl⟩⟩; (try first | exact ⟨rfl, _, World.drewN_drewN _ _ _⟩ | exact ⟨rfl, _, Eq.trans (World.drewN_drewN _ _ _) (congrArg (World.drewN _) (Nat.add_assoc _ _ _))⟩); have p677 : 0 ≤ ((ji34) : Int) := zA; have q677 : (ji34) < (x11_3.length : Int) := zA; obtain ⟨ad677, A677_0, c677_0, e677, hx677_0, hx677_1, hx677_2, hl677_0, hi677_0⟩ := at_T29 (Kd.N_reads' HO_11.1).2.2 (ji34) p677 q677; cases e677; obtain ⟨ce677, hce677, hMe677, hcc677⟩ := Kd.N_get HO_11.1 z29 (ji34) p677 (by first | exact q677 | exact zA | (have e_ := (Kd.N_reads' HO_11.1).1; omega)); obtain ⟨ua677_0, uc677_0, rfl, ul677_0, ge677_0⟩ := k29_openF hMe677; have hv677_0 := hcc677 0 _ rfl; rw [Nat.add_zero] at hv677_0; replace hv677_0 := Option.some.inj (hv677_0.symm.trans hx677_0); injection hv677_0 with hva_ hvn_ hvc_; rw [hva_] at ge677_0; rw [hvc_] at ul677_0; have HL677_0 := zM (show Kd.V (Kd.int .i64) 3 _ w.heap.size _ _ ((rd_T29 x11_3 (ji34)).f0) from Kd.V_mk ul677_0 ge677_0); clear hva_ hvn_ hvc_ ge677_0 ul677_0; clear hcc677 hce677; have HR677_0 := zM hi677_0; have HC677_0 := zM hl677_0; clear hi677_0 hl677_0; replace p677 := eq_true p677; replace q677 := eq_true q677)); try go_wp2_with (first | (go_at_call 14; (with_reducible refine (laws_at.calls _ _ l0 x12_3 t676 _ ?side1 ?side2 A32.1).mono ?_); (case side1 => exact zC (Kd.C_below HR0.1 HB.1)); (case side2 => exact HC0.1); rintro e w' ⟨rfl, ⟨nd, rfl⟩⟩; (try first | exact ⟨rfl, _, World.drewN_drewN _ _ _⟩ | exact ⟨rfl, _, Eq.trans (World.drewN_drewN _ _ _) (congrArg (World.drewN _) (Nat.add_assoc _ _ _))⟩); have p677 : 0 ≤ ((ji34) : Int) := zA; have q677 : (ji34) < (x11_3.length : Int) := zA; obtain ⟨ad677, A677_0, c677_0, e677, hx677_0, hx677_1, hx677_2, hl677_0, hi677_0⟩ := at_T29 (Kd.N_reads' HO_11.1).2.2 (ji34) p677 q677; cases e677; obtain ⟨ce677, hce677, hMe677, hcc677⟩ := Kd.N_get HO_11.1 z29 (ji34) p677 (by first | exact q677 | exact zA | (have e_ := (Kd.N_reads' HO_11.1).1; omega)); obtain ⟨ua677_0, uc677_0, rfl, ul677_0, ge677_0⟩ := k29_openF hMe677; have hv677_0 := hcc677 0 _ rfl; rw [Nat.add_zero] at hv677_0; replace hv677_0 := Option.some.inj (hv677_0.symm.trans hx677_0); injection hv677_0 with hva_ hvn_ hvc_; rw [hva_] at ge677_0; rw [hvc_] at ul677_0; have HL677_0 := zM (show Kd.V (Kd.int .i64) 3 _ w.heap.size _ _ ((rd_T29 x11_3 (ji34)).f0) from Kd.V_mk ul677_0 ge677_0); clear hva_ hvn_ hvc_ ge677_0 ul677_0; clear hcc677 hce677; have HR677_0 := zM hi677_0; have HC677_0 := zM hl677_0; clear hi677_0 hl677_0; replace p677 := eq_true p677; replace q677 := eq_true q677)))
           go_roundg k4
           case measure => have := HK1.1; have := HJ26.1; have := HK3.1; have := HK4.1; omega
           case rel => exact ⟨(x13_4), (wrap64 (x14_4 + 1)), zJJ, zJJ, H', ⟨by have := HK1.1; have := HJ26.1; have := HK3.1; have := HK4.1; omega⟩, ⟨by refine zrN ?_; exact HO_6.1⟩, ⟨zR HO_10.1⟩, ⟨by refine zrN ?_; exact HO_11.1⟩, ⟨zB0⟩⟩
          rw [if_pos c37] at H
          have c37b0 : (((rd_T29 x11_3 (ji34)).f2) == 0) = true := beq_iff_eq.mpr c37
          have c37b1 : (((rd_T29 x11_3 (ji34)).f2) != 0) = false := bne_eq_false_iff_eq.mpr c37
          clear c37
          have H' := zM H
          clear H
          obtain ⟨Ao38, co38, eo38⟩ := Kd.N_slice HO_11.1
          subst eo38
          go_wp2_with (first | (go_at_call 14; (with_reducible refine (laws_at.calls _ _ l0 x12_3 t676 _ ?side1 ?side2 A32.1).mono ?_); (case side1 => exact zC (Kd.C_below HR0.1 HB.1)); (case side2 => exact HC0.1); rintro e w' ⟨rfl, ⟨nd, rfl⟩⟩; (try first | exact ⟨rfl, _, World.drewN_drewN _ _ _⟩ | exact ⟨rfl, _, Eq.trans (World.drewN_drewN _ _ _) (congrArg (World.drewN _) (Nat.add_assoc _ _ _))⟩); obtain ⟨p677, q677, ad677, A677_0, c677_0, e677, hx677_0, hx677_1, hx677_2, hl677_0, hi677_0⟩ := zRd (at_T29 (Kd.N_reads' HO_11.1).2.2 (ji34)); cases e677; obtain ⟨ce677, hce677, hMe677, hcc677⟩ := Kd.N_get HO_11.1 z29 (ji34) zA (by first | exact zA | (have e_ := (Kd.N_reads' HO_11.1).1; omega)); obtain ⟨ua677_0, uc677_0, rfl, ul677_0, ge677_0⟩ := k29_openF hMe677; have hv677_0 := hcc677 0 _ rfl; rw [Nat.add_zero] at hv677_0; replace hv677_0 := Option.some.inj (hv677_0.symm.trans hx677_0); injection hv677_0 with hva_ hvn_ hvc_; rw [hva_] at ge677_0; rw [hvc_] at ul677_0; have HL677_0 := zM (show Kd.V (Kd.int .i64) 3 _ w.heap.size _ _ ((rd_T29 x11_3 (ji34)).f0) from Kd.V_mk ul677_0 ge677_0); clear hva_ hvn_ hvc_ ge677_0 ul677_0; clear hcc677 hce677; have HR677_0 := zM hi677_0; have HC677_0 := zM hl677_0; clear hi677_0 hl677_0))
          repeat (go_quiet (first | (go_at_call 14; (with_reducible refine (laws_at.calls _ _ l0 x12_3 t676 _ ?side1 ?side2 A32.1).mono ?_); (case side1 => exact zC (Kd.C_below HR0.1 HB.1)); (case side2 => exact HC0.1); rintro e w' ⟨rfl, ⟨nd, rfl⟩⟩; (try first | exact ⟨rfl, _, World.drewN_drewN _ _ _⟩ | exact ⟨rfl, _, Eq.trans (World.drewN_drewN _ _ _) (congrArg (World.drewN _) (Nat.add_assoc _ _ _))⟩); have p677 : 0 ≤ ((ji34) : Int) := zA; have q677 : (ji34) < (x11_3.length : Int) := zA; obtain ⟨ad677, A677_0, c677_0, e677, hx677_0, hx677_1, hx677_2, hl677_0, hi677_0⟩ := at_T29 (Kd.N_reads' HO_11.1).2.2 (ji34) p677 q677; cases e677; obtain ⟨ce677, hce677, hMe677, hcc677⟩ := Kd.N_get HO_11.1 z29 (ji34) p677 (by first | exact q677 | exact zA | (have e_ := (Kd.N_reads' HO_11.1).1; omega)); obtain ⟨ua677_0, uc677_0, rfl, ul677_0, ge677_0⟩ := k29_openF hMe677; have hv677_0 := hcc677 0 _ rfl; rw [Nat.add_zero] at hv677_0; replace hv677_0 := Option.some.inj (hv677_0.symm.trans hx677_0); injection hv677_0 with hva_ hvn_ hvc_; rw [hva_] at ge677_0; rw [hvc_] at ul677_0; have HL677_0 := zM (show Kd.V (Kd.int .i64) 3 _ w.heap.size _ _ ((rd_T29 x11_3 (ji34)).f0) from Kd.V_mk ul677_0 ge677_0); clear hva_ hvn_ hvc_ ge677_0 ul677_0; clear hcc677 hce677; have HR677_0 := zM hi677_0; have HC677_0 := zM hl677_0; clear hi677_0 hl677_0; replace p677 := eq_true p677; replace q677 := eq_true q677)); try go_wp2_with (first | (go_at_call 14; (with_reducible refine (laws_at.calls _ _ l0 x12_3 t676 _ ?side1 ?side2 A32.1).mono ?_); (case side1 => exact zC (Kd.C_below HR0.1 HB.1)); (case side2 => exact HC0.1); rintro e w' ⟨rfl, ⟨nd, rfl⟩⟩; (try first | exact ⟨rfl, _, World.drewN_drewN _ _ _⟩ | exact ⟨rfl, _, Eq.trans (World.drewN_drewN _ _ _) (congrArg (World.drewN _) (Nat.add_assoc _ _ _))⟩); have p677 : 0 ≤ ((ji34) : Int) := zA; have q677 : (ji34) < (x11_3.length : Int) := zA; obtain ⟨ad677, A677_0, c677_0, e677, hx677_0, hx677_1, hx677_2, hl677_0, hi677_0⟩ := at_T29 (Kd.N_reads' HO_11.1).2.2 (ji34) p677 q677; cases e677; obtain ⟨ce677, hce677, hMe677, hcc677⟩ := Kd.N_get HO_11.1 z29 (ji34) p677 (by first | exact q677 | exact zA | (have e_ := (Kd.N_reads' HO_11.1).1; omega)); obtain ⟨ua677_0, uc677_0, rfl, ul677_0, ge677_0⟩ := k29_openF hMe677; have hv677_0 := hcc677 0 _ rfl; rw [Nat.add_zero] at hv677_0; replace hv677_0 := Option.some.inj (hv677_0.symm.trans hx677_0); injection hv677_0 with hva_ hvn_ hvc_; rw [hva_] at ge677_0; rw [hvc_] at ul677_0; have HL677_0 := zM (show Kd.V (Kd.int .i64) 3 _ w.heap.size _ _ ((rd_T29 x11_3 (ji34)).f0) from Kd.V_mk ul677_0 ge677_0); clear hva_ hvn_ hvc_ ge677_0 ul677_0; clear hcc677 hce677; have HR677_0 := zM hi677_0; have HC677_0 := zM hl677_0; clear hi677_0 hl677_0; replace p677 := eq_true p677; replace q677 := eq_true q677)))
          go_roundg k4
          case measure => have := HK1.1; have := HJ26.1; have := HK3.1; have := HK4.1; omega
          case rel => exact ⟨(ji34), (wrap64 (x14_4 + 1)), (by first | rfl | (simp; done) | (simp only [← hji34] <;> (first | rfl | simp)) | (simp [*]; done)), zJJ, H', ⟨by have := HK1.1; have := HJ26.1; have := HK3.1; have := HK4.1; omega⟩, ⟨by refine zrN ?_; exact HO_6.1⟩, ⟨zR HO_10.1⟩, ⟨by refine zrN ?_; exact HO_11.1⟩, ⟨zB0⟩⟩
         rw [if_neg c31] at H
         have c31b0 := decide_eq_false c31
         clear c31
         generalize hy678 : ((([x13_4] : List Int)) : List Int) = y678 at H
         have Ny678 := zM hy678.symm
         clear hy678
         replace H := zO H
         obtain ⟨⟨t681, t682⟩, A40, H⟩ := H
         try dsimp only at H
         have H' := zM H
         clear H
         obtain ⟨Ao41, co41, eo41⟩ := Kd.N_slice HO_11.1
         subst eo41
         go_wp2_with (first | ((with_reducible refine gate_dst (N := 111) rfl ?_); (try (refine gate_guard (by rfl) ?_; dsimp only)); refine Kd.R_lit (Kd.int .i64) _ 3 ?hg (N := 111) ?hd (xs := ([x13_4] : List Int)) (inner := [.int .i64 x13_4]) (ok := fun _ => True) (okp := fun _ => True) ?hr ?hp (fun _ hk => hk) trivial (Below.refl _ _) (Nat.le_refl _) (by simp) ?_; (case hd => rfl); (case hg => rfl); (case hr => exact zHH); (case hp => exact (Reps.one (show Kd.M (Kd.int .i64) _ _ _ x13_4 [.int .i64 x13_4] from rfl) (Reps.none _ _))); intro v679 w42 ho43 hb hg_ hnew_; clear hg_ hnew_; (first | rw [← Ny678.1] at ho43 | (simp only [Int.reduceToNat] at ho43; rw [← Ny678.1] at ho43)); replace HO_6 := zM (Kd.N_elder' (by refine zrN ?_; exact HO_6.1) (Kd.R_base ho43) hb); replace HO_11 := zM (Kd.N_elder' (by refine zrN ?_; exact HO_11.1) (Kd.R_base ho43) hb); have HO680 := zM (Kd.R_lower (Kd.R_new' ho43 (Kd.R_lt (zR HO_10.1))) (below_size zB0)); replace HO_10 := zM (Kd.R_elder' (zR HO_10.1) (Kd.R_base ho43) hb); replace HB := zM (below_step zB0 hb); clear hb ho43; obtain ⟨Ao44, co44, eo44⟩ := Kd.R_slice HO_10.1; subst eo44; obtain ⟨Ao45, co45, eo45⟩ := Kd.R_slice HO680.1; subst eo45) | (go_at_call 33; (with_reducible refine (impl_FlatRun.calls k4 _ _ x10_3 _ _ x11_3 _ _ y678 t681 t682 _ ?side1 ?side2 ?side3 ?side4 ?side5 ?side6 A40.1).mono ?_); (case side1 => exact zC (Kd.R_reads' HO_10.1).2.2); (case side2 => exact (Kd.R_reads' HO_10.1).2.1); (case side3 => exact zC (Kd.N_reads' HO_11.1).2.2); (case side4 => exact (Kd.N_reads' HO_11.1).2.1); (case side5 => exact zC (Kd.R_reads' HO680.1).2.2); (case side6 => exact (Kd.R_reads' HO680.1).2.1); rintro e w46 ⟨v683, v685, rfl, ho0, ho1, hb⟩; have HO684 := zM (Kd.R_lower (Kd.R_new' (Kd.R_new' ho0 (Kd.R_lt (zR HO_10.1))) (Kd.R_lt (zR HO680.1))) (below_size zB0)); have HO686 := zM (Kd.N_lower (Kd.N_mono (ok' := fun k_ => some k_ ≠ (v683 : Value).ownBlock ∧ some k_ ≠ (.slice Ao13 t664.length co13 : Value).ownBlock ∧ some k_ ≠ (.slice Ao44 x10_3.length co44 : Value).ownBlock ∧ some k_ ≠ (.slice Ao41 x11_3.length co41 : Value).ownBlock ∧ some k_ ≠ (.slice Ao45 y678.length co45 : Value).ownBlock) (Kd.S_N (Kd.S_bound ho1)) (fun k_ hk_ => ⟨hk_.1, (Kd.fresh' (Kd.N_lt (by refine zrN ?_; exact HO_6.1)) k_ hk_.2.1), (Kd.fresh' (Kd.R_lt (zR HO_10.1)) k_ hk_.2.1), (Kd.fresh' (Kd.N_lt (by refine zrN ?_; exact HO_11.1)) k_ hk_.2.1), (Kd.fresh' (Kd.R_lt (zR HO680.1)) k_ hk_.2.1)⟩)) (below_size zB0)); replace HO_6 := zM (Kd.N_mono (Kd.N_told (Kd.N_told (Kd.N_old (by refine zrN ?_; exact HO_6.1) hb) (Kd.R_base ho0)) (Kd.S_base ho1)) (fun _ h_ => h_.1)); replace HO_10 := zM (Kd.R_elder' (zR HO_10.1) (Kd.R_base ho0) hb); replace HO_11 := zM (Kd.N_mono (Kd.N_told (Kd.N_told (Kd.N_old (by refine zrN ?_; exact HO_11.1) hb) (Kd.R_base ho0)) (Kd.S_base ho1)) (fun _ h_ => h_.1)); replace HO680 := zM (Kd.R_elder' (zR HO680.1) (Kd.R_base ho0) hb); replace HB := zM (below_step zB0 hb); clear hb ho0 ho1))
         repeat (go_quiet (first | ((with_reducible refine gate_dst (N := 111) rfl ?_); (try (refine gate_guard (by rfl) ?_; dsimp only)); refine Kd.R_lit (Kd.int .i64) _ 3 ?hg (N := 111) ?hd (xs := ([x13_4] : List Int)) (inner := [.int .i64 x13_4]) (ok := fun _ => True) (okp := fun _ => True) ?hr ?hp (fun _ hk => hk) trivial (Below.refl _ _) (Nat.le_refl _) (by simp) ?_; (case hd => rfl); (case hg => rfl); (case hr => exact zHH); (case hp => exact (Reps.one (show Kd.M (Kd.int .i64) _ _ _ x13_4 [.int .i64 x13_4] from rfl) (Reps.none _ _))); intro v679 w42 ho43 hb hg_ hnew_; clear hg_ hnew_; (first | rw [← Ny678.1] at ho43 | (simp only [Int.reduceToNat] at ho43; rw [← Ny678.1] at ho43)); replace HO_6 := zM (Kd.N_elder' (by refine zrN ?_; exact HO_6.1) (Kd.R_base ho43) hb); replace HO_11 := zM (Kd.N_elder' (by refine zrN ?_; exact HO_11.1) (Kd.R_base ho43) hb); have HO680 := zM (Kd.R_lower (Kd.R_new' ho43 (Kd.R_lt (zR HO_10.1))) (below_size zB0)); replace HO_10 := zM (Kd.R_elder' (zR HO_10.1) (Kd.R_base ho43) hb); replace HB := zM (below_step zB0 hb); clear hb ho43; obtain ⟨Ao44, co44, eo44⟩ := Kd.R_slice HO_10.1; subst eo44; obtain ⟨Ao45, co45, eo45⟩ := Kd.R_slice HO680.1; subst eo45) | (go_at_call 33; (with_reducible refine (impl_FlatRun.calls k4 _ _ x10_3 _ _ x11_3 _ _ y678 t681 t682 _ ?side1 ?side2 ?side3 ?side4 ?side5 ?side6 A40.1).mono ?_); (case side1 => exact zC (Kd.R_reads' HO_10.1).2.2); (case side2 => exact (Kd.R_reads' HO_10.1).2.1); (case side3 => exact zC (Kd.N_reads' HO_11.1).2.2); (case side4 => exact (Kd.N_reads' HO_11.1).2.1); (case side5 => exact zC (Kd.R_reads' HO680.1).2.2); (case side6 => exact (Kd.R_reads' HO680.1).2.1); rintro e w46 ⟨v683, v685, rfl, ho0, ho1, hb⟩; have HO684 := zM (Kd.R_lower (Kd.R_new' (Kd.R_new' ho0 (Kd.R_lt (zR HO_10.1))) (Kd.R_lt (zR HO680.1))) (below_size zB0)); have HO686 := zM (Kd.N_lower (Kd.N_mono (ok' := fun k_ => some k_ ≠ (v683 : Value).ownBlock ∧ some k_ ≠ (.slice Ao13 t664.length co13 : Value).ownBlock ∧ some k_ ≠ (.slice Ao44 x10_3.length co44 : Value).ownBlock ∧ some k_ ≠ (.slice Ao41 x11_3.length co41 : Value).ownBlock ∧ some k_ ≠ (.slice Ao45 y678.length co45 : Value).ownBlock) (Kd.S_N (Kd.S_bound ho1)) (fun k_ hk_ => ⟨hk_.1, (Kd.fresh' (Kd.N_lt (by refine zrN ?_; exact HO_6.1)) k_ hk_.2.1), (Kd.fresh' (Kd.R_lt (zR HO_10.1)) k_ hk_.2.1), (Kd.fresh' (Kd.N_lt (by refine zrN ?_; exact HO_11.1)) k_ hk_.2.1), (Kd.fresh' (Kd.R_lt (zR HO680.1)) k_ hk_.2.1)⟩)) (below_size zB0)); replace HO_6 := zM (Kd.N_mono (Kd.N_told (Kd.N_told (Kd.N_old (by refine zrN ?_; exact HO_6.1) hb) (Kd.R_base ho0)) (Kd.S_base ho1)) (fun _ h_ => h_.1)); replace HO_10 := zM (Kd.R_elder' (zR HO_10.1) (Kd.R_base ho0) hb); replace HO_11 := zM (Kd.N_mono (Kd.N_told (Kd.N_told (Kd.N_old (by refine zrN ?_; exact HO_11.1) hb) (Kd.R_base ho0)) (Kd.S_base ho1)) (fun _ h_ => h_.1)); replace HO680 := zM (Kd.R_elder' (zR HO680.1) (Kd.R_base ho0) hb); replace HB := zM (below_step zB0 hb); clear hb ho0 ho1)); try go_wp2_with (first | ((with_reducible refine gate_dst (N := 111) rfl ?_); (try (refine gate_guard (by rfl) ?_; dsimp only)); refine Kd.R_lit (Kd.int .i64) _ 3 ?hg (N := 111) ?hd (xs := ([x13_4] : List Int)) (inner := [.int .i64 x13_4]) (ok := fun _ => True) (okp := fun _ => True) ?hr ?hp (fun _ hk => hk) trivial (Below.refl _ _) (Nat.le_refl _) (by simp) ?_; (case hd => rfl); (case hg => rfl); (case hr => exact zHH); (case hp => exact (Reps.one (show Kd.M (Kd.int .i64) _ _ _ x13_4 [.int .i64 x13_4] from rfl) (Reps.none _ _))); intro v679 w42 ho43 hb hg_ hnew_; clear hg_ hnew_; (first | rw [← Ny678.1] at ho43 | (simp only [Int.reduceToNat] at ho43; rw [← Ny678.1] at ho43)); replace HO_6 := zM (Kd.N_elder' (by refine zrN ?_; exact HO_6.1) (Kd.R_base ho43) hb); replace HO_11 := zM (Kd.N_elder' (by refine zrN ?_; exact HO_11.1) (Kd.R_base ho43) hb); have HO680 := zM (Kd.R_lower (Kd.R_new' ho43 (Kd.R_lt (zR HO_10.1))) (below_size zB0)); replace HO_10 := zM (Kd.R_elder' (zR HO_10.1) (Kd.R_base ho43) hb); replace HB := zM (below_step zB0 hb); clear hb ho43; obtain ⟨Ao44, co44, eo44⟩ := Kd.R_slice HO_10.1; subst eo44; obtain ⟨Ao45, co45, eo45⟩ := Kd.R_slice HO680.1; subst eo45) | (go_at_call 33; (with_reducible refine (impl_FlatRun.calls k4 _ _ x10_3 _ _ x11_3 _ _ y678 t681 t682 _ ?side1 ?side2 ?side3 ?side4 ?side5 ?side6 A40.1).mono ?_); (case side1 => exact zC (Kd.R_reads' HO_10.1).2.2); (case side2 => exact (Kd.R_reads' HO_10.1).2.1); (case side3 => exact zC (Kd.N_reads' HO_11.1).2.2); (case side4 => exact (Kd.N_reads' HO_11.1).2.1); (case side5 => exact zC (Kd.R_reads' HO680.1).2.2); (case side6 => exact (Kd.R_reads' HO680.1).2.1); rintro e w46 ⟨v683, v685, rfl, ho0, ho1, hb⟩; have HO684 := zM (Kd.R_lower (Kd.R_new' (Kd.R_new' ho0 (Kd.R_lt (zR HO_10.1))) (Kd.R_lt (zR HO680.1))) (below_size zB0)); have HO686 := zM (Kd.N_lower (Kd.N_mono (ok' := fun k_ => some k_ ≠ (v683 : Value).ownBlock ∧ some k_ ≠ (.slice Ao13 t664.length co13 : Value).ownBlock ∧ some k_ ≠ (.slice Ao44 x10_3.length co44 : Value).ownBlock ∧ some k_ ≠ (.slice Ao41 x11_3.length co41 : Value).ownBlock ∧ some k_ ≠ (.slice Ao45 y678.length co45 : Value).ownBlock) (Kd.S_N (Kd.S_bound ho1)) (fun k_ hk_ => ⟨hk_.1, (Kd.fresh' (Kd.N_lt (by refine zrN ?_; exact HO_6.1)) k_ hk_.2.1), (Kd.fresh' (Kd.R_lt (zR HO_10.1)) k_ hk_.2.1), (Kd.fresh' (Kd.N_lt (by refine zrN ?_; exact HO_11.1)) k_ hk_.2.1), (Kd.fresh' (Kd.R_lt (zR HO680.1)) k_ hk_.2.1)⟩)) (below_size zB0)); replace HO_6 := zM (Kd.N_mono (Kd.N_told (Kd.N_told (Kd.N_old (by refine zrN ?_; exact HO_6.1) hb) (Kd.R_base ho0)) (Kd.S_base ho1)) (fun _ h_ => h_.1)); replace HO_10 := zM (Kd.R_elder' (zR HO_10.1) (Kd.R_base ho0) hb); replace HO_11 := zM (Kd.N_mono (Kd.N_told (Kd.N_told (Kd.N_old (by refine zrN ?_; exact HO_11.1) hb) (Kd.R_base ho0)) (Kd.S_base ho1)) (fun _ h_ => h_.1)); replace HO680 := zM (Kd.R_elder' (zR HO680.1) (Kd.R_base ho0) hb); replace HB := zM (below_step zB0 hb); clear hb ho0 ho1)))
         go_roundg k4
         case measure => have := HK1.1; have := HJ26.1; have := HK3.1; have := HK4.1; omega
         case rel => exact ⟨(t681), (t682), (wrap64 (x12_3 + 1)), zJJ, H', ⟨by have := HK1.1; have := HJ26.1; have := HK3.1; have := HK4.1; omega⟩, ⟨by refine zrN ?_; exact Kd.N_mono HO_6.1 (fun _ hk => ⟨hk.1.2, hk.2⟩)⟩, ⟨by refine zrR ?_; exact Kd.R_mono HO684.1 (fun _ hk => trivial)⟩, ⟨by refine zrN ?_; exact Kd.N_mono HO686.1 (fun _ hk => ⟨hk.2.1, hk.1⟩)⟩, ⟨zB0⟩⟩

/-- THE ONE PURE STATEMENT of laws_FnAllEnds: yours. -/
def laws_FnAllEnds.Pure : Prop := ∀ (l0 : List Int), l0.length ≤ maxLen → l0.length * 1 ≤ 140737488351232 → (∀ x ∈ l0, (Lit.int .u8 x).wf = true) → ∃ k, laws_FnAllEnds.f k l0 = some true
theorem laws_FnAllEnds.walk (P : laws_FnAllEnds.Pure) (a0 : Option Addr) (len0 cap0 : Nat) (z0 : List Int) (w : World) (w0 : (a0 = none ∧ len0 = 0 ∧ cap0 = 0 ∧ z0 = []) ∨ ∃ x, a0 = some x ∧ len0 ≤ cap0 ∧ cap0 ≤ maxLen ∧ z0.length = cap0 ∧ (∀ i, i < z0.length → w.cell? (x.add i) = some (.int .u8 (z0.getD i 0))) ∧ ∀ n ∈ z0, (Lit.int .u8 n).wf = true) (y0 : len0 * 1 ≤ 140737488351232) :
  Calls Try.prog 5 #[.slice a0 len0 cap0] w fun e w' => e = .returned (.bool true) ∧ Below w.heap.size w w' := by
 obtain ⟨l0, rfl, hr0, hm0, hw0, hc0⟩ := ReadsInt.ofRowC w0
 obtain ⟨k, h⟩ := P l0 hm0 y0 hw0
 refine (laws_FnAllEnds.calls k _ _ l0 true w (Kd.C_of_reads (d := (0 : Int)) (h1 := fun _ => rfl) hr0) hc0 h).mono ?_
 rintro e w' ⟨rfl, hd⟩
 exact ⟨rfl, hd⟩

end Go.Proofs.Ytnjdepmlpdjghaa.PFnAllEnds
