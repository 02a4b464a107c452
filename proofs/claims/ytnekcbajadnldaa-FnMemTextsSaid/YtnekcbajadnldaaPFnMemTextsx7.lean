-- made by wip/tools/myprint.py out of the seat's translation
import Derived.Test.YtnekcbajadnldaaPFnMemTextsx0
import Derived.Test.YtnekcbajadnldaaPFnMemTextsx1
import Derived.Test.YtnekcbajadnldaaPFnMemTextsx3
import Derived.Test.YtnekcbajadnldaaPFnMemTextsx4
import Derived.Test.YtnekcbajadnldaaPFnMemTextsx5
import Derived.Test.YtnekcbajadnldaaPFnMemTextsx6
namespace Go.Proofs.Ytnekcbajadnldaa.PFnMemTexts
open Go.RowKit Go.Proofs.YtnekcbajadnldaaW.PrintWords Go.Proofs.YtnekcbajadnldaaW.PrintLast Go.Proofs.YtnekcbajadnldaaW.PrintMore
attribute [local go_sem] max2_int min2_int max_two min_two max_three min_three max_four min_four   -- for this text's walks alone
set_option linter.unusedVariables false
set_option linter.unusedSimpArgs false
theorem zR7 {p q : Prop} (x : q) (h : q → p := by intro h; (with_reducible repeat (first | apply Kd.R_alloc | apply Kd.R_drewN | apply Kd.R_drew)); exact h) : p := h x
theorem zT7 {p : Prop} (h : p := by (try simp only [List.map_toArray, List.map_cons, List.map_nil]); first | done | rfl | (simp only [List.length_drop, List.length_take]; rfl)) : p := h
theorem zC7 {p q : Prop} (x : q) (h : q → p := by intro h; repeat (first | exact h | (with_reducible refine Kd.C_alloc ?_ _) | (with_reducible refine Kd.C_drewN ?_ _) | (with_reducible refine Kd.C_drew ?_))) : p := h x
theorem zE7 {p : Prop} (h : p := by first | rfl | (simp [errW_none, errW_some] <;> rfl) | (simp [*, errW_none, errW_some] <;> rfl)) : p := h
theorem zB7_0 {p : Prop} (h : p := by repeat (first | (with_reducible first | exact HB.out | apply below_alloc | apply pw_below_drewN | apply below_drew1) | exact HB.out)) : p := h

/-! ### laws_FnMemTexts: function 12 -/
def laws_FnMemTexts.j0 : Nat → List Int → List Int → ByteArray → Bool → Option (Bool)
 | 0, _, _, _, _ => none
 | k + 1, x4, x5, x6, x36 => if x36 = true then (some false) else (if (x4.length : Int) = (x5.length : Int) then ((laws_words.f k x4).bind fun t321 => (if t321 = true then ((laws_words.f k x5).bind fun t322 => (if t322 = true then (if (x4.length : Int) = 24 then ((laws_sameInts.f k x4 x5).bind fun t323 => (some ((x6.toList == ([] : List UInt8)) == t323))) else (some (x6.toList == ([] : List UInt8)))) else (some (x6.toList == ([] : List UInt8))))) else (some (x6.toList == ([] : List UInt8))))) else (some (x6.toList == ([] : List UInt8))))
def laws_FnMemTexts.f (k : Nat) (l0 : List Int) : Option (Bool) := (laws_big.f l0).bind fun t306 => (if t306 = true then (some true) else ((spec_DrawMemText.f k l0).bind fun t307 => ((spec_DrawChangedText.f k l0).bind fun bt310 => ((impl_ChangedText.f k bt310.1 bt310.2).bind fun t316 => ((impl_MemText.f k t307).bind fun t317 => ((spec_MemText.f k t307).bind fun t318 => (if t317.toList = t318.toList then ((spec_ChangedText.f k bt310.1 bt310.2).bind fun t319 => (if t316.toList = t319.toList then ((impl_ChangedText.f k bt310.1 bt310.1).bind fun t320 => (laws_FnMemTexts.j0 k bt310.1 bt310.2 t316 (t320.toList != ([] : List UInt8)))) else (laws_FnMemTexts.j0 k bt310.1 bt310.2 t316 true))) else (laws_FnMemTexts.j0 k bt310.1 bt310.2 t316 true))))))))
theorem laws_FnMemTexts.mono_l : ∀ k, (∀ y0 y1 y2 y3, LeO (laws_FnMemTexts.j0 k y0 y1 y2 y3) (laws_FnMemTexts.j0 (k + 1) y0 y1 y2 y3))
 | 0 => fun _ _ _ _ r h => by simp [laws_FnMemTexts.j0] at h
 | k + 1 => by
  have ih0 := laws_FnMemTexts.mono_l k
  ·intro y0 y1 y2 y3
   unfold laws_FnMemTexts.j0
   repeat' first
   | (with_reducible exact ih0 _ _ _ _)
   | (with_reducible exact impl_ChangedText.mono _ _ _)
   | (with_reducible exact impl_MemText.mono _ _)
   | (with_reducible exact laws_sameInts.mono _ _ _)
   | (with_reducible exact laws_words.mono _ _)
   | (with_reducible exact spec_ChangedText.mono _ _ _)
   | (with_reducible exact spec_DrawChangedText.mono _ _)
   | (with_reducible exact spec_DrawMemText.mono _ _)
   | (with_reducible exact spec_MemText.mono _ _)
   | (with_reducible exact LeO.refl _)
   | (with_reducible exact LeO.none _)
   | (with_reducible refine LeO.ite ?_ ?_)
   | (with_reducible refine LeO.bind ?_ (fun _ => ?_))
   | exact ih0 _ _ _ _
   | exact impl_ChangedText.mono _ _ _
   | exact impl_MemText.mono _ _
   | exact laws_sameInts.mono _ _ _
   | exact laws_words.mono _ _
   | exact spec_ChangedText.mono _ _ _
   | exact spec_DrawChangedText.mono _ _
   | exact spec_DrawMemText.mono _ _
   | exact spec_MemText.mono _ _
   | exact LeO.none _
   | refine LeO.ite ?_ ?_
   | refine LeO.bind ?_ (fun _ => ?_)
theorem laws_FnMemTexts.mono : ∀ a0 k, LeO (laws_FnMemTexts.f k a0) (laws_FnMemTexts.f (k + 1) a0) := by
 intro a0 k
 have ih0 := laws_FnMemTexts.mono_l k
 unfold laws_FnMemTexts.f
 repeat' first
   | (with_reducible exact ih0 _ _ _ _)
   | (with_reducible exact impl_ChangedText.mono _ _ _)
   | (with_reducible exact impl_MemText.mono _ _)
   | (with_reducible exact laws_sameInts.mono _ _ _)
   | (with_reducible exact laws_words.mono _ _)
   | (with_reducible exact spec_ChangedText.mono _ _ _)
   | (with_reducible exact spec_DrawChangedText.mono _ _)
   | (with_reducible exact spec_DrawMemText.mono _ _)
   | (with_reducible exact spec_MemText.mono _ _)
   | (with_reducible exact LeO.refl _)
   | (with_reducible exact LeO.none _)
   | (with_reducible refine LeO.ite ?_ ?_)
   | (with_reducible refine LeO.bind ?_ (fun _ => ?_))
   | exact ih0 _ _ _ _
   | exact impl_ChangedText.mono _ _ _
   | exact impl_MemText.mono _ _
   | exact laws_sameInts.mono _ _ _
   | exact laws_words.mono _ _
   | exact spec_ChangedText.mono _ _ _
   | exact spec_DrawChangedText.mono _ _
   | exact spec_DrawMemText.mono _ _
   | exact spec_MemText.mono _ _
   | exact LeO.none _
   | refine LeO.ite ?_ ?_
   | refine LeO.bind ?_ (fun _ => ?_)
set_option maxHeartbeats 8000000 in
set_option maxRecDepth 100000 in
theorem laws_FnMemTexts.calls (k : Nat) (A0 : Option Addr) (c0 : Nat) (l0 : List Int) (r : Bool) (w : World) (hr0 : Kd.C (Kd.int .u8) w A0 l0.length l0) (hc0 : l0.length ≤ c0) (h : laws_FnMemTexts.f k l0 = some r) :
  Calls Try.prog 12 #[.slice A0 l0.length c0] w fun e w' => e = .returned (.bool r) ∧ Below w.heap.size w w' := by
 have HR0 := Aside0.mk hr0
 have HC0 := Aside0.mk hc0
 clear hr0 hc0
 have HB := Aside0.mk (Below.refl w.heap.size w)
 have H : ((laws_big.f l0).bind fun t306 => (if t306 = true then (some true) else ((spec_DrawMemText.f k l0).bind fun t307 => ((spec_DrawChangedText.f k l0).bind fun bt310 => ((impl_ChangedText.f k bt310.1 bt310.2).bind fun t316 => ((impl_MemText.f k t307).bind fun t317 => ((spec_MemText.f k t307).bind fun t318 => (if t317.toList = t318.toList then ((spec_ChangedText.f k bt310.1 bt310.2).bind fun t319 => (if t316.toList = t319.toList then ((impl_ChangedText.f k bt310.1 bt310.1).bind fun t320 => (laws_FnMemTexts.j0 k bt310.1 bt310.2 t316 (t320.toList != ([] : List UInt8)))) else (laws_FnMemTexts.j0 k bt310.1 bt310.2 t316 true))) else (laws_FnMemTexts.j0 k bt310.1 bt310.2 t316 true))))))))) = some r := h
 clear h
 replace H := Option.bind_eq_some_iff.mp H
 obtain ⟨t306, A20, H⟩ := H
 replace H : (if t306 = true then (some true) else ((spec_DrawMemText.f k l0).bind fun t307 => ((spec_DrawChangedText.f k l0).bind fun bt310 => ((impl_ChangedText.f k bt310.1 bt310.2).bind fun t316 => ((impl_MemText.f k t307).bind fun t317 => ((spec_MemText.f k t307).bind fun t318 => (if t317.toList = t318.toList then ((spec_ChangedText.f k bt310.1 bt310.2).bind fun t319 => (if t316.toList = t319.toList then ((impl_ChangedText.f k bt310.1 bt310.1).bind fun t320 => (laws_FnMemTexts.j0 k bt310.1 bt310.2 t316 (t320.toList != ([] : List UInt8)))) else (laws_FnMemTexts.j0 k bt310.1 bt310.2 t316 true))) else (laws_FnMemTexts.j0 k bt310.1 bt310.2 t316 true)))))))) = some r := H
 have A2 := Aside0.mk A20
 clear A20
 by_cases c3 : t306 = true
 ·subst c3
  have H1 : (some true) = some r := by rw [if_pos rfl] at H; exact H
  clear H
  have H := H1
  clear H1
  obtain rfl := Option.some.inj H
  go_enter Try.func12, Try.ntmps12
  go_wp2_with (first | ((with_reducible refine gate_callee (f := 34) rfl ?_); refine goesL_ (some 8) rfl rfl Try.func34 (by kernel_rfl) rfl #[.slice A0 l0.length c0] rfl zT7 ?_; (with_reducible refine (laws_big.calls _ _ l0 true _ ?side1 ?side2 A2.out).mono ?_); (case side1 => exact zC7 HR0.out); (case side2 => exact HC0.out); rintro e w' ⟨rfl, ⟨nd, rfl⟩⟩; refine ⟨_, rfl, ?_⟩))
  go_ret
  exact ⟨zE7, zB7_0⟩
 replace c3 := Bool.eq_false_iff.mpr c3
 subst c3
 have H1 : ((spec_DrawMemText.f k l0).bind fun t307 => ((spec_DrawChangedText.f k l0).bind fun bt310 => ((impl_ChangedText.f k bt310.1 bt310.2).bind fun t316 => ((impl_MemText.f k t307).bind fun t317 => ((spec_MemText.f k t307).bind fun t318 => (if t317.toList = t318.toList then ((spec_ChangedText.f k bt310.1 bt310.2).bind fun t319 => (if t316.toList = t319.toList then ((impl_ChangedText.f k bt310.1 bt310.1).bind fun t320 => (laws_FnMemTexts.j0 k bt310.1 bt310.2 t316 (t320.toList != ([] : List UInt8)))) else (laws_FnMemTexts.j0 k bt310.1 bt310.2 t316 true))) else (laws_FnMemTexts.j0 k bt310.1 bt310.2 t316 true))))))) = some r := by rw [if_neg (show ¬ (false = true) by decide)] at H; exact H
 clear H
 have H := H1
 clear H1
 replace H := Option.bind_eq_some_iff.mp H
 obtain ⟨t307, A40, H⟩ := H
 replace H : ((spec_DrawChangedText.f k l0).bind fun bt310 => ((impl_ChangedText.f k bt310.1 bt310.2).bind fun t316 => ((impl_MemText.f k t307).bind fun t317 => ((spec_MemText.f k t307).bind fun t318 => (if t317.toList = t318.toList then ((spec_ChangedText.f k bt310.1 bt310.2).bind fun t319 => (if t316.toList = t319.toList then ((impl_ChangedText.f k bt310.1 bt310.1).bind fun t320 => (laws_FnMemTexts.j0 k bt310.1 bt310.2 t316 (t320.toList != ([] : List UInt8)))) else (laws_FnMemTexts.j0 k bt310.1 bt310.2 t316 true))) else (laws_FnMemTexts.j0 k bt310.1 bt310.2 t316 true)))))) = some r := H
 have A4 := Aside0.mk A40
 clear A40
 replace H := Option.bind_eq_some_iff.mp H
 obtain ⟨⟨t310, t311⟩, A50, H⟩ := H
 replace H : ((impl_ChangedText.f k t310 t311).bind fun t316 => ((impl_MemText.f k t307).bind fun t317 => ((spec_MemText.f k t307).bind fun t318 => (if t317.toList = t318.toList then ((spec_ChangedText.f k t310 t311).bind fun t319 => (if t316.toList = t319.toList then ((impl_ChangedText.f k t310 t310).bind fun t320 => (laws_FnMemTexts.j0 k t310 t311 t316 (t320.toList != ([] : List UInt8)))) else (laws_FnMemTexts.j0 k t310 t311 t316 true))) else (laws_FnMemTexts.j0 k t310 t311 t316 true))))) = some r := H
 have A5 := Aside0.mk A50
 clear A50
 replace H := Option.bind_eq_some_iff.mp H
 obtain ⟨t316, A60, H⟩ := H
 replace H : ((impl_MemText.f k t307).bind fun t317 => ((spec_MemText.f k t307).bind fun t318 => (if t317.toList = t318.toList then ((spec_ChangedText.f k t310 t311).bind fun t319 => (if t316.toList = t319.toList then ((impl_ChangedText.f k t310 t310).bind fun t320 => (laws_FnMemTexts.j0 k t310 t311 t316 (t320.toList != ([] : List UInt8)))) else (laws_FnMemTexts.j0 k t310 t311 t316 true))) else (laws_FnMemTexts.j0 k t310 t311 t316 true)))) = some r := H
 have A6 := Aside0.mk A60
 clear A60
 have HC7 := Aside0.mk H
 clear H
 go_enter Try.func12, Try.ntmps12
 go_upto_region 6 with (first | ((with_reducible refine gate_callee (f := 34) rfl ?_); refine goesL_ (some 8) rfl rfl Try.func34 (by kernel_rfl) rfl #[.slice A0 l0.length c0] rfl zT7 ?_; (with_reducible refine (laws_big.calls _ _ l0 false _ ?side1 ?side2 A2.out).mono ?_); (case side1 => exact zC7 HR0.out); (case side2 => exact HC0.out); rintro e w' ⟨rfl, ⟨nd, rfl⟩⟩; refine ⟨_, rfl, ?_⟩) | ((with_reducible refine gate_callee (f := 53) rfl ?_); refine goesL_ (some 10) rfl rfl Try.func53 (by kernel_rfl) rfl #[.slice A0 l0.length c0] rfl zT7 ?_; (with_reducible refine (spec_DrawMemText.calls k _ _ l0 t307 _ ?side1 ?side2 A4.out).mono ?_); (case side1 => exact zC7 HR0.out); (case side2 => exact HC0.out); rintro e w8 ⟨v308, rfl, ho0, hb⟩; refine ⟨_, rfl, ?_⟩; have n0_ := Aside0.mk (Kd.Q_lower ho0 (below_size (zB7_0))); have n1_ := Aside0.mk (below_step (zB7_0) hb); clear HB; have HO309 := n0_; have HB := n1_; clear n0_ n1_; (try clear hb); (try clear hb2); (try clear hk); (try clear hi); (try clear ho0)) | ((with_reducible refine gate_callee (f := 54) rfl ?_); refine goesL_ (some 13) rfl rfl Try.func54 (by kernel_rfl) rfl #[.slice A0 l0.length c0] rfl zT7 ?_; (with_reducible refine (spec_DrawChangedText.calls k _ _ l0 t310 t311 _ ?side1 ?side2 A5.out).mono ?_); (case side1 => exact zC7 (Kd.C_below HR0.out HB.out)); (case side2 => exact HC0.out); rintro e w9 ⟨v312, v314, rfl, ho0, ho1, hb⟩; refine ⟨_, rfl, ?_⟩; have n0_ := Aside0.mk (Kd.Q_mono (Kd.Q_told (Kd.Q_told (Kd.Q_old (by (with_reducible repeat (first | apply Kd.Q_alloc | apply Kd.Q_drewN | apply Kd.Q_drew)); exact HO309.out) hb) (Kd.R_base ho0)) (Kd.Q_base ho1)) (fun _ h_ => h_.1)); have n1_ := Aside0.mk (Kd.R_lower (Kd.R_new' ho0 (Kd.Q_lt (by (with_reducible repeat (first | apply Kd.Q_alloc | apply Kd.Q_drewN | apply Kd.Q_drew)); exact HO309.out))) (below_size (zB7_0))); have n2_ := Aside0.mk (Kd.Q_lower (Kd.Q_new' ho1 (Kd.Q_lt (by (with_reducible repeat (first | apply Kd.Q_alloc | apply Kd.Q_drewN | apply Kd.Q_drew)); exact HO309.out))) (below_size (zB7_0))); have n3_ := Aside0.mk (below_step (zB7_0) hb); clear HO309; clear HB; have HO309 := n0_; have HO313 := n1_; have HO315 := n2_; have HB := n3_; clear n0_ n1_ n2_ n3_; (try clear hb); (try clear hb2); (try clear hk); (try clear hi); (try clear ho0); (try clear ho1); obtain ⟨Ao10, co10, eo10⟩ := Kd.R_slice HO313.out; subst eo10; obtain ⟨Ao11, co11, eo11, _⟩ := Kd.Q_slice HO315.out; subst eo11) | ((with_reducible refine gate_callee (f := 55) rfl ?_); refine goesL_ (some 18) rfl rfl Try.func55 (by kernel_rfl) rfl #[.slice Ao10 t310.length co10, .slice Ao11 t311.length co11] rfl zT7 ?_; (with_reducible refine (impl_ChangedText.calls k _ _ t310 _ _ t311 t316 _ ?side1 ?side2 ?side3 ?side4 A6.out).mono ?_); (case side1 => exact zC7 (Kd.R_reads' HO313.out).2.2); (case side2 => exact (Kd.R_reads' HO313.out).2.1); (case side3 => exact zC7 (Kd.Q_reads' HO315.out).2.2); (case side4 => exact (Kd.Q_reads' HO315.out).2.1); rintro e w' ⟨rfl, ⟨nd, rfl⟩⟩; refine ⟨_, rfl, ?_⟩))
 (try simp only [Act.put, List.setIfInBounds_toArray, List.set_cons_zero, List.set_cons_succ])
 go_cut [36] (fun v36 wc => ∃ (kq : Nat) (x36_6 : Bool), v36 = .bool x36_6 ∧ Aside0 (laws_FnMemTexts.j0 kq t310 t311 t316 x36_6 = some r) ∧ Aside0 (kq ≤ k) ∧ Aside0 (Kd.R (Kd.int .i64) 3 wc w.heap.size (fun _ => True) (.slice Ao10 t310.length co10) t310) ∧ Aside0 (Kd.Q (Kd.int .i64) 3 wc w.heap.size (fun _ => True) (.slice Ao11 t311.length co11) t311) ∧ Aside0 (Below w.heap.size w wc))
 case first =>
  have H := HC7.out
  clear HC7
  replace H := Option.bind_eq_some_iff.mp H
  obtain ⟨t317, A120, H⟩ := H
  replace H : ((spec_MemText.f k t307).bind fun t318 => (if t317.toList = t318.toList then ((spec_ChangedText.f k t310 t311).bind fun t319 => (if t316.toList = t319.toList then ((impl_ChangedText.f k t310 t310).bind fun t320 => (laws_FnMemTexts.j0 k t310 t311 t316 (t320.toList != ([] : List UInt8)))) else (laws_FnMemTexts.j0 k t310 t311 t316 true))) else (laws_FnMemTexts.j0 k t310 t311 t316 true))) = some r := H
  have A12 := Aside0.mk A120
  clear A120
  replace H := Option.bind_eq_some_iff.mp H
  obtain ⟨t318, A130, H⟩ := H
  replace H : (if t317.toList = t318.toList then ((spec_ChangedText.f k t310 t311).bind fun t319 => (if t316.toList = t319.toList then ((impl_ChangedText.f k t310 t310).bind fun t320 => (laws_FnMemTexts.j0 k t310 t311 t316 (t320.toList != ([] : List UInt8)))) else (laws_FnMemTexts.j0 k t310 t311 t316 true))) else (laws_FnMemTexts.j0 k t310 t311 t316 true)) = some r := H
  have A13 := Aside0.mk A130
  clear A130
  by_cases c14 : t317.toList = t318.toList
  rotate_left
  ·rw [if_neg c14] at H
   have c14b0 : (t317.toList == t318.toList) = false := beq_eq_false_iff_ne.mpr c14
   have c14b1 : (t317.toList != t318.toList) = true := bne_iff_ne.mpr c14
   (first | rw [c14b0] | (simp only [i64_w, i32_w]; rw [c14b0]) | skip)
   have H' := Aside0.mk H
   clear H
   obtain ⟨Ao26, co26, eo26, _⟩ := Kd.Q_slice HO309.out
   subst eo26
   go_wp2_with (first | ((with_reducible refine gate_callee (f := 56) rfl ?_); refine goesL_ (some 20) rfl rfl Try.func56 (by kernel_rfl) rfl #[.slice Ao26 t307.length co26] rfl zT7 ?_; (with_reducible refine (impl_MemText.calls k _ _ t307 t317 _ ?side1 ?side2 A12.out).mono ?_); (case side1 => exact zC7 (Kd.Q_reads' HO309.out).2.2); (case side2 => exact (Kd.Q_reads' HO309.out).2.1); rintro e w27 ⟨rfl, hb⟩; refine ⟨_, rfl, ?_⟩; have n0_ := Aside0.mk (Kd.Q_below (by (with_reducible repeat (first | apply Kd.Q_alloc | apply Kd.Q_drewN | apply Kd.Q_drew)); exact HO309.out) hb); have n1_ := Aside0.mk (Kd.R_below (zR7 HO313.out) hb); have n2_ := Aside0.mk (Kd.Q_below (by (with_reducible repeat (first | apply Kd.Q_alloc | apply Kd.Q_drewN | apply Kd.Q_drew)); exact HO315.out) hb); have n3_ := Aside0.mk (below_step (zB7_0) hb); clear HO309; clear HO313; clear HO315; clear HB; have HO309 := n0_; have HO313 := n1_; have HO315 := n2_; have HB := n3_; clear n0_ n1_ n2_ n3_; (try clear hb); (try clear hb2); (try clear hk); (try clear hi)) | ((with_reducible refine gate_callee (f := 57) rfl ?_); refine goesL_ (some 22) rfl rfl Try.func57 (by kernel_rfl) rfl #[.slice Ao26 t307.length co26] rfl zT7 ?_; (with_reducible refine (spec_MemText.calls k _ _ t307 t318 _ ?side1 ?side2 A13.out).mono ?_); (case side1 => exact zC7 (Kd.Q_reads' HO309.out).2.2); (case side2 => exact (Kd.Q_reads' HO309.out).2.1); rintro e w28 ⟨rfl, hb⟩; refine ⟨_, rfl, ?_⟩; have n0_ := Aside0.mk (Kd.Q_below (by (with_reducible repeat (first | apply Kd.Q_alloc | apply Kd.Q_drewN | apply Kd.Q_drew)); exact HO309.out) hb); have n1_ := Aside0.mk (Kd.R_below (zR7 HO313.out) hb); have n2_ := Aside0.mk (Kd.Q_below (by (with_reducible repeat (first | apply Kd.Q_alloc | apply Kd.Q_drewN | apply Kd.Q_drew)); exact HO315.out) hb); have n3_ := Aside0.mk (below_step (zB7_0) hb); clear HO309; clear HO313; clear HO315; clear HB; have HO309 := n0_; have HO313 := n1_; have HO315 := n2_; have HB := n3_; clear n0_ n1_ n2_ n3_; (try clear hb); (try clear hb2); (try clear hk); (try clear hi)))
   go_meet
   case rel => exact ⟨_, (true), (by first | rfl | (simp; done) | (simp [*]; done)), H', ⟨by first | omega | exact Nat.le_refl _⟩, ⟨by (with_reducible repeat (first | apply Kd.R_alloc | apply Kd.R_drewN | apply Kd.R_drew)); exact Kd.R_mono HO313.out (fun _ hk => hk.1)⟩, ⟨by (with_reducible repeat (first | apply Kd.Q_alloc | apply Kd.Q_drewN | apply Kd.Q_drew)); exact Kd.Q_mono HO315.out (fun _ hk => hk.1)⟩, ⟨zB7_0⟩⟩
  rw [if_pos c14] at H
  have c14b0 : (t317.toList == t318.toList) = true := beq_iff_eq.mpr c14
  have c14b1 : (t317.toList != t318.toList) = false := bne_eq_false_iff_eq.mpr c14
  clear c14
  (first | rw [c14b0] | (simp only [i64_w, i32_w]; rw [c14b0]) | skip)
  replace H := Option.bind_eq_some_iff.mp H
  obtain ⟨t319, A150, H⟩ := H
  replace H : (if t316.toList = t319.toList then ((impl_ChangedText.f k t310 t310).bind fun t320 => (laws_FnMemTexts.j0 k t310 t311 t316 (t320.toList != ([] : List UInt8)))) else (laws_FnMemTexts.j0 k t310 t311 t316 true)) = some r := H
  have A15 := Aside0.mk A150
  clear A150
  by_cases c16 : t316.toList = t319.toList
  rotate_left
  ·rw [if_neg c16] at H
   have c16b0 : (t316.toList == t319.toList) = false := beq_eq_false_iff_ne.mpr c16
   have c16b1 : (t316.toList != t319.toList) = true := bne_iff_ne.mpr c16
   have H' := Aside0.mk H
   clear H
   obtain ⟨Ao22, co22, eo22, _⟩ := Kd.Q_slice HO309.out
   subst eo22
   go_wp2_with (first | ((with_reducible refine gate_callee (f := 56) rfl ?_); refine goesL_ (some 20) rfl rfl Try.func56 (by kernel_rfl) rfl #[.slice Ao22 t307.length co22] rfl zT7 ?_; (with_reducible refine (impl_MemText.calls k _ _ t307 t317 _ ?side1 ?side2 A12.out).mono ?_); (case side1 => exact zC7 (Kd.Q_reads' HO309.out).2.2); (case side2 => exact (Kd.Q_reads' HO309.out).2.1); rintro e w23 ⟨rfl, hb⟩; refine ⟨_, rfl, ?_⟩; have n0_ := Aside0.mk (Kd.Q_below (by (with_reducible repeat (first | apply Kd.Q_alloc | apply Kd.Q_drewN | apply Kd.Q_drew)); exact HO309.out) hb); have n1_ := Aside0.mk (Kd.R_below (zR7 HO313.out) hb); have n2_ := Aside0.mk (Kd.Q_below (by (with_reducible repeat (first | apply Kd.Q_alloc | apply Kd.Q_drewN | apply Kd.Q_drew)); exact HO315.out) hb); have n3_ := Aside0.mk (below_step (zB7_0) hb); clear HO309; clear HO313; clear HO315; clear HB; have HO309 := n0_; have HO313 := n1_; have HO315 := n2_; have HB := n3_; clear n0_ n1_ n2_ n3_; (try clear hb); (try clear hb2); (try clear hk); (try clear hi)) | ((with_reducible refine gate_callee (f := 57) rfl ?_); refine goesL_ (some 22) rfl rfl Try.func57 (by kernel_rfl) rfl #[.slice Ao22 t307.length co22] rfl zT7 ?_; (with_reducible refine (spec_MemText.calls k _ _ t307 t318 _ ?side1 ?side2 A13.out).mono ?_); (case side1 => exact zC7 (Kd.Q_reads' HO309.out).2.2); (case side2 => exact (Kd.Q_reads' HO309.out).2.1); rintro e w24 ⟨rfl, hb⟩; refine ⟨_, rfl, ?_⟩; have n0_ := Aside0.mk (Kd.Q_below (by (with_reducible repeat (first | apply Kd.Q_alloc | apply Kd.Q_drewN | apply Kd.Q_drew)); exact HO309.out) hb); have n1_ := Aside0.mk (Kd.R_below (zR7 HO313.out) hb); have n2_ := Aside0.mk (Kd.Q_below (by (with_reducible repeat (first | apply Kd.Q_alloc | apply Kd.Q_drewN | apply Kd.Q_drew)); exact HO315.out) hb); have n3_ := Aside0.mk (below_step (zB7_0) hb); clear HO309; clear HO313; clear HO315; clear HB; have HO309 := n0_; have HO313 := n1_; have HO315 := n2_; have HB := n3_; clear n0_ n1_ n2_ n3_; (try clear hb); (try clear hb2); (try clear hk); (try clear hi)) | (go_at_call 58; (with_reducible refine (spec_ChangedText.calls k _ _ t310 _ _ t311 t319 _ ?side1 ?side2 ?side3 ?side4 A15.out).mono ?_); (case side1 => exact zC7 (Kd.R_reads' HO313.out).2.2); (case side2 => exact (Kd.R_reads' HO313.out).2.1); (case side3 => exact zC7 (Kd.Q_reads' HO315.out).2.2); (case side4 => exact (Kd.Q_reads' HO315.out).2.1); rintro e w25 ⟨rfl, hb⟩; have n0_ := Aside0.mk (Kd.Q_below (by (with_reducible repeat (first | apply Kd.Q_alloc | apply Kd.Q_drewN | apply Kd.Q_drew)); exact HO309.out) hb); have n1_ := Aside0.mk (Kd.R_below (zR7 HO313.out) hb); have n2_ := Aside0.mk (Kd.Q_below (by (with_reducible repeat (first | apply Kd.Q_alloc | apply Kd.Q_drewN | apply Kd.Q_drew)); exact HO315.out) hb); have n3_ := Aside0.mk (below_step (zB7_0) hb); clear HO309; clear HO313; clear HO315; clear HB; have HO309 := n0_; have HO313 := n1_; have HO315 := n2_; have HB := n3_; clear n0_ n1_ n2_ n3_; (try clear hb); (try clear hb2); (try clear hk); (try clear hi)))
   go_meet
   case rel => exact ⟨_, (true), (by first | rfl | (simp; done) | (simp [*]; done)), H', ⟨by first | omega | exact Nat.le_refl _⟩, ⟨by (with_reducible repeat (first | apply Kd.R_alloc | apply Kd.R_drewN | apply Kd.R_drew)); exact Kd.R_mono HO313.out (fun _ hk => hk.1)⟩, ⟨by (with_reducible repeat (first | apply Kd.Q_alloc | apply Kd.Q_drewN | apply Kd.Q_drew)); exact Kd.Q_mono HO315.out (fun _ hk => hk.1)⟩, ⟨zB7_0⟩⟩
  rw [if_pos c16] at H
  have c16b0 : (t316.toList == t319.toList) = true := beq_iff_eq.mpr c16
  have c16b1 : (t316.toList != t319.toList) = false := bne_eq_false_iff_eq.mpr c16
  clear c16
  replace H := Option.bind_eq_some_iff.mp H
  obtain ⟨t320, A170, H⟩ := H
  replace H : (laws_FnMemTexts.j0 k t310 t311 t316 (t320.toList != ([] : List UInt8))) = some r := H
  have A17 := Aside0.mk A170
  clear A170
  have H' := Aside0.mk H
  clear H
  obtain ⟨Ao18, co18, eo18, _⟩ := Kd.Q_slice HO309.out
  subst eo18
  go_wp2_with (first | ((with_reducible refine gate_callee (f := 56) rfl ?_); refine goesL_ (some 20) rfl rfl Try.func56 (by kernel_rfl) rfl #[.slice Ao18 t307.length co18] rfl zT7 ?_; (with_reducible refine (impl_MemText.calls k _ _ t307 t317 _ ?side1 ?side2 A12.out).mono ?_); (case side1 => exact zC7 (Kd.Q_reads' HO309.out).2.2); (case side2 => exact (Kd.Q_reads' HO309.out).2.1); rintro e w19 ⟨rfl, hb⟩; refine ⟨_, rfl, ?_⟩; have n0_ := Aside0.mk (Kd.Q_below (by (with_reducible repeat (first | apply Kd.Q_alloc | apply Kd.Q_drewN | apply Kd.Q_drew)); exact HO309.out) hb); have n1_ := Aside0.mk (Kd.R_below (zR7 HO313.out) hb); have n2_ := Aside0.mk (Kd.Q_below (by (with_reducible repeat (first | apply Kd.Q_alloc | apply Kd.Q_drewN | apply Kd.Q_drew)); exact HO315.out) hb); have n3_ := Aside0.mk (below_step (zB7_0) hb); clear HO309; clear HO313; clear HO315; clear HB; have HO309 := n0_; have HO313 := n1_; have HO315 := n2_; have HB := n3_; clear n0_ n1_ n2_ n3_; (try clear hb); (try clear hb2); (try clear hk); (try clear hi)) | ((with_reducible refine gate_callee (f := 57) rfl ?_); refine goesL_ (some 22) rfl rfl Try.func57 (by kernel_rfl) rfl #[.slice Ao18 t307.length co18] rfl zT7 ?_; (with_reducible refine (spec_MemText.calls k _ _ t307 t318 _ ?side1 ?side2 A13.out).mono ?_); (case side1 => exact zC7 (Kd.Q_reads' HO309.out).2.2); (case side2 => exact (Kd.Q_reads' HO309.out).2.1); rintro e w20 ⟨rfl, hb⟩; refine ⟨_, rfl, ?_⟩; have n0_ := Aside0.mk (Kd.Q_below (by (with_reducible repeat (first | apply Kd.Q_alloc | apply Kd.Q_drewN | apply Kd.Q_drew)); exact HO309.out) hb); have n1_ := Aside0.mk (Kd.R_below (zR7 HO313.out) hb); have n2_ := Aside0.mk (Kd.Q_below (by (with_reducible repeat (first | apply Kd.Q_alloc | apply Kd.Q_drewN | apply Kd.Q_drew)); exact HO315.out) hb); have n3_ := Aside0.mk (below_step (zB7_0) hb); clear HO309; clear HO313; clear HO315; clear HB; have HO309 := n0_; have HO313 := n1_; have HO315 := n2_; have HB := n3_; clear n0_ n1_ n2_ n3_; (try clear hb); (try clear hb2); (try clear hk); (try clear hi)) | (go_at_call 58; (with_reducible refine (spec_ChangedText.calls k _ _ t310 _ _ t311 t319 _ ?side1 ?side2 ?side3 ?side4 A15.out).mono ?_); (case side1 => exact zC7 (Kd.R_reads' HO313.out).2.2); (case side2 => exact (Kd.R_reads' HO313.out).2.1); (case side3 => exact zC7 (Kd.Q_reads' HO315.out).2.2); (case side4 => exact (Kd.Q_reads' HO315.out).2.1); rintro e w21 ⟨rfl, hb⟩; have n0_ := Aside0.mk (Kd.Q_below (by (with_reducible repeat (first | apply Kd.Q_alloc | apply Kd.Q_drewN | apply Kd.Q_drew)); exact HO309.out) hb); have n1_ := Aside0.mk (Kd.R_below (zR7 HO313.out) hb); have n2_ := Aside0.mk (Kd.Q_below (by (with_reducible repeat (first | apply Kd.Q_alloc | apply Kd.Q_drewN | apply Kd.Q_drew)); exact HO315.out) hb); have n3_ := Aside0.mk (below_step (zB7_0) hb); clear HO309; clear HO313; clear HO315; clear HB; have HO309 := n0_; have HO313 := n1_; have HO315 := n2_; have HB := n3_; clear n0_ n1_ n2_ n3_; (try clear hb); (try clear hb2); (try clear hk); (try clear hi)) | (go_at_call 55; (with_reducible refine (impl_ChangedText.calls k _ _ t310 _ _ t310 t320 _ ?side1 ?side2 ?side3 ?side4 A17.out).mono ?_); (case side1 => exact zC7 (Kd.R_reads' HO313.out).2.2); (case side2 => exact (Kd.R_reads' HO313.out).2.1); (case side3 => exact zC7 (Kd.R_reads' HO313.out).2.2); (case side4 => exact (Kd.R_reads' HO313.out).2.1); rintro e w' ⟨rfl, ⟨nd, rfl⟩⟩))
  go_meet
  case rel => exact ⟨_, ((t320.toList != ([] : List UInt8))), (by first | rfl | (simp; done) | (cases t320.toList <;> simp; done) | (simp [*]; done)), H', ⟨by first | omega | exact Nat.le_refl _⟩, ⟨by (with_reducible repeat (first | apply Kd.R_alloc | apply Kd.R_drewN | apply Kd.R_drew)); exact Kd.R_mono HO313.out (fun _ hk => hk.1)⟩, ⟨by (with_reducible repeat (first | apply Kd.Q_alloc | apply Kd.Q_drewN | apply Kd.Q_drew)); exact Kd.Q_mono HO315.out (fun _ hk => hk.1)⟩, ⟨zB7_0⟩⟩
 case rest =>
  clear HC7
  try clear c1
  try clear p2
  try clear c3
  try clear c5
  try clear c12
  try clear c14
  try clear c14b0
  try clear c14b1
  try clear c16
  try clear c16b0
  try clear c16b1
  obtain ⟨kq, x36_6, rfl, HA, HJ6, HO_4, HO_5, HB⟩ := hcut
  cases kq with
  | zero => exact absurd HA.out (by simp [laws_FnMemTexts.j0])
  | succ kj6 =>
   have H := HA.out
   clear HA
   simp only [laws_FnMemTexts.j0] at H
   by_cases c29 : x36_6 = true
   ·subst c29
    have H1 : (some false) = some r := by rw [if_pos rfl] at H; exact H
    clear H
    have H := H1
    clear H1
    obtain rfl := Option.some.inj H
    go_wp2
    go_ret
    exact ⟨zE7, zB7_0⟩
   replace c29 := Bool.eq_false_iff.mpr c29
   subst c29
   have H1 : (if (t310.length : Int) = (t311.length : Int) then ((laws_words.f kj6 t310).bind fun t321 => (if t321 = true then ((laws_words.f kj6 t311).bind fun t322 => (if t322 = true then (if (t310.length : Int) = 24 then ((laws_sameInts.f kj6 t310 t311).bind fun t323 => (some ((t316.toList == ([] : List UInt8)) == t323))) else (some (t316.toList == ([] : List UInt8)))) else (some (t316.toList == ([] : List UInt8))))) else (some (t316.toList == ([] : List UInt8))))) else (some (t316.toList == ([] : List UInt8)))) = some r := by rw [if_neg (show ¬ (false = true) by decide)] at H; exact H
   clear H
   have H := H1
   clear H1
   by_cases c30 : (t310.length : Int) = (t311.length : Int)
   rotate_left
   ·rw [if_neg c30] at H
    have c30b0 : ((t310.length : Int) == (t311.length : Int)) = false := beq_eq_false_iff_ne.mpr c30
    have c30b1 : ((t310.length : Int) != (t311.length : Int)) = true := bne_iff_ne.mpr c30
    have c30b2 : (t310.length == t311.length) = false := by first | simpa using c30 | (simp at c30 ⊢; omega)
    obtain rfl := Option.some.inj H
    go_wp2
    go_ret
    exact ⟨zE7, zB7_0⟩
   rw [if_pos c30] at H
   have c30b0 : ((t310.length : Int) == (t311.length : Int)) = true := beq_iff_eq.mpr c30
   have c30b1 : ((t310.length : Int) != (t311.length : Int)) = false := bne_eq_false_iff_eq.mpr c30
   have c30b2 : (t310.length == t311.length) = true := by first | simpa using c30 | (simp at c30 ⊢; omega)
   clear c30
   replace H := Option.bind_eq_some_iff.mp H
   obtain ⟨t321, A310, H⟩ := H
   replace H : (if t321 = true then ((laws_words.f kj6 t311).bind fun t322 => (if t322 = true then (if (t310.length : Int) = 24 then ((laws_sameInts.f kj6 t310 t311).bind fun t323 => (some ((t316.toList == ([] : List UInt8)) == t323))) else (some (t316.toList == ([] : List UInt8)))) else (some (t316.toList == ([] : List UInt8))))) else (some (t316.toList == ([] : List UInt8)))) = some r := H
   have A31 := Aside0.mk A310
   clear A310
   by_cases c32 : t321 = true
   rotate_left
   ·replace c32 := Bool.eq_false_iff.mpr c32
    subst c32
    have H1 : (some (t316.toList == ([] : List UInt8))) = some r := by rw [if_neg (show ¬ (false = true) by decide)] at H; exact H
    clear H
    have H := H1
    clear H1
    obtain rfl := Option.some.inj H
    go_wp2_with (first | (go_at_call 59; (with_reducible refine (laws_words.calls kj6 _ _ t310 false _ ?side1 ?side2 A31.out).mono ?_); (case side1 => exact zC7 (Kd.R_reads' HO_4.out).2.2); (case side2 => exact (Kd.R_reads' HO_4.out).2.1); rintro e w' ⟨rfl, ⟨nd, rfl⟩⟩))
    go_ret
    exact ⟨zE7, zB7_0⟩
   subst c32
   have H1 : ((laws_words.f kj6 t311).bind fun t322 => (if t322 = true then (if (t310.length : Int) = 24 then ((laws_sameInts.f kj6 t310 t311).bind fun t323 => (some ((t316.toList == ([] : List UInt8)) == t323))) else (some (t316.toList == ([] : List UInt8)))) else (some (t316.toList == ([] : List UInt8))))) = some r := by rw [if_pos rfl] at H; exact H
   clear H
   have H := H1
   clear H1
   replace H := Option.bind_eq_some_iff.mp H
   obtain ⟨t322, A330, H⟩ := H
   replace H : (if t322 = true then (if (t310.length : Int) = 24 then ((laws_sameInts.f kj6 t310 t311).bind fun t323 => (some ((t316.toList == ([] : List UInt8)) == t323))) else (some (t316.toList == ([] : List UInt8)))) else (some (t316.toList == ([] : List UInt8)))) = some r := H
   have A33 := Aside0.mk A330
   clear A330
   by_cases c34 : t322 = true
   rotate_left
   ·replace c34 := Bool.eq_false_iff.mpr c34
    subst c34
    have H1 : (some (t316.toList == ([] : List UInt8))) = some r := by rw [if_neg (show ¬ (false = true) by decide)] at H; exact H
    clear H
    have H := H1
    clear H1
    obtain rfl := Option.some.inj H
    go_wp2_with (first | (go_at_call 59; (with_reducible refine (laws_words.calls kj6 _ _ t310 true _ ?side1 ?side2 A31.out).mono ?_); (case side1 => exact zC7 (Kd.R_reads' HO_4.out).2.2); (case side2 => exact (Kd.R_reads' HO_4.out).2.1); rintro e w' ⟨rfl, ⟨nd, rfl⟩⟩) | (go_at_call 59; (with_reducible refine (laws_words.calls kj6 _ _ t311 false _ ?side1 ?side2 A33.out).mono ?_); (case side1 => exact zC7 (Kd.Q_reads' HO_5.out).2.2); (case side2 => exact (Kd.Q_reads' HO_5.out).2.1); rintro e w' ⟨rfl, ⟨nd, rfl⟩⟩))
    go_ret
    exact ⟨zE7, zB7_0⟩
   subst c34
   have H1 : (if (t310.length : Int) = 24 then ((laws_sameInts.f kj6 t310 t311).bind fun t323 => (some ((t316.toList == ([] : List UInt8)) == t323))) else (some (t316.toList == ([] : List UInt8)))) = some r := by rw [if_pos rfl] at H; exact H
   clear H
   have H := H1
   clear H1
   by_cases c35 : (t310.length : Int) = 24
   rotate_left
   ·rw [if_neg c35] at H
    have c35b0 : ((t310.length : Int) == 24) = false := beq_eq_false_iff_ne.mpr c35
    have c35b1 : ((t310.length : Int) != 24) = true := bne_iff_ne.mpr c35
    obtain rfl := Option.some.inj H
    go_wp2_with (first | (go_at_call 59; (with_reducible refine (laws_words.calls kj6 _ _ t310 true _ ?side1 ?side2 A31.out).mono ?_); (case side1 => exact zC7 (Kd.R_reads' HO_4.out).2.2); (case side2 => exact (Kd.R_reads' HO_4.out).2.1); rintro e w' ⟨rfl, ⟨nd, rfl⟩⟩) | (go_at_call 59; (with_reducible refine (laws_words.calls kj6 _ _ t311 true _ ?side1 ?side2 A33.out).mono ?_); (case side1 => exact zC7 (Kd.Q_reads' HO_5.out).2.2); (case side2 => exact (Kd.Q_reads' HO_5.out).2.1); rintro e w' ⟨rfl, ⟨nd, rfl⟩⟩))
    go_ret
    exact ⟨zE7, zB7_0⟩
   rw [if_pos c35] at H
   have c35b0 : ((t310.length : Int) == 24) = true := beq_iff_eq.mpr c35
   have c35b1 : ((t310.length : Int) != 24) = false := bne_eq_false_iff_eq.mpr c35
   clear c35
   replace H := Option.bind_eq_some_iff.mp H
   obtain ⟨t323, A360, H⟩ := H
   replace H : (some ((t316.toList == ([] : List UInt8)) == t323)) = some r := H
   have A36 := Aside0.mk A360
   clear A360
   obtain rfl := Option.some.inj H
   go_wp2_with (first | (go_at_call 59; (with_reducible refine (laws_words.calls kj6 _ _ t310 true _ ?side1 ?side2 A31.out).mono ?_); (case side1 => exact zC7 (Kd.R_reads' HO_4.out).2.2); (case side2 => exact (Kd.R_reads' HO_4.out).2.1); rintro e w' ⟨rfl, ⟨nd, rfl⟩⟩) | (go_at_call 59; (with_reducible refine (laws_words.calls kj6 _ _ t311 true _ ?side1 ?side2 A33.out).mono ?_); (case side1 => exact zC7 (Kd.Q_reads' HO_5.out).2.2); (case side2 => exact (Kd.Q_reads' HO_5.out).2.1); rintro e w' ⟨rfl, ⟨nd, rfl⟩⟩) | ((with_reducible refine gate_callee (f := 38) rfl ?_); refine goesL_ (some 59) rfl rfl Try.func38 (by kernel_rfl) rfl #[.slice Ao10 t310.length co10, .slice Ao11 t311.length co11] rfl zT7 ?_; (with_reducible refine (laws_sameInts.calls kj6 _ _ t310 _ _ t311 t323 _ ?side1 ?side2 ?side3 ?side4 A36.out).mono ?_); (case side1 => exact zC7 (Kd.R_reads' HO_4.out).2.2); (case side2 => exact (Kd.R_reads' HO_4.out).2.1); (case side3 => exact zC7 (Kd.Q_reads' HO_5.out).2.2); (case side4 => exact (Kd.Q_reads' HO_5.out).2.1); rintro e w' ⟨rfl, ⟨nd, rfl⟩⟩; refine ⟨_, rfl, ?_⟩))
   go_ret
   exact ⟨zE7, zB7_0⟩

/-- THE ONE PURE STATEMENT of laws_FnMemTexts: yours. -/
def laws_FnMemTexts.Pure : Prop := ∀ (l0 : List Int), l0.length ≤ maxLen → l0.length * 1 ≤ 140737488351232 → (∀ x ∈ l0, (Lit.int .u8 x).wf = true) → ∃ k, laws_FnMemTexts.f k l0 = some true
theorem laws_FnMemTexts.walk (P : laws_FnMemTexts.Pure) (a0 : Option Addr) (len0 cap0 : Nat) (z0 : List Int) (w : World) (w0 : (a0 = none ∧ len0 = 0 ∧ cap0 = 0 ∧ z0 = []) ∨ ∃ x, a0 = some x ∧ len0 ≤ cap0 ∧ cap0 ≤ maxLen ∧ z0.length = cap0 ∧ (∀ i, i < z0.length → w.cell? (x.add i) = some (.int .u8 (z0.getD i 0))) ∧ ∀ n ∈ z0, (Lit.int .u8 n).wf = true) (y0 : len0 * 1 ≤ 140737488351232) :
  Calls Try.prog 12 #[.slice a0 len0 cap0] w fun e w' => e = .returned (.bool true) ∧ Below w.heap.size w w' := by
 obtain ⟨l0, rfl, hr0, hm0, hw0, hc0⟩ := ReadsInt.ofRowC w0
 obtain ⟨k, h⟩ := P l0 hm0 y0 hw0
 refine (laws_FnMemTexts.calls k _ _ l0 true w (Kd.C_of_reads (d := (0 : Int)) (h1 := fun _ => rfl) hr0) hc0 h).mono ?_
 rintro e w' ⟨rfl, hd⟩
 exact ⟨rfl, hd⟩

end Go.Proofs.Ytnekcbajadnldaa.PFnMemTexts
