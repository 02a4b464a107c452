-- made by wip/tools/myprint.py out of the seat's translation
import Derived.Test.YtehgffgpgoopiaaPFnNoLoopEndsx0
import Derived.Test.YtehgffgpgoopiaaPFnNoLoopEndsx2
import Derived.Test.YtehgffgpgoopiaaPFnNoLoopEndsx3
import Derived.Test.YtehgffgpgoopiaaPFnNoLoopEndsx4
import Derived.Test.YtehgffgpgoopiaaPFnNoLoopEndsx8
namespace Go.Proofs.Ytehgffgpgoopiaa.PFnNoLoopEnds
open Go.RowKit Go.Proofs.YtehgffgpgoopiaaW.PrintWords Go.Proofs.YtehgffgpgoopiaaW.PrintLast Go.Proofs.YtehgffgpgoopiaaW.PrintMore
attribute [local go_sem] max2_int min2_int max_two min_two max_three min_three max_four min_four   -- for this text's walks alone
set_option linter.unusedVariables false
set_option linter.unusedSimpArgs false
theorem zc9_5 {w : World} {g : Nat} {a0 a1 a2 a3 a4 : Value} {t : TypeId} (h : w.heap[g]? = some (.cells #[a0, a1, a2, a3, a4] t (0, 0))) : w.cell? ⟨g, 0, none⟩ = some a0 ∧ w.cell? ⟨g, 1, none⟩ = some a1 ∧ w.cell? ⟨g, 2, none⟩ = some a2 ∧ w.cell? ⟨g, 3, none⟩ = some a3 ∧ w.cell? ⟨g, 4, none⟩ = some a4 ∧ w.frozen? ⟨g, 0, none⟩ = false ∧ w.frozen? ⟨g, 1, none⟩ = false ∧ w.frozen? ⟨g, 2, none⟩ = false ∧ w.frozen? ⟨g, 3, none⟩ = false ∧ w.frozen? ⟨g, 4, none⟩ = false := ⟨(blk_cell h 0).trans rfl, (blk_cell h 1).trans rfl, (blk_cell h 2).trans rfl, (blk_cell h 3).trans rfl, (blk_cell h 4).trans rfl, blk_frozen h 0, blk_frozen h 1, blk_frozen h 2, blk_frozen h 3, blk_frozen h 4⟩
theorem zR9 {p q : Prop} (x : q) (h : q → p := by intro h; (with_reducible repeat (first | apply Kd.R_alloc | apply Kd.R_drewN | apply Kd.R_drew)); exact h) : p := h x
theorem zK9 {p q : Prop} (x : q) (h : q → p := by intro h; (with_reducible repeat (first | refine blk_drewN ?_ _ | refine blk_drew ?_ | refine blk_alloc ?_ _)); exact h) : p := h x
theorem zA9 {p : Prop} [Decidable p] (h : decide p = true := by first | (with_reducible assumption) | assumption) : p := of_decide_eq_true h
theorem zT9 {p : Prop} (h : p := by (try simp only [List.map_toArray, List.map_cons, List.map_nil]); first | done | rfl | (simp only [List.length_drop, List.length_take]; rfl)) : p := h
theorem zC9 {p q : Prop} (x : q) (h : q → p := by intro h; repeat (first | exact h | (with_reducible refine Kd.C_alloc ?_ _) | (with_reducible refine Kd.C_drewN ?_ _) | (with_reducible refine Kd.C_drew ?_))) : p := h x
theorem zb9 {W w w1 : World} {g : Nat} {o : Obj} (x : W.heap[g]? = some o) (hb : Below w.heap.size w w1) (h : W.heap[g]? = some o → w.heap[g]? = some o := by intro h; (with_reducible repeat (first | refine blk_drewN ?_ _ | refine blk_drew ?_ | refine blk_alloc ?_ _)); exact h) : w1.heap[g]? = some o := blk_below (h x) hb
theorem zP9 {p q : Prop} (x : q) (h : q → p := by intro h; (with_reducible repeat (first | refine blk_drewN ?_ _ | refine blk_drew ?_ | refine blk_alloc ?_ _)); exact h) : p := h x
theorem zE9 {p : Prop} (h : p := by first | rfl | (simp [errW_none, errW_some] <;> rfl) | (simp [*, errW_none, errW_some] <;> rfl)) : p := h
theorem zB9_0 {p : Prop} (h : p := by repeat (first | (with_reducible first | exact HB.out | apply below_alloc | apply pw_below_drewN | apply below_drew1) | exact HB.out)) : p := h
theorem zB9_1 {p : Prop} (h : p := by repeat (first | (with_reducible first | exact HB.out | apply below_alloc | apply pw_below_drewN | apply below_drew1 | refine below_set ?_ GE416.out) | exact HB.out)) : p := h

/-! ### spec_NextOf: function 22 -/
mutual
def spec_NextOf.j0 : Nat → List Int → Int → Bool → Option (List Int)
 | 0, _, _, _ => none
 | k + 1, x0, x1, x16 => if x16 = true then (some (([] : List Int))) else (if 0 ≤ x1 then (if x1 < (x0.length : Int) then ((spec_Decode.f (rd x0 x1)).bind fun bt410 => ((spec_l9Address.f (wrap64 (x1 + 1))).bind fun t417 => ((spec_l9Address.f bt410.2.2.2.2.1).bind fun t418 => (if bt410.2.2.2.2.2 = true then (spec_NextOf.j1 k t417 t418 (bt410.1 == 9) bt410.1 bt410.2.1 bt410.2.2.1 bt410.2.2.2.1 bt410.2.2.2.2.1) else (spec_NextOf.j1 k t417 t418 true bt410.1 bt410.2.1 bt410.2.2.1 bt410.2.2.2.1 bt410.2.2.2.2.1))))) else (none)) else (none))
def spec_NextOf.j1 : Nat → Int → Int → Bool → Int → Int → Int → Int → Int → Option (List Int)
 | 0, _, _, _, _, _, _, _, _ => none
 | k + 1, x7, x8, x32, x417000, x417001, x417002, x417003, x417004 => if x32 = true then (some (([] : List Int))) else (if x417000 = 8 then (some (([x8] : List Int))) else (if x417000 = 7 then (spec_NextOf.j2 k x7 x8 (x8 == x7)) else (spec_NextOf.j2 k x7 x8 true)))
def spec_NextOf.j2 : Nat → Int → Int → Bool → Option (List Int)
 | 0, _, _, _ => none
 | k + 1, x7, x8, x47 => if x47 = true then (some (([x7] : List Int))) else (if x8 < x7 then (some (([x8, x7] : List Int))) else (some (([x7, x8] : List Int))))
end
def spec_NextOf.f (k : Nat) (l0 : List Int) (a1 : Int) : Option (List Int) := (spec_l1Words.f k l0 24).bind fun t404 => (if t404 = true then ((spec_l1In.f a1 0 23).bind fun t405 => (spec_NextOf.j0 k l0 a1 (!t405))) else (spec_NextOf.j0 k l0 a1 true))
theorem spec_NextOf.mono_l : ∀ k, (∀ y0 y1 y2, LeO (spec_NextOf.j0 k y0 y1 y2) (spec_NextOf.j0 (k + 1) y0 y1 y2)) ∧ (∀ y0 y1 y2 y3 y4 y5 y6 y7, LeO (spec_NextOf.j1 k y0 y1 y2 y3 y4 y5 y6 y7) (spec_NextOf.j1 (k + 1) y0 y1 y2 y3 y4 y5 y6 y7)) ∧ (∀ y0 y1 y2, LeO (spec_NextOf.j2 k y0 y1 y2) (spec_NextOf.j2 (k + 1) y0 y1 y2))
 | 0 => ⟨fun _ _ _ r h => by simp [spec_NextOf.j0] at h, fun _ _ _ _ _ _ _ _ r h => by simp [spec_NextOf.j1] at h, fun _ _ _ r h => by simp [spec_NextOf.j2] at h⟩
 | k + 1 => by
  obtain ⟨ih0, ih1, ih2⟩ := spec_NextOf.mono_l k
  refine ⟨?_, ?_, ?_⟩
  ·intro y0 y1 y2
   unfold spec_NextOf.j0
   repeat' first
   | (with_reducible exact ih0 _ _ _)
   | (with_reducible exact ih1 _ _ _ _ _ _ _ _)
   | (with_reducible exact ih2 _ _ _)
   | (with_reducible exact spec_l1Words.mono _ _ _)
   | (with_reducible exact LeO.refl _)
   | (with_reducible exact LeO.none _)
   | (with_reducible refine LeO.ite ?_ ?_)
   | (with_reducible refine LeO.bind ?_ (fun _ => ?_))
   | exact ih0 _ _ _
   | exact ih1 _ _ _ _ _ _ _ _
   | exact ih2 _ _ _
   | exact spec_l1Words.mono _ _ _
   | exact LeO.none _
   | refine LeO.ite ?_ ?_
   | refine LeO.bind ?_ (fun _ => ?_)
  ·intro y0 y1 y2 y3 y4 y5 y6 y7
   unfold spec_NextOf.j1
   repeat' first
   | (with_reducible exact ih0 _ _ _)
   | (with_reducible exact ih1 _ _ _ _ _ _ _ _)
   | (with_reducible exact ih2 _ _ _)
   | (with_reducible exact spec_l1Words.mono _ _ _)
   | (with_reducible exact LeO.refl _)
   | (with_reducible exact LeO.none _)
   | (with_reducible refine LeO.ite ?_ ?_)
   | (with_reducible refine LeO.bind ?_ (fun _ => ?_))
   | exact ih0 _ _ _
   | exact ih1 _ _ _ _ _ _ _ _
   | exact ih2 _ _ _
   | exact spec_l1Words.mono _ _ _
   | exact LeO.none _
   | refine LeO.ite ?_ ?_
   | refine LeO.bind ?_ (fun _ => ?_)
  ·intro y0 y1 y2
   unfold spec_NextOf.j2
   repeat' first
   | (with_reducible exact ih0 _ _ _)
   | (with_reducible exact ih1 _ _ _ _ _ _ _ _)
   | (with_reducible exact ih2 _ _ _)
   | (with_reducible exact spec_l1Words.mono _ _ _)
   | (with_reducible exact LeO.refl _)
   | (with_reducible exact LeO.none _)
   | (with_reducible refine LeO.ite ?_ ?_)
   | (with_reducible refine LeO.bind ?_ (fun _ => ?_))
   | exact ih0 _ _ _
   | exact ih1 _ _ _ _ _ _ _ _
   | exact ih2 _ _ _
   | exact spec_l1Words.mono _ _ _
   | exact LeO.none _
   | refine LeO.ite ?_ ?_
   | refine LeO.bind ?_ (fun _ => ?_)
theorem spec_NextOf.mono : ∀ a0 a1 k, LeO (spec_NextOf.f k a0 a1) (spec_NextOf.f (k + 1) a0 a1) := by
 intro a0 a1 k
 obtain ⟨ih0, ih1, ih2⟩ := spec_NextOf.mono_l k
 unfold spec_NextOf.f
 repeat' first
   | (with_reducible exact ih0 _ _ _)
   | (with_reducible exact ih1 _ _ _ _ _ _ _ _)
   | (with_reducible exact ih2 _ _ _)
   | (with_reducible exact spec_l1Words.mono _ _ _)
   | (with_reducible exact LeO.refl _)
   | (with_reducible exact LeO.none _)
   | (with_reducible refine LeO.ite ?_ ?_)
   | (with_reducible refine LeO.bind ?_ (fun _ => ?_))
   | exact ih0 _ _ _
   | exact ih1 _ _ _ _ _ _ _ _
   | exact ih2 _ _ _
   | exact spec_l1Words.mono _ _ _
   | exact LeO.none _
   | refine LeO.ite ?_ ?_
   | refine LeO.bind ?_ (fun _ => ?_)
set_option maxHeartbeats 8000000 in
set_option maxRecDepth 100000 in
theorem spec_NextOf.calls (k : Nat) (A0 : Option Addr) (c0 : Nat) (l0 : List Int) (a1 : Int) (r : List Int) (w : World) (hr0 : Kd.C (Kd.int .i64) w A0 l0.length l0) (hc0 : l0.length ≤ c0) (h : spec_NextOf.f k l0 a1 = some r) :
  Calls Try.prog 22 #[.slice A0 l0.length c0, .int .i64 a1] w fun e w' => ∃ v0_ : Value, e = .returned (v0_) ∧ Kd.R (Kd.int .i64) 3 w' w.heap.size (fun _ => True) v0_ r ∧ Below w.heap.size w w' := by
 have hu44 := Try.underlying44
 have HR0 := Aside0.mk hr0
 have HC0 := Aside0.mk hc0
 clear hr0 hc0
 have HB := Aside0.mk (Below.refl w.heap.size w)
 have H : ((spec_l1Words.f k l0 24).bind fun t404 => (if t404 = true then ((spec_l1In.f a1 0 23).bind fun t405 => (spec_NextOf.j0 k l0 a1 (!t405))) else (spec_NextOf.j0 k l0 a1 true))) = some r := h
 clear h
 have HC3 := Aside0.mk H
 clear H
 go_enter Try.func22, Try.ntmps22
 go_upto_region 1 with (fail)
 go_cut [16] (fun v16 wc => ∃ (kq : Nat) (x16_2 : Bool), v16 = .bool x16_2 ∧ Aside0 (spec_NextOf.j0 kq l0 a1 x16_2 = some r) ∧ Aside0 (kq ≤ k) ∧ Aside0 (Below w.heap.size w wc))
 case first =>
  have H := HC3.out
  clear HC3
  replace H := Option.bind_eq_some_iff.mp H
  obtain ⟨t404, A40, H⟩ := H
  replace H : (if t404 = true then ((spec_l1In.f a1 0 23).bind fun t405 => (spec_NextOf.j0 k l0 a1 (!t405))) else (spec_NextOf.j0 k l0 a1 true)) = some r := H
  have A4 := Aside0.mk A40
  clear A40
  by_cases c5 : t404 = true
  rotate_left
  ·replace c5 := Bool.eq_false_iff.mpr c5
   subst c5
   have H1 : (spec_NextOf.j0 k l0 a1 true) = some r := by rw [if_neg (show ¬ (false = true) by decide)] at H; exact H
   clear H
   have H := H1
   clear H1
   have H' := Aside0.mk H
   clear H
   go_wp2_with (first | ((with_reducible refine gate_callee (f := 42) rfl ?_); refine goesL_ (some 10) rfl rfl Try.func42 (by kernel_rfl) rfl #[.slice A0 l0.length c0, .int .i64 24] rfl zT9 ?_; (with_reducible refine (spec_l1Words.calls k _ _ l0 24 false _ ?side1 ?side2 A4.out).mono ?_); (case side1 => exact zC9 (Kd.C_below HR0.out HB.out)); (case side2 => exact HC0.out); rintro e w' ⟨rfl, ⟨nd, rfl⟩⟩; refine ⟨_, rfl, ?_⟩))
   go_meet
   case rel => exact ⟨_, (true), (by first | rfl | (simp; done) | (simp [*]; done)), H', ⟨by first | omega | exact Nat.le_refl _⟩, ⟨zB9_0⟩⟩
  subst c5
  have H1 : ((spec_l1In.f a1 0 23).bind fun t405 => (spec_NextOf.j0 k l0 a1 (!t405))) = some r := by rw [if_pos rfl] at H; exact H
  clear H
  have H := H1
  clear H1
  replace H := Option.bind_eq_some_iff.mp H
  obtain ⟨t405, A60, H⟩ := H
  replace H : (spec_NextOf.j0 k l0 a1 (!t405)) = some r := H
  have A6 := Aside0.mk A60
  clear A60
  have H' := Aside0.mk H
  clear H
  go_wp2_with (first | ((with_reducible refine gate_callee (f := 42) rfl ?_); refine goesL_ (some 10) rfl rfl Try.func42 (by kernel_rfl) rfl #[.slice A0 l0.length c0, .int .i64 24] rfl zT9 ?_; (with_reducible refine (spec_l1Words.calls k _ _ l0 24 true _ ?side1 ?side2 A4.out).mono ?_); (case side1 => exact zC9 (Kd.C_below HR0.out HB.out)); (case side2 => exact HC0.out); rintro e w' ⟨rfl, ⟨nd, rfl⟩⟩; refine ⟨_, rfl, ?_⟩) | (go_at_call 43; (with_reducible refine (spec_l1In.calls a1 0 23 t405 _ A6.out).mono ?_); rintro e w' ⟨rfl, ⟨nd, rfl⟩⟩))
  go_meet
  case rel => exact ⟨_, (!t405), (by first | rfl | (simp; done) | (simp [*]; done)), H', ⟨by first | omega | exact Nat.le_refl _⟩, ⟨zB9_0⟩⟩
 case rest =>
  clear HC3
  try clear c2
  try clear p2
  try clear c4
  try clear c5
  obtain ⟨kq, x16_2, rfl, HA, HJ2, HB⟩ := hcut
  cases kq with
  | zero => exact absurd HA.out (by simp [spec_NextOf.j0])
  | succ kj2 =>
   have H := HA.out
   clear HA
   simp only [spec_NextOf.j0] at H
   by_cases c7 : x16_2 = true
   ·subst c7
    have H1 : (some (([] : List Int))) = some r := by rw [if_pos rfl] at H; exact H
    clear H
    have H := H1
    clear H1
    obtain ⟨y406, hy406⟩ : ∃ y_ : List Int, y_ = (([] : List Int)) := ⟨_, rfl⟩
    replace H : (some y406) = some r := by first | (rw [hy406]; with_reducible exact H) | (have H2_ := (Option.bind_some _ _).symm.trans H; rw [hy406]; with_reducible exact H2_) | (have H2_ := (Option.bind_some _ _).symm.trans H; with_reducible exact H2_) | with_reducible exact H | (rw [hy406]; exact H) | exact H
    have Ny406 := Aside0.mk hy406
    clear hy406
    obtain rfl := Option.some.inj H
    go_wp2_with (first | ((with_reducible refine gate_dst (N := 17) rfl ?_); refine Kd.R_lit (Kd.int .i64) _ 3 ?hg (N := 17) ?hd (xs := ([] : List Int)) (inner := []) (ok := fun _ => True) (okp := fun _ => True) ?hr ?hp (fun _ hk => hk) trivial (Below.refl _ _) (Nat.le_refl _) (by simp) ?_; (case hd => rfl); (case hg => rfl); (case hr => first | (go_simp; done) | (go_simp; rfl)); (case hp => exact (Reps.none _ _)); intro v407 w8 ho9 hb hg_ hnew_; clear hg_ hnew_; (first | rw [← Ny406.out] at ho9 | (simp only [Int.reduceToNat] at ho9; rw [← Ny406.out] at ho9)); have n0_ := Aside0.mk (Kd.R_lower ho9 (below_size (zB9_0))); have n1_ := Aside0.mk (below_step (zB9_0) hb); clear HB; have HO408 := n0_; have HB := n1_; clear n0_ n1_; clear hb ho9))
    go_ret
    exact ⟨_, zE9, zR9 HO408.out, zB9_0⟩
   replace c7 := Bool.eq_false_iff.mpr c7
   subst c7
   have H1 : (if 0 ≤ a1 then (if a1 < (l0.length : Int) then ((spec_Decode.f (rd l0 a1)).bind fun bt410 => ((spec_l9Address.f (wrap64 (a1 + 1))).bind fun t417 => ((spec_l9Address.f bt410.2.2.2.2.1).bind fun t418 => (if bt410.2.2.2.2.2 = true then (spec_NextOf.j1 kj2 t417 t418 (bt410.1 == 9) bt410.1 bt410.2.1 bt410.2.2.1 bt410.2.2.2.1 bt410.2.2.2.2.1) else (spec_NextOf.j1 kj2 t417 t418 true bt410.1 bt410.2.1 bt410.2.2.1 bt410.2.2.2.1 bt410.2.2.2.2.1))))) else (none)) else (none)) = some r := by rw [if_neg (show ¬ (false = true) by decide)] at H; exact H
   clear H
   have H := H1
   clear H1
   by_cases c10 : 0 ≤ a1
   rotate_left
   ·rw [if_neg c10] at H
    exact absurd H (by simp)
   rw [if_pos c10] at H
   have c10b0 : decide (0 ≤ a1) = true := decide_eq_true c10
   clear c10
   by_cases c11 : a1 < (l0.length : Int)
   rotate_left
   ·rw [if_neg c11] at H
    exact absurd H (by simp)
   rw [if_pos c11] at H
   have c11b0 : decide (a1 < (l0.length : Int)) = true := decide_eq_true c11
   clear c11
   replace H := Option.bind_eq_some_iff.mp H
   obtain ⟨⟨t410, t411, t412, t413, t414, t415⟩, A120, H⟩ := H
   replace H : ((spec_l9Address.f (wrap64 (a1 + 1))).bind fun t417 => ((spec_l9Address.f t414).bind fun t418 => (if t415 = true then (spec_NextOf.j1 kj2 t417 t418 (t410 == 9) t410 t411 t412 t413 t414) else (spec_NextOf.j1 kj2 t417 t418 true t410 t411 t412 t413 t414)))) = some r := H
   have A12 := Aside0.mk A120
   clear A120
   replace H := Option.bind_eq_some_iff.mp H
   obtain ⟨t417, A130, H⟩ := H
   replace H : ((spec_l9Address.f t414).bind fun t418 => (if t415 = true then (spec_NextOf.j1 kj2 t417 t418 (t410 == 9) t410 t411 t412 t413 t414) else (spec_NextOf.j1 kj2 t417 t418 true t410 t411 t412 t413 t414))) = some r := H
   have A13 := Aside0.mk A130
   clear A130
   replace H := Option.bind_eq_some_iff.mp H
   obtain ⟨t418, A140, H⟩ := H
   replace H : (if t415 = true then (spec_NextOf.j1 kj2 t417 t418 (t410 == 9) t410 t411 t412 t413 t414) else (spec_NextOf.j1 kj2 t417 t418 true t410 t411 t412 t413 t414)) = some r := H
   have A14 := Aside0.mk A140
   clear A140
   have HC15 := Aside0.mk H
   clear H
   have p409 : 0 ≤ (a1 : Int) := zA9
   have q409 : a1 < (l0.length : Int) := zA9
   obtain ⟨ad409, e409, hx409_0⟩ := Kd.at_int HR0.out a1 p409 q409
   cases e409
   replace hx409_0 := (HB.out.cell (World.block_lt_of_cell? w _ hx409_0)).trans hx409_0
   replace p409 := eq_true p409
   replace q409 := eq_true q409
   go_upto_region 6 with (first | ((with_reducible refine gate_callee (f := 25) rfl ?_); refine goesL_ (some 23) rfl rfl Try.func25 (by kernel_rfl) rfl #[.int .i64 (rd l0 a1)] rfl zT9 ?_; (with_reducible refine (spec_Decode.calls (rd l0 a1) t410 t411 t412 t413 t414 t415 _ A12.out).mono ?_); rintro e w16 ⟨rfl, hb⟩; refine ⟨_, rfl, ?_⟩; have n0_ := Aside0.mk (below_step (zB9_0) hb); clear HB; have HB := n0_; clear n0_; (try clear hb); (try clear hb2); (try clear hk); (try clear hi)) | ((with_reducible refine gate_dst (N := 5) rfl ?_); refine box_event ?hg (N := 5) ?hd (cs := #[.int .i64 0, .int .i64 0, .int .i64 0, .int .i64 0, .int .i64 0]) (t := 44) ?hr ?_; (case hd => rfl); (case hg => rfl); (case hr => first | (go_simp; done) | (go_simp; rfl)); intro gb416 hg w17 hbox hb; have n0_ := Aside0.mk (below_step (zB9_0) hb); have n1_ := Aside0.mk (hbox); have n2_ := Aside0.mk ((by rw [hg]; exact (below_size (zB9_0)) : w.heap.size ≤ gb416)); have n3_ := Aside0.mk ((by rw [hg]; exact (below_size (zB9_0)) : w.heap.size ≤ gb416)); clear HB; have HB := n0_; have BK416 := n1_; have GW416 := n2_; have GE416 := n3_; clear n0_ n1_ n2_ n3_; clear hb hbox hg; obtain ⟨hcz18_0, hcz18_1, hcz18_2, hcz18_3, hcz18_4, hfz18_0, hfz18_1, hfz18_2, hfz18_3, hfz18_4⟩ := zc9_5 (w := w17) BK416.out) | ((with_reducible refine gate_callee (f := 44) rfl ?_); refine goesL_ (some 28) rfl rfl Try.func44 (by kernel_rfl) rfl #[.int .i64 (wrap64 (a1 + 1))] rfl zT9 ?_; (with_reducible refine (spec_l9Address.calls (wrap64 (a1 + 1)) t417 _ A13.out).mono ?_); rintro e w' ⟨rfl, ⟨nd, rfl⟩⟩; refine ⟨_, rfl, ?_⟩) | ((with_reducible refine gate_callee (f := 44) rfl ?_); refine goesL_ (some 31) rfl rfl Try.func44 (by kernel_rfl) rfl #[.int .i64 t414] rfl zT9 ?_; (with_reducible refine (spec_l9Address.calls t414 t418 _ A14.out).mono ?_); rintro e w' ⟨rfl, ⟨nd, rfl⟩⟩; refine ⟨_, rfl, ?_⟩))
   (try simp only [Act.put, List.setIfInBounds_toArray, List.set_cons_zero, List.set_cons_succ])
   go_cut [32] (fun v32 wc => ∃ (kq : Nat) (x32_14 : Bool), v32 = .bool x32_14 ∧ Aside0 (spec_NextOf.j1 kq t417 t418 x32_14 t410 t411 t412 t413 t414 = some r) ∧ Aside0 (kq ≤ kj2) ∧ Aside0 (wc.heap[gb416]? = some (.cells #[.int .i64 t410, .int .i64 t411, .int .i64 t412, .int .i64 t413, .int .i64 t414] 44 (0, 0))) ∧ Aside0 (Below w.heap.size w wc))
   case first =>
    have H := HC15.out
    clear HC15
    by_cases c19 : t415 = true
    rotate_left
    ·replace c19 := Bool.eq_false_iff.mpr c19
     subst c19
     have H1 : (spec_NextOf.j1 kj2 t417 t418 true t410 t411 t412 t413 t414) = some r := by rw [if_neg (show ¬ (false = true) by decide)] at H; exact H
     clear H
     have H := H1
     clear H1
     have H' := Aside0.mk H
     clear H
     go_wp2
     go_meet
     case rel => exact ⟨_, (true), (by first | rfl | (simp; done) | (simp [*]; done)), H', ⟨by have := HJ2.out; first | omega | exact Nat.le_refl _⟩, ⟨by refine zP9 ?_; refine blk_put (cs := #[.int .i64 t410, .int .i64 t411, .int .i64 t412, .int .i64 t413, .int .i64 0]) ?_ 4 _ rfl; refine zP9 ?_; refine blk_put (cs := #[.int .i64 t410, .int .i64 t411, .int .i64 t412, .int .i64 0, .int .i64 0]) ?_ 3 _ rfl; refine zP9 ?_; refine blk_put (cs := #[.int .i64 t410, .int .i64 t411, .int .i64 0, .int .i64 0, .int .i64 0]) ?_ 2 _ rfl; refine zP9 ?_; refine blk_put (cs := #[.int .i64 t410, .int .i64 0, .int .i64 0, .int .i64 0, .int .i64 0]) ?_ 1 _ rfl; refine zP9 ?_; refine blk_put (cs := #[.int .i64 0, .int .i64 0, .int .i64 0, .int .i64 0, .int .i64 0]) ?_ 0 _ rfl; refine zP9 ?_; exact BK416.out⟩, ⟨zB9_1⟩⟩
    subst c19
    have H1 : (spec_NextOf.j1 kj2 t417 t418 (t410 == 9) t410 t411 t412 t413 t414) = some r := by rw [if_pos rfl] at H; exact H
    clear H
    have H := H1
    clear H1
    have H' := Aside0.mk H
    clear H
    obtain ⟨hcz20_0, hcz20_1, hcz20_2, hcz20_3, hcz20_4, hfz20_0, hfz20_1, hfz20_2, hfz20_3, hfz20_4⟩ := zc9_5 (w := w17) BK416.out
    go_wp2
    go_meet
    case rel => exact ⟨_, ((t410 == 9)), (by first | rfl | (simp; done) | (simp [*]; done)), H', ⟨by have := HJ2.out; first | omega | exact Nat.le_refl _⟩, ⟨by refine zP9 ?_; refine blk_put (cs := #[.int .i64 t410, .int .i64 t411, .int .i64 t412, .int .i64 t413, .int .i64 0]) ?_ 4 _ rfl; refine zP9 ?_; refine blk_put (cs := #[.int .i64 t410, .int .i64 t411, .int .i64 t412, .int .i64 0, .int .i64 0]) ?_ 3 _ rfl; refine zP9 ?_; refine blk_put (cs := #[.int .i64 t410, .int .i64 t411, .int .i64 0, .int .i64 0, .int .i64 0]) ?_ 2 _ rfl; refine zP9 ?_; refine blk_put (cs := #[.int .i64 t410, .int .i64 0, .int .i64 0, .int .i64 0, .int .i64 0]) ?_ 1 _ rfl; refine zP9 ?_; refine blk_put (cs := #[.int .i64 0, .int .i64 0, .int .i64 0, .int .i64 0, .int .i64 0]) ?_ 0 _ rfl; refine zP9 ?_; exact BK416.out⟩, ⟨zB9_1⟩⟩
   case rest =>
    clear HC15
    try clear c1
    try clear c2
    try clear p2
    try clear c4
    try clear p4
    try clear q4
    try clear hx4
    try clear c5
    try clear p6
    try clear c7
    try clear c10
    try clear c10b0
    try clear c11
    try clear c11b0
    try clear c19
    try clear hcz18_0
    try clear hcz18_1
    try clear hcz18_2
    try clear hcz18_3
    try clear hcz18_4
    try clear hcz20_0
    try clear hcz20_1
    try clear hcz20_2
    try clear hcz20_3
    try clear hcz20_4
    try clear hfz18_0
    try clear hfz18_1
    try clear hfz18_2
    try clear hfz18_3
    try clear hfz18_4
    try clear hfz20_0
    try clear hfz20_1
    try clear hfz20_2
    try clear hfz20_3
    try clear hfz20_4
    try clear hx409_0
    try clear p2
    try clear p409
    try clear q409
    obtain ⟨kq, x32_14, rfl, HA, HJ14, BK416, HB⟩ := hcut
    cases kq with
    | zero => exact absurd HA.out (by simp [spec_NextOf.j1])
    | succ kj14 =>
     have H := HA.out
     clear HA
     simp only [spec_NextOf.j1] at H
     by_cases c21 : x32_14 = true
     ·subst c21
      have H1 : (some (([] : List Int))) = some r := by rw [if_pos rfl] at H; exact H
      clear H
      have H := H1
      clear H1
      obtain ⟨y419, hy419⟩ : ∃ y_ : List Int, y_ = (([] : List Int)) := ⟨_, rfl⟩
      replace H : (some y419) = some r := by first | (rw [hy419]; with_reducible exact H) | (have H2_ := (Option.bind_some _ _).symm.trans H; rw [hy419]; with_reducible exact H2_) | (have H2_ := (Option.bind_some _ _).symm.trans H; with_reducible exact H2_) | with_reducible exact H | (rw [hy419]; exact H) | exact H
      have Ny419 := Aside0.mk hy419
      clear hy419
      obtain rfl := Option.some.inj H
      go_wp2_with (first | ((with_reducible refine gate_dst (N := 40) rfl ?_); refine Kd.R_lit (Kd.int .i64) _ 3 ?hg (N := 40) ?hd (xs := ([] : List Int)) (inner := []) (ok := fun _ => True) (okp := fun _ => True) ?hr ?hp (fun _ hk => hk) trivial (Below.refl _ _) (Nat.le_refl _) (by simp) ?_; (case hd => rfl); (case hg => rfl); (case hr => first | (go_simp; done) | (go_simp; rfl)); (case hp => exact (Reps.none _ _)); intro v420 w22 ho23 hb hg_ hnew_; clear hg_ hnew_; (first | rw [← Ny419.out] at ho23 | (simp only [Int.reduceToNat] at ho23; rw [← Ny419.out] at ho23)); have n0_ := Aside0.mk (Kd.R_lower ho23 (below_size (zB9_1))); have n1_ := Aside0.mk (zb9 BK416.out hb); have n2_ := Aside0.mk (below_step (zB9_1) hb); clear BK416; clear HB; have HO421 := n0_; have BK416 := n1_; have HB := n2_; clear n0_ n1_ n2_; clear hb ho23))
      go_ret
      exact ⟨_, zE9, zR9 HO421.out, zB9_1⟩
     replace c21 := Bool.eq_false_iff.mpr c21
     subst c21
     have H1 : (if t410 = 8 then (some (([t418] : List Int))) else (if t410 = 7 then (spec_NextOf.j2 kj14 t417 t418 (t418 == t417)) else (spec_NextOf.j2 kj14 t417 t418 true))) = some r := by rw [if_neg (show ¬ (false = true) by decide)] at H; exact H
     clear H
     have H := H1
     clear H1
     by_cases c24 : t410 = 8
     ·rw [if_pos c24] at H
      have c24b0 : (t410 == 8) = true := beq_iff_eq.mpr c24
      have c24b1 : (t410 != 8) = false := bne_eq_false_iff_eq.mpr c24
      clear c24
      obtain ⟨y422, hy422⟩ : ∃ y_ : List Int, y_ = (([t418] : List Int)) := ⟨_, rfl⟩
      replace H : (some y422) = some r := by first | (rw [hy422]; with_reducible exact H) | (have H2_ := (Option.bind_some _ _).symm.trans H; rw [hy422]; with_reducible exact H2_) | (have H2_ := (Option.bind_some _ _).symm.trans H; with_reducible exact H2_) | with_reducible exact H | (rw [hy422]; exact H) | exact H
      have Ny422 := Aside0.mk hy422
      clear hy422
      obtain rfl := Option.some.inj H
      obtain ⟨hcz25_0, hcz25_1, hcz25_2, hcz25_3, hcz25_4, hfz25_0, hfz25_1, hfz25_2, hfz25_3, hfz25_4⟩ := zc9_5 (w := wc) BK416.out
      go_wp2_with (first | ((with_reducible refine gate_dst (N := 46) rfl ?_); refine Kd.R_lit (Kd.int .i64) _ 3 ?hg (N := 46) ?hd (xs := ([t418] : List Int)) (inner := [.int .i64 t418]) (ok := fun _ => True) (okp := fun _ => True) ?hr ?hp (fun _ hk => hk) trivial (Below.refl _ _) (Nat.le_refl _) (by simp) ?_; (case hd => rfl); (case hg => rfl); (case hr => first | (go_simp; done) | (go_simp; rfl)); (case hp => exact (Reps.one (show Kd.M (Kd.int .i64) _ _ _ t418 [.int .i64 t418] from rfl) (Reps.none _ _))); intro v423 w26 ho27 hb hg_ hnew_; clear hg_ hnew_; (first | rw [← Ny422.out] at ho27 | (simp only [Int.reduceToNat] at ho27; rw [← Ny422.out] at ho27)); have n0_ := Aside0.mk (Kd.R_lower ho27 (below_size (zB9_1))); have n1_ := Aside0.mk (zb9 BK416.out hb); have n2_ := Aside0.mk (below_step (zB9_1) hb); clear BK416; clear HB; have HO424 := n0_; have BK416 := n1_; have HB := n2_; clear n0_ n1_ n2_; clear hb ho27))
      go_ret
      exact ⟨_, zE9, zR9 HO424.out, zB9_1⟩
     rw [if_neg c24] at H
     have c24b0 : (t410 == 8) = false := beq_eq_false_iff_ne.mpr c24
     have c24b1 : (t410 != 8) = true := bne_iff_ne.mpr c24
     have HC28 := Aside0.mk H
     clear H
     obtain ⟨hcz29_0, hcz29_1, hcz29_2, hcz29_3, hcz29_4, hfz29_0, hfz29_1, hfz29_2, hfz29_3, hfz29_4⟩ := zc9_5 (w := wc) BK416.out
     go_upto_region 10 with (fail)
     go_cut [47] (fun v47 wc => ∃ (kq : Nat) (x47_27 : Bool), v47 = .bool x47_27 ∧ Aside0 (spec_NextOf.j2 kq t417 t418 x47_27 = some r) ∧ Aside0 (kq ≤ kj14) ∧ Aside0 (wc.heap[gb416]? = some (.cells #[.int .i64 t410, .int .i64 t411, .int .i64 t412, .int .i64 t413, .int .i64 t414] 44 (0, 0))) ∧ Aside0 (Below w.heap.size w wc))
     case first =>
      have H := HC28.out
      clear HC28
      by_cases c30 : t410 = 7
      rotate_left
      ·rw [if_neg c30] at H
       have c30b0 : (t410 == 7) = false := beq_eq_false_iff_ne.mpr c30
       have c30b1 : (t410 != 7) = true := bne_iff_ne.mpr c30
       (first | rw [c30b0] | (simp only [i64_w, i32_w]; rw [c30b0]) | skip)
       have H' := Aside0.mk H
       clear H
       obtain ⟨hcz32_0, hcz32_1, hcz32_2, hcz32_3, hcz32_4, hfz32_0, hfz32_1, hfz32_2, hfz32_3, hfz32_4⟩ := zc9_5 (w := wc) BK416.out
       go_wp2
       go_meet
       case rel => exact ⟨_, (true), (by first | rfl | (simp; done) | (simp [*]; done)), H', ⟨by have := HJ2.out; have := HJ14.out; first | omega | exact Nat.le_refl _⟩, ⟨zK9 BK416.out⟩, ⟨zB9_1⟩⟩
      rw [if_pos c30] at H
      have c30b0 : (t410 == 7) = true := beq_iff_eq.mpr c30
      have c30b1 : (t410 != 7) = false := bne_eq_false_iff_eq.mpr c30
      clear c30
      (first | rw [c30b0] | (simp only [i64_w, i32_w]; rw [c30b0]) | skip)
      have H' := Aside0.mk H
      clear H
      obtain ⟨hcz31_0, hcz31_1, hcz31_2, hcz31_3, hcz31_4, hfz31_0, hfz31_1, hfz31_2, hfz31_3, hfz31_4⟩ := zc9_5 (w := wc) BK416.out
      go_wp2
      go_meet
      case rel => exact ⟨_, ((t418 == t417)), (by first | rfl | (simp; done) | (simp [*]; done)), H', ⟨by have := HJ2.out; have := HJ14.out; first | omega | exact Nat.le_refl _⟩, ⟨zK9 BK416.out⟩, ⟨zB9_1⟩⟩
     case rest =>
      clear HC28
      try clear c1
      try clear c2
      try clear p2
      try clear c3
      try clear c4
      try clear p4
      try clear q4
      try clear hx4
      try clear c5
      try clear p6
      try clear c7
      try clear c10
      try clear c10b0
      try clear c11
      try clear c11b0
      try clear c19
      try clear c21
      try clear c22
      try clear c24
      try clear c24b0
      try clear c24b1
      try clear c25
      try clear c30
      try clear c30b0
      try clear c30b1
      try clear hcz18_0
      try clear hcz18_1
      try clear hcz18_2
      try clear hcz18_3
      try clear hcz18_4
      try clear hcz20_0
      try clear hcz20_1
      try clear hcz20_2
      try clear hcz20_3
      try clear hcz20_4
      try clear hcz25_0
      try clear hcz25_1
      try clear hcz25_2
      try clear hcz25_3
      try clear hcz25_4
      try clear hcz29_0
      try clear hcz29_1
      try clear hcz29_2
      try clear hcz29_3
      try clear hcz29_4
      try clear hcz31_0
      try clear hcz31_1
      try clear hcz31_2
      try clear hcz31_3
      try clear hcz31_4
      try clear hcz32_0
      try clear hcz32_1
      try clear hcz32_2
      try clear hcz32_3
      try clear hcz32_4
      try clear hfz18_0
      try clear hfz18_1
      try clear hfz18_2
      try clear hfz18_3
      try clear hfz18_4
      try clear hfz20_0
      try clear hfz20_1
      try clear hfz20_2
      try clear hfz20_3
      try clear hfz20_4
      try clear hfz25_0
      try clear hfz25_1
      try clear hfz25_2
      try clear hfz25_3
      try clear hfz25_4
      try clear hfz29_0
      try clear hfz29_1
      try clear hfz29_2
      try clear hfz29_3
      try clear hfz29_4
      try clear hfz31_0
      try clear hfz31_1
      try clear hfz31_2
      try clear hfz31_3
      try clear hfz31_4
      try clear hfz32_0
      try clear hfz32_1
      try clear hfz32_2
      try clear hfz32_3
      try clear hfz32_4
      try clear hx409_0
      try clear p2
      try clear p4
      try clear p409
      try clear p6
      try clear q4
      try clear q409
      obtain ⟨kq, x47_27, rfl, HA, HJ27, BK416, HB⟩ := hcut
      cases kq with
      | zero => exact absurd HA.out (by simp [spec_NextOf.j2])
      | succ kj27 =>
       have H := HA.out
       clear HA
       simp only [spec_NextOf.j2] at H
       by_cases c33 : x47_27 = true
       ·subst c33
        have H1 : (some (([t417] : List Int))) = some r := by rw [if_pos rfl] at H; exact H
        clear H
        have H := H1
        clear H1
        obtain ⟨y425, hy425⟩ : ∃ y_ : List Int, y_ = (([t417] : List Int)) := ⟨_, rfl⟩
        replace H : (some y425) = some r := by first | (rw [hy425]; with_reducible exact H) | (have H2_ := (Option.bind_some _ _).symm.trans H; rw [hy425]; with_reducible exact H2_) | (have H2_ := (Option.bind_some _ _).symm.trans H; with_reducible exact H2_) | with_reducible exact H | (rw [hy425]; exact H) | exact H
        have Ny425 := Aside0.mk hy425
        clear hy425
        obtain rfl := Option.some.inj H
        go_wp2_with (first | ((with_reducible refine gate_dst (N := 57) rfl ?_); refine Kd.R_lit (Kd.int .i64) _ 3 ?hg (N := 57) ?hd (xs := ([t417] : List Int)) (inner := [.int .i64 t417]) (ok := fun _ => True) (okp := fun _ => True) ?hr ?hp (fun _ hk => hk) trivial (Below.refl _ _) (Nat.le_refl _) (by simp) ?_; (case hd => rfl); (case hg => rfl); (case hr => first | (go_simp; done) | (go_simp; rfl)); (case hp => exact (Reps.one (show Kd.M (Kd.int .i64) _ _ _ t417 [.int .i64 t417] from rfl) (Reps.none _ _))); intro v426 w34 ho35 hb hg_ hnew_; clear hg_ hnew_; (first | rw [← Ny425.out] at ho35 | (simp only [Int.reduceToNat] at ho35; rw [← Ny425.out] at ho35)); have n0_ := Aside0.mk (Kd.R_lower ho35 (below_size (zB9_1))); have n1_ := Aside0.mk (zb9 BK416.out hb); have n2_ := Aside0.mk (below_step (zB9_1) hb); clear BK416; clear HB; have HO427 := n0_; have BK416 := n1_; have HB := n2_; clear n0_ n1_ n2_; clear hb ho35))
        go_ret
        exact ⟨_, zE9, zR9 HO427.out, zB9_1⟩
       replace c33 := Bool.eq_false_iff.mpr c33
       subst c33
       have H1 : (if t418 < t417 then (some (([t418, t417] : List Int))) else (some (([t417, t418] : List Int)))) = some r := by rw [if_neg (show ¬ (false = true) by decide)] at H; exact H
       clear H
       have H := H1
       clear H1
       by_cases c36 : t418 < t417
       ·rw [if_pos c36] at H
        have c36b0 : decide (t418 < t417) = true := decide_eq_true c36
        clear c36
        obtain ⟨y428, hy428⟩ : ∃ y_ : List Int, y_ = (([t418, t417] : List Int)) := ⟨_, rfl⟩
        replace H : (some y428) = some r := by first | (rw [hy428]; with_reducible exact H) | (have H2_ := (Option.bind_some _ _).symm.trans H; rw [hy428]; with_reducible exact H2_) | (have H2_ := (Option.bind_some _ _).symm.trans H; with_reducible exact H2_) | with_reducible exact H | (rw [hy428]; exact H) | exact H
        have Ny428 := Aside0.mk hy428
        clear hy428
        obtain rfl := Option.some.inj H
        go_wp2_with (first | ((with_reducible refine gate_dst (N := 64) rfl ?_); refine Kd.R_lit (Kd.int .i64) _ 3 ?hg (N := 64) ?hd (xs := ([t418, t417] : List Int)) (inner := [.int .i64 t418, .int .i64 t417]) (ok := fun _ => True) (okp := fun _ => True) ?hr ?hp (fun _ hk => hk) trivial (Below.refl _ _) (Nat.le_refl _) (by simp) ?_; (case hd => rfl); (case hg => rfl); (case hr => first | (go_simp; done) | (go_simp; rfl)); (case hp => exact (Reps.one (show Kd.M (Kd.int .i64) _ _ _ t418 [.int .i64 t418] from rfl) (Reps.one (show Kd.M (Kd.int .i64) _ _ _ t417 [.int .i64 t417] from rfl) (Reps.none _ _)))); intro v429 w37 ho38 hb hg_ hnew_; clear hg_ hnew_; (first | rw [← Ny428.out] at ho38 | (simp only [Int.reduceToNat] at ho38; rw [← Ny428.out] at ho38)); have n0_ := Aside0.mk (Kd.R_lower ho38 (below_size (zB9_1))); have n1_ := Aside0.mk (zb9 BK416.out hb); have n2_ := Aside0.mk (below_step (zB9_1) hb); clear BK416; clear HB; have HO430 := n0_; have BK416 := n1_; have HB := n2_; clear n0_ n1_ n2_; clear hb ho38))
        go_ret
        exact ⟨_, zE9, zR9 HO430.out, zB9_1⟩
       rw [if_neg c36] at H
       have c36b0 : decide (t418 < t417) = false := decide_eq_false c36
       clear c36
       obtain ⟨y431, hy431⟩ : ∃ y_ : List Int, y_ = (([t417, t418] : List Int)) := ⟨_, rfl⟩
       replace H : (some y431) = some r := by first | (rw [hy431]; with_reducible exact H) | (have H2_ := (Option.bind_some _ _).symm.trans H; rw [hy431]; with_reducible exact H2_) | (have H2_ := (Option.bind_some _ _).symm.trans H; with_reducible exact H2_) | with_reducible exact H | (rw [hy431]; exact H) | exact H
       have Ny431 := Aside0.mk hy431
       clear hy431
       obtain rfl := Option.some.inj H
       go_wp2_with (first | ((with_reducible refine gate_dst (N := 67) rfl ?_); refine Kd.R_lit (Kd.int .i64) _ 3 ?hg (N := 67) ?hd (xs := ([t417, t418] : List Int)) (inner := [.int .i64 t417, .int .i64 t418]) (ok := fun _ => True) (okp := fun _ => True) ?hr ?hp (fun _ hk => hk) trivial (Below.refl _ _) (Nat.le_refl _) (by simp) ?_; (case hd => rfl); (case hg => rfl); (case hr => first | (go_simp; done) | (go_simp; rfl)); (case hp => exact (Reps.one (show Kd.M (Kd.int .i64) _ _ _ t417 [.int .i64 t417] from rfl) (Reps.one (show Kd.M (Kd.int .i64) _ _ _ t418 [.int .i64 t418] from rfl) (Reps.none _ _)))); intro v432 w39 ho40 hb hg_ hnew_; clear hg_ hnew_; (first | rw [← Ny431.out] at ho40 | (simp only [Int.reduceToNat] at ho40; rw [← Ny431.out] at ho40)); have n0_ := Aside0.mk (Kd.R_lower ho40 (below_size (zB9_1))); have n1_ := Aside0.mk (zb9 BK416.out hb); have n2_ := Aside0.mk (below_step (zB9_1) hb); clear BK416; clear HB; have HO433 := n0_; have BK416 := n1_; have HB := n2_; clear n0_ n1_ n2_; clear hb ho40))
       go_ret
       exact ⟨_, zE9, zR9 HO433.out, zB9_1⟩

/-! ### spec_l23Marks: function 21 -/
def spec_l23Marks.l0 : Nat → List Int → List Bool → List Int → Option (List Bool)
 | 0, _, _, _ => none
 | k + 1, x0, x5, x6 => if (x6.length : Int) > 0 then (if 0 < (x6.length : Int) then ((some (([] : List Int) : List Int)).bind fun y444 => (if 1 ≤ (x6.length : Int) then ((some (x6.drop 1 : List Int)).bind fun y447 => (if y444.length + y447.length < 17592186044416 then ((some (y444 ++ y447 : List Int)).bind fun y451 => (if 0 ≤ (rd x6 0) then (if (rd x6 0) < (x5.length : Int) then (if (rdOf false x5 (rd x6 0) = true) then (spec_l23Marks.l0 k x0 x5 y451) else ((spec_NextOf.f k x0 (rd x6 0)).bind fun t456 => (if y451.length + t456.length < 17592186044416 then (spec_l23Marks.l0 k x0 (x5.set ((rd x6 0) : Int).toNat true) (y451 ++ t456)) else (none)))) else (none)) else (none))) else (none))) else (none))) else (none)) else (some x5)
def spec_l23Marks.f (k : Nat) (l0 : List Int) (l1 : List Int) : Option (List Bool) := (some (([] : List Int) : List Int)).bind fun y437 => (if y437.length + l1.length < 17592186044416 then (spec_l23Marks.l0 k l0 (List.replicate 24 false) (y437 ++ l1)) else (none))
theorem spec_l23Marks.mono_l : ∀ k, (∀ y0 y1 y2, LeO (spec_l23Marks.l0 k y0 y1 y2) (spec_l23Marks.l0 (k + 1) y0 y1 y2))
 | 0 => fun _ _ _ r h => by simp [spec_l23Marks.l0] at h
 | k + 1 => by
  have ih0 := spec_l23Marks.mono_l k
  ·intro y0 y1 y2
   unfold spec_l23Marks.l0
   repeat' first
   | (with_reducible exact ih0 _ _ _)
   | (with_reducible exact spec_NextOf.mono _ _ _)
   | (with_reducible exact LeO.refl _)
   | (with_reducible exact LeO.none _)
   | (with_reducible refine LeO.ite ?_ ?_)
   | (with_reducible refine LeO.bind ?_ (fun _ => ?_))
   | exact ih0 _ _ _
   | exact spec_NextOf.mono _ _ _
   | exact LeO.none _
   | refine LeO.ite ?_ ?_
   | refine LeO.bind ?_ (fun _ => ?_)
theorem spec_l23Marks.mono : ∀ a0 a1 k, LeO (spec_l23Marks.f k a0 a1) (spec_l23Marks.f (k + 1) a0 a1) := by
 intro a0 a1 k
 have ih0 := spec_l23Marks.mono_l k
 unfold spec_l23Marks.f
 repeat' first
   | (with_reducible exact ih0 _ _ _)
   | (with_reducible exact spec_NextOf.mono _ _ _)
   | (with_reducible exact LeO.refl _)
   | (with_reducible exact LeO.none _)
   | (with_reducible refine LeO.ite ?_ ?_)
   | (with_reducible refine LeO.bind ?_ (fun _ => ?_))
   | exact ih0 _ _ _
   | exact spec_NextOf.mono _ _ _
   | exact LeO.none _
   | refine LeO.ite ?_ ?_
   | refine LeO.bind ?_ (fun _ => ?_)
set_option maxHeartbeats 8000000 in
set_option maxRecDepth 100000 in
theorem spec_l23Marks.calls (k : Nat) (A0 : Option Addr) (c0 : Nat) (l0 : List Int) (A1 : Option Addr) (c1 : Nat) (l1 : List Int) (r : List Bool) (w : World) (hr0 : Kd.C (Kd.int .i64) w A0 l0.length l0) (hc0 : l0.length ≤ c0) (hr1 : Kd.C (Kd.int .i64) w A1 l1.length l1) (hc1 : l1.length ≤ c1) (h : spec_l23Marks.f k l0 l1 = some r) :
  Calls Try.prog 21 #[.slice A0 l0.length c0, .slice A1 l1.length c1] w fun e w' => ∃ v0_ : Value, e = .returned (v0_) ∧ Kd.R Kd.bool 4 w' w.heap.size (fun _ => True) v0_ r ∧ Below w.heap.size w w' := by
 have HR0 := Aside0.mk hr0
 have HC0 := Aside0.mk hc0
 clear hr0 hc0
 have HR1 := Aside0.mk hr1
 have HC1 := Aside0.mk hc1
 clear hr1 hc1
 have HB := Aside0.mk (Below.refl w.heap.size w)
 have H : ((some (([] : List Int) : List Int)).bind fun y437 => (if y437.length + l1.length < 17592186044416 then (spec_l23Marks.l0 k l0 (List.replicate 24 false) (y437 ++ l1)) else (none))) = some r := h
 clear h
 obtain ⟨y434, hy434⟩ : ∃ y_ : List Bool, y_ = (List.replicate 24 false) := ⟨_, rfl⟩
 replace H : ((some (([] : List Int) : List Int)).bind fun y437 => (if y437.length + l1.length < 17592186044416 then (spec_l23Marks.l0 k l0 y434 (y437 ++ l1)) else (none))) = some r := by first | (rw [hy434]; with_reducible exact H) | (have H2_ := (Option.bind_some _ _).symm.trans H; rw [hy434]; with_reducible exact H2_) | (have H2_ := (Option.bind_some _ _).symm.trans H; with_reducible exact H2_) | with_reducible exact H | (rw [hy434]; exact H) | exact H
 have Ny434 := Aside0.mk hy434
 clear hy434
 obtain ⟨y437, hy437⟩ : ∃ y_ : List Int, y_ = (([] : List Int)) := ⟨_, rfl⟩
 replace H : (if y437.length + l1.length < 17592186044416 then (spec_l23Marks.l0 k l0 y434 (y437 ++ l1)) else (none)) = some r := by first | (rw [hy437]; with_reducible exact H) | (have H2_ := (Option.bind_some _ _).symm.trans H; rw [hy437]; with_reducible exact H2_) | (have H2_ := (Option.bind_some _ _).symm.trans H; with_reducible exact H2_) | with_reducible exact H | (rw [hy437]; exact H) | exact H
 have Ny437 := Aside0.mk hy437
 clear hy437
 by_cases c3 : y437.length + l1.length < 17592186044416
 rotate_left
 ·rw [if_neg c3] at H
  exact absurd H (by simp)
 rw [if_pos c3] at H
 have LMc3 := Aside0.mk c3
 clear c3
 obtain ⟨y440, hy440⟩ : ∃ y_ : List Int, y_ = (y437 ++ l1) := ⟨_, rfl⟩
 replace H : (spec_l23Marks.l0 k l0 y434 y440) = some r := by first | (rw [hy440]; with_reducible exact H) | (have H2_ := (Option.bind_some _ _).symm.trans H; rw [hy440]; with_reducible exact H2_) | (have H2_ := (Option.bind_some _ _).symm.trans H; with_reducible exact H2_) | with_reducible exact H | (rw [hy440]; exact H) | exact H
 have Ny440 := Aside0.mk hy440
 clear hy440
 have H' := Aside0.mk H
 clear H
 go_enter Try.func21, Try.ntmps21
 go_wp2_with (first | ((with_reducible refine gate_dst (N := 8) rfl ?_); refine Kd.R_make Kd.bool _ 4 rfl (N := 8) rfl 41 _ _ rfl 24 rfl rfl Try.underlying41 (.bool false) 1 info4 rfl (by decide) (by omega) false (ok := fun _ => True) (okp := fun _ => True) rfl (fun _ hk => hk) trivial (by omega) (by omega) (Below.refl _ _) (Nat.le_refl _) ?_; intro v435 w4 ho5 hb hg_ hnew_; clear hg_ hnew_; (first | rw [← Ny434.out] at ho5 | (simp only [Int.reduceToNat] at ho5; rw [← Ny434.out] at ho5)); have n0_ := Aside0.mk (Kd.R_lower ho5 (below_size (zB9_0))); have n1_ := Aside0.mk (below_step (zB9_0) hb); clear HB; have HO436 := n0_; have HB := n1_; clear n0_ n1_; clear hb ho5) | ((with_reducible refine gate_dst (N := 9) rfl ?_); refine Kd.R_lit (Kd.int .i64) _ 3 ?hg (N := 9) ?hd (xs := ([] : List Int)) (inner := []) (ok := fun _ => True) (okp := fun _ => True) ?hr ?hp (fun _ hk => hk) trivial (Below.refl _ _) (Nat.le_refl _) (by simp) ?_; (case hd => rfl); (case hg => rfl); (case hr => first | (go_simp; done) | (go_simp; rfl)); (case hp => exact (Reps.none _ _)); intro v438 w6 ho7 hb hg_ hnew_; clear hg_ hnew_; (first | rw [← Ny437.out] at ho7 | (simp only [Int.reduceToNat] at ho7; rw [← Ny437.out] at ho7)); have n0_ := Aside0.mk (Kd.R_below (zR9 HO436.out) hb); have n1_ := Aside0.mk (Kd.R_lower ho7 (below_size (zB9_0))); have n2_ := Aside0.mk (below_step (zB9_0) hb); clear HO436; clear HB; have HO436 := n0_; have HO439 := n1_; have HB := n2_; clear n0_ n1_ n2_; clear hb ho7) | ((with_reducible refine gate_builtin (b := .append) (xs := #[.tmp 9, .tmp 10]) rfl ?_); at_builtin; refine Kd.R_append_rows (Kd.int .i64) (w0 := w) w.heap.size rfl (.tmp 9) (.tmp 10) 24 3 (.int .i64 0) 8 rfl Try.underlying24 info3 rfl (by decide) (by omega) v438 y437 l1 _ _ _ (fun _ => True) (fun _ => False) rfl rfl ?aO ?aR (fun _ _ h => h) (fun _ h => h.elim) ?aF ?aB ?aS ?aL ?_; (case aR => exact zC9 (Kd.C_below HR1.out HB.out)); (case aB => exact (zB9_0)); (case aF => exact (fun _ _ => trivial)); (case aO => exact (zR9 HO439.out)); (case aS => exact (below_size (zB9_0))); (case aL => have := LMc3.out; omega); intro v441 w8 ho hb hg hat; rw [← Ny440.out] at ho; have n0_ := Aside0.mk (Kd.R_over' (zR9 HO436.out) (Kd.R_typed (zR9 HO439.out)) (by decide) hg); have n1_ := Aside0.mk (hb); have n2_ := Aside0.mk (ho); clear HO436; clear HB; clear HO439; have HO436 := n0_; have HB := n1_; have HO442 := n2_; clear n0_ n1_ n2_; clear ho hb hg hat))
 go_loopg [6] k (fun kq v6 w' => ∃ (x5_1 : List Bool) (x6_1 : List Int), Aside0 (spec_l23Marks.l0 kq l0 x5_1 x6_1 = some r) ∧ Aside0 (kq ≤ k) ∧ Aside0 (Kd.R Kd.bool 4 w' w.heap.size (fun _ => True) v435 x5_1) ∧ Aside0 (Kd.R (Kd.int .i64) 3 w' w.heap.size (fun _ => True) v6 x6_1) ∧ Aside0 (Below w.heap.size w w'))
 case atStart => exact ⟨(y434), (y440), H', ⟨Nat.le_refl _⟩, ⟨zR9 HO436.out⟩, ⟨zR9 HO442.out⟩, ⟨zB9_0⟩⟩
 case round =>
  clear H'
  try clear c1
  try clear c2
  try clear p2
  try clear c3
  obtain ⟨x5_1, x6_1, HA, HK1, HO_5, HO_6, HB⟩ := hrel
  cases gk with
  | zero => exact absurd HA.out (by simp [spec_l23Marks.l0])
  | succ k1 =>
   have H := HA.out
   clear HA
   simp only [spec_l23Marks.l0] at H
   by_cases c9 : (x6_1.length : Int) > 0
   rotate_left
   ·rw [if_neg c9] at H
    have c9b0 : decide (0 < (x6_1.length : Int)) = false := decide_eq_false c9
    have c9b1 : decide (0 < x6_1.length) = false := decide_eq_false (by omega)
    clear c9
    obtain rfl := Option.some.inj H
    obtain ⟨Ao37, co37, eo37⟩ := Kd.R_slice HO_6.out
    subst eo37
    go_wp2
    go_ret
    exact ⟨_, zE9, zR9 HO_5.out, zB9_0⟩
   rw [if_pos c9] at H
   have c9b0 : decide (0 < (x6_1.length : Int)) = true := decide_eq_true c9
   have c9b1 : decide (0 < x6_1.length) = true := decide_eq_true (by omega)
   clear c9
   by_cases c10 : 0 < (x6_1.length : Int)
   rotate_left
   ·rw [if_neg c10] at H
    exact absurd H (by simp)
   rw [if_pos c10] at H
   have c10b0 : decide (0 < (x6_1.length : Int)) = true := decide_eq_true c10
   have c10b1 : decide (0 < x6_1.length) = true := decide_eq_true (by omega)
   clear c10
   obtain ⟨y444, hy444⟩ : ∃ y_ : List Int, y_ = (([] : List Int)) := ⟨_, rfl⟩
   replace H : (if 1 ≤ (x6_1.length : Int) then ((some (x6_1.drop 1 : List Int)).bind fun y447 => (if y444.length + y447.length < 17592186044416 then ((some (y444 ++ y447 : List Int)).bind fun y451 => (if 0 ≤ (rd x6_1 0) then (if (rd x6_1 0) < (x5_1.length : Int) then (if (rdOf false x5_1 (rd x6_1 0) = true) then (spec_l23Marks.l0 k1 l0 x5_1 y451) else ((spec_NextOf.f k1 l0 (rd x6_1 0)).bind fun t456 => (if y451.length + t456.length < 17592186044416 then (spec_l23Marks.l0 k1 l0 (x5_1.set ((rd x6_1 0) : Int).toNat true) (y451 ++ t456)) else (none)))) else (none)) else (none))) else (none))) else (none)) = some r := by first | (rw [hy444]; with_reducible exact H) | (have H2_ := (Option.bind_some _ _).symm.trans H; rw [hy444]; with_reducible exact H2_) | (have H2_ := (Option.bind_some _ _).symm.trans H; with_reducible exact H2_) | with_reducible exact H | (rw [hy444]; exact H) | exact H
   have Ny444 := Aside0.mk hy444
   clear hy444
   by_cases c11 : 1 ≤ (x6_1.length : Int)
   rotate_left
   ·rw [if_neg c11] at H
    exact absurd H (by simp)
   rw [if_pos c11] at H
   have c11b0 := eq_true c11
   have c11b1 : decide (1 ≤ (x6_1.length : Int)) = true := decide_eq_true c11
   clear c11
   obtain ⟨y447, hy447⟩ : ∃ y_ : List Int, y_ = (x6_1.drop 1) := ⟨_, rfl⟩
   replace H : (if y444.length + y447.length < 17592186044416 then ((some (y444 ++ y447 : List Int)).bind fun y451 => (if 0 ≤ (rd x6_1 0) then (if (rd x6_1 0) < (x5_1.length : Int) then (if (rdOf false x5_1 (rd x6_1 0) = true) then (spec_l23Marks.l0 k1 l0 x5_1 y451) else ((spec_NextOf.f k1 l0 (rd x6_1 0)).bind fun t456 => (if y451.length + t456.length < 17592186044416 then (spec_l23Marks.l0 k1 l0 (x5_1.set ((rd x6_1 0) : Int).toNat true) (y451 ++ t456)) else (none)))) else (none)) else (none))) else (none)) = some r := by first | (rw [hy447]; with_reducible exact H) | (have H2_ := (Option.bind_some _ _).symm.trans H; rw [hy447]; with_reducible exact H2_) | (have H2_ := (Option.bind_some _ _).symm.trans H; with_reducible exact H2_) | with_reducible exact H | (rw [hy447]; exact H) | exact H
   have Ny447 := Aside0.mk hy447
   clear hy447
   by_cases c12 : y444.length + y447.length < 17592186044416
   rotate_left
   ·rw [if_neg c12] at H
    exact absurd H (by simp)
   rw [if_pos c12] at H
   have LMc12 := Aside0.mk c12
   clear c12
   obtain ⟨y451, hy451⟩ : ∃ y_ : List Int, y_ = (y444 ++ y447) := ⟨_, rfl⟩
   replace H : (if 0 ≤ (rd x6_1 0) then (if (rd x6_1 0) < (x5_1.length : Int) then (if (rdOf false x5_1 (rd x6_1 0) = true) then (spec_l23Marks.l0 k1 l0 x5_1 y451) else ((spec_NextOf.f k1 l0 (rd x6_1 0)).bind fun t456 => (if y451.length + t456.length < 17592186044416 then (spec_l23Marks.l0 k1 l0 (x5_1.set ((rd x6_1 0) : Int).toNat true) (y451 ++ t456)) else (none)))) else (none)) else (none)) = some r := by first | (rw [hy451]; with_reducible exact H) | (have H2_ := (Option.bind_some _ _).symm.trans H; rw [hy451]; with_reducible exact H2_) | (have H2_ := (Option.bind_some _ _).symm.trans H; with_reducible exact H2_) | with_reducible exact H | (rw [hy451]; exact H) | exact H
   have Ny451 := Aside0.mk hy451
   clear hy451
   by_cases c13 : 0 ≤ (rd x6_1 0)
   rotate_left
   ·rw [if_neg c13] at H
    exact absurd H (by simp)
   rw [if_pos c13] at H
   have c13b0 : decide (0 ≤ (rd x6_1 0)) = true := decide_eq_true c13
   clear c13
   by_cases c14 : (rd x6_1 0) < (x5_1.length : Int)
   rotate_left
   ·rw [if_neg c14] at H
    exact absurd H (by simp)
   rw [if_pos c14] at H
   have c14b0 : decide ((rd x6_1 0) < (x5_1.length : Int)) = true := decide_eq_true c14
   clear c14
   obtain ⟨bq15, hbq15⟩ : ∃ b_ : Bool, b_ = (rdOf false x5_1 (rd x6_1 0)) := ⟨_, rfl⟩
   replace H : (if (bq15 = true) then (spec_l23Marks.l0 k1 l0 x5_1 y451) else ((spec_NextOf.f k1 l0 (rd x6_1 0)).bind fun t456 => (if y451.length + t456.length < 17592186044416 then (spec_l23Marks.l0 k1 l0 (x5_1.set ((rd x6_1 0) : Int).toNat true) (y451 ++ t456)) else (none)))) = some r := by rw [← hbq15] at H; exact H
   have Nbq15 := Aside0.mk hbq15
   clear hbq15
   by_cases c16 : (bq15 = true)
   ·subst c16
    have H1 : (spec_l23Marks.l0 k1 l0 x5_1 y451) = some r := by rw [if_pos rfl] at H; exact H
    clear H
    have H := H1
    clear H1
    have H' := Aside0.mk H
    clear H
    obtain ⟨Ao17, co17, eo17⟩ := Kd.R_slice HO_6.out
    subst eo17
    have p443 : 0 ≤ (0 : Int) := (by omega)
    have q443 : 0 < (x6_1.length : Int) := zA9
    obtain ⟨ad443, e443, hx443_0⟩ := Kd.at_int (Kd.R_reads' HO_6.out).2.2 0 p443 q443
    cases e443
    have qi443 : (0 < x6_1.length) = True := eq_true (by omega)
    (try rw [show ((0 : Int)).toNat = 0 from rfl] at hx443_0)
    (try rw [Addr.add_zero'] at hx443_0)
    replace p443 := eq_true p443
    replace q443 := eq_true q443
    go_wp2_with (first | ((with_reducible refine gate_dst (N := 18) rfl ?_); refine Kd.R_lit (Kd.int .i64) _ 3 ?hg (N := 18) ?hd (xs := ([] : List Int)) (inner := []) (ok := fun _ => True) (okp := fun _ => True) ?hr ?hp (fun _ hk => hk) trivial (Below.refl _ _) (Nat.le_refl _) (by simp) ?_; (case hd => rfl); (case hg => rfl); (case hr => first | (go_simp; done) | (go_simp; rfl)); (case hp => exact (Reps.none _ _)); intro v445 w18 ho19 hb hg_ hnew_; clear hg_ hnew_; (first | rw [← Ny444.out] at ho19 | (simp only [Int.reduceToNat] at ho19; rw [← Ny444.out] at ho19)); have n0_ := Aside0.mk (Kd.R_below (zR9 HO_5.out) hb); have n1_ := Aside0.mk (Kd.R_elder' (zR9 HO_6.out) (Kd.R_base ho19) hb); have n2_ := Aside0.mk (Kd.R_lower (Kd.R_new' ho19 (Kd.R_lt (zR9 HO_6.out))) (below_size (zB9_0))); have n3_ := Aside0.mk (below_step (zB9_0) hb); clear HO_5; clear HO_6; clear HB; have HO_5 := n0_; have HO_6 := n1_; have HO446 := n2_; have HB := n3_; clear n0_ n1_ n2_ n3_; clear hb ho19; have q20 : (1 : Int) ≤ ((x6_1.length : Int) : Int) := zA9; obtain ⟨i020, hi020, _, hsz20, _⟩ := info_parts info3; have hroom20 : x6_1.length ≤ co17 := (Kd.R_reads' HO_6.out).2.1; have hC20 : Kd.C (Kd.int .i64) _ (some ad443) x6_1.length x6_1 := (Kd.R_reads' HO_6.out).2.2; have hcut20 := cut_from (P := Try.prog) 24 3 .i64 Try.underlying24 hi020 1 hsz20 (some ad443) x6_1.length co17 1 (by omega) q20; have hr20 := Kd.C_drop (m := (1 : Int).toNat) (c := co17) hC20 (by omega) hroom20; obtain ⟨A20, hA20⟩ : ∃ A1, A1 = (if co17 = (1 : Int).toNat then (some ad443) else ((some ad443) : Option Addr).map (·.add ((1 : Int).toNat * 1))) := ⟨_, rfl⟩; obtain ⟨c20, hc20⟩ : ∃ c1, c1 = co17 - (1 : Int).toNat := ⟨_, rfl⟩; have hy20 : y447.length = x6_1.length - (1 : Int).toNat := (by rw [Ny447.out, List.length_drop] <;> omega); rw [show (x6_1).drop (1 : Int).toNat = y447 from Ny447.out.symm] at hr20; replace hr20 : Kd.C (Kd.int .i64) _ A20 y447.length y447 := (by rw [hA20]; exact hr20); rw [← hy20, ← hA20, ← hc20] at hcut20; have HR450 := Aside0.mk hr20; have HC450 := Aside0.mk (show y447.length ≤ c20 from by rw [hy20, hc20]; exact Nat.sub_le_sub_right hroom20 _); clear hr20 hC20 hroom20 hi020 hsz20 hc20; have KY20 := Aside0.mk hy20; have KA20 := Aside0.mk hA20; clear hy20 hA20; have KL20 := Aside0.mk (show 1 ≤ x6_1.length from by omega); replace q20 := eq_true q20) | ((with_reducible refine gate_builtin (b := .append) (xs := #[.tmp 18, .tmp 20]) rfl ?_); at_builtin; refine Kd.R_append_rows (Kd.int .i64) (w0 := w) w.heap.size rfl (.tmp 18) (.tmp 20) 24 3 (.int .i64 0) 8 rfl Try.underlying24 info3 rfl (by decide) (by omega) v445 y444 y447 _ _ _ (fun k_ => some k_ ≠ (.slice (some ad443) x6_1.length co17 : Value).ownBlock) (fun _ => False) rfl rfl ?aO ?aR (fun _ _ h => h) (fun _ h => h.elim) ?aF ?aB ?aS ?aL ?_; (case aR => exact zC9 HR450.out); (case aB => exact (zB9_0)); (case aF => exact (fun k_ hk => Kd.fresh' (Kd.R_lt (zR9 HO_6.out)) k_ hk)); (case aO => exact (by (with_reducible repeat (first | apply Kd.R_alloc | apply Kd.R_drewN | apply Kd.R_drew)); exact Kd.R_mono HO446.out (fun _ hk => hk.2))); (case aS => exact (below_size (zB9_0))); (case aL => have := LMc12.out; omega); intro v452 w21 ho hb hg hat; rw [← Ny451.out] at ho; have n0_ := Aside0.mk (Kd.R_over' (zR9 HO_5.out) (Kd.R_typed (zR9 HO446.out)) (by decide) hg); have n1_ := Aside0.mk (Kd.R_after (ok := (fun _ => True)) (zR9 HO_6.out) hg hat); have n2_ := Aside0.mk (hb); have n3_ := Aside0.mk ((show Kd.C (Kd.int .i64) w21 A20 y447.length y447 from by rw [Ny447.out, KA20.out]; exact Kd.C_drop (m := 1) (c := co17) ((Kd.R_reads' (Kd.R_after (ok := (fun _ => True)) (zR9 HO_6.out) hg hat)).2.2) KL20.out ((Kd.R_reads' (Kd.R_after (ok := (fun _ => True)) (zR9 HO_6.out) hg hat)).2.1))); have n4_ := Aside0.mk (ho); clear HO_5; clear HO_6; clear HB; clear HR450; clear HO446; have HO_5 := n0_; have HO_6 := n1_; have HB := n2_; have HR450 := n3_; have HO453 := n4_; clear n0_ n1_ n2_ n3_ n4_; clear ho hb hg hat; obtain ⟨Ao22, co22, eo22⟩ := Kd.R_slice HO_5.out; subst eo22; have p454 : 0 ≤ ((rd x6_1 0) : Int) := zA9; have q454 : (rd x6_1 0) < (x5_1.length : Int) := zA9; obtain ⟨ad454, e454, hx454_0⟩ := Kd.at_bool (Kd.R_reads' HO_5.out).2.2 (rd x6_1 0) p454 q454; (try rw [← Nbq15.out] at hx454_0); cases e454; replace p454 := eq_true p454; replace q454 := eq_true q454))
    go_roundg k1
    case measure => have := HK1.out; omega
    case rel => exact ⟨(x5_1), (y451), H', ⟨by have := HK1.out; omega⟩, ⟨zR9 HO_5.out⟩, ⟨by (with_reducible repeat (first | apply Kd.R_alloc | apply Kd.R_drewN | apply Kd.R_drew)); exact Kd.R_mono HO453.out (fun _ hk => trivial)⟩, ⟨zB9_0⟩⟩
   replace c16 := Bool.eq_false_iff.mpr c16
   subst c16
   have H1 : ((spec_NextOf.f k1 l0 (rd x6_1 0)).bind fun t456 => (if y451.length + t456.length < 17592186044416 then (spec_l23Marks.l0 k1 l0 (x5_1.set ((rd x6_1 0) : Int).toNat true) (y451 ++ t456)) else (none))) = some r := by rw [if_neg (show ¬ (false = true) by decide)] at H; exact H
   clear H
   have H := H1
   clear H1
   obtain ⟨y455, hy455⟩ : ∃ y_ : List Bool, y_ = (x5_1.set ((rd x6_1 0) : Int).toNat true) := ⟨_, rfl⟩
   replace H : ((spec_NextOf.f k1 l0 (rd x6_1 0)).bind fun t456 => (if y451.length + t456.length < 17592186044416 then (spec_l23Marks.l0 k1 l0 y455 (y451 ++ t456)) else (none))) = some r := by first | (rw [hy455]; with_reducible exact H) | (have H2_ := (Option.bind_some _ _).symm.trans H; rw [hy455]; with_reducible exact H2_) | (have H2_ := (Option.bind_some _ _).symm.trans H; with_reducible exact H2_) | with_reducible exact H | (rw [hy455]; exact H) | exact H
   have Ny455 := Aside0.mk hy455
   clear hy455
   replace H := Option.bind_eq_some_iff.mp H
   obtain ⟨t456, A240, H⟩ := H
   replace H : (if y451.length + t456.length < 17592186044416 then (spec_l23Marks.l0 k1 l0 y455 (y451 ++ t456)) else (none)) = some r := H
   have A24 := Aside0.mk A240
   clear A240
   by_cases c25 : y451.length + t456.length < 17592186044416
   rotate_left
   ·rw [if_neg c25] at H
    exact absurd H (by simp)
   rw [if_pos c25] at H
   have LMc25 := Aside0.mk c25
   clear c25
   obtain ⟨y459, hy459⟩ : ∃ y_ : List Int, y_ = (y451 ++ t456) := ⟨_, rfl⟩
   replace H : (spec_l23Marks.l0 k1 l0 y455 y459) = some r := by first | (rw [hy459]; with_reducible exact H) | (have H2_ := (Option.bind_some _ _).symm.trans H; rw [hy459]; with_reducible exact H2_) | (have H2_ := (Option.bind_some _ _).symm.trans H; with_reducible exact H2_) | with_reducible exact H | (rw [hy459]; exact H) | exact H
   have Ny459 := Aside0.mk hy459
   clear hy459
   have H' := Aside0.mk H
   clear H
   obtain ⟨Ao26, co26, eo26⟩ := Kd.R_slice HO_6.out
   subst eo26
   have p443 : 0 ≤ (0 : Int) := (by omega)
   have q443 : 0 < (x6_1.length : Int) := zA9
   obtain ⟨ad443, e443, hx443_0⟩ := Kd.at_int (Kd.R_reads' HO_6.out).2.2 0 p443 q443
   cases e443
   have qi443 : (0 < x6_1.length) = True := eq_true (by omega)
   (try rw [show ((0 : Int)).toNat = 0 from rfl] at hx443_0)
   (try rw [Addr.add_zero'] at hx443_0)
   replace p443 := eq_true p443
   replace q443 := eq_true q443
   go_wp2_with (first | ((with_reducible refine gate_dst (N := 18) rfl ?_); refine Kd.R_lit (Kd.int .i64) _ 3 ?hg (N := 18) ?hd (xs := ([] : List Int)) (inner := []) (ok := fun _ => True) (okp := fun _ => True) ?hr ?hp (fun _ hk => hk) trivial (Below.refl _ _) (Nat.le_refl _) (by simp) ?_; (case hd => rfl); (case hg => rfl); (case hr => first | (go_simp; done) | (go_simp; rfl)); (case hp => exact (Reps.none _ _)); intro v445 w27 ho28 hb hg_ hnew_; clear hg_ hnew_; (first | rw [← Ny444.out] at ho28 | (simp only [Int.reduceToNat] at ho28; rw [← Ny444.out] at ho28)); have n0_ := Aside0.mk (Kd.R_below (zR9 HO_5.out) hb); have n1_ := Aside0.mk (Kd.R_elder' (zR9 HO_6.out) (Kd.R_base ho28) hb); have n2_ := Aside0.mk (Kd.R_lower (Kd.R_new' ho28 (Kd.R_lt (zR9 HO_6.out))) (below_size (zB9_0))); have n3_ := Aside0.mk (below_step (zB9_0) hb); clear HO_5; clear HO_6; clear HB; have HO_5 := n0_; have HO_6 := n1_; have HO446 := n2_; have HB := n3_; clear n0_ n1_ n2_ n3_; clear hb ho28; have q29 : (1 : Int) ≤ ((x6_1.length : Int) : Int) := zA9; obtain ⟨i029, hi029, _, hsz29, _⟩ := info_parts info3; have hroom29 : x6_1.length ≤ co26 := (Kd.R_reads' HO_6.out).2.1; have hC29 : Kd.C (Kd.int .i64) _ (some ad443) x6_1.length x6_1 := (Kd.R_reads' HO_6.out).2.2; have hcut29 := cut_from (P := Try.prog) 24 3 .i64 Try.underlying24 hi029 1 hsz29 (some ad443) x6_1.length co26 1 (by omega) q29; have hr29 := Kd.C_drop (m := (1 : Int).toNat) (c := co26) hC29 (by omega) hroom29; obtain ⟨A29, hA29⟩ : ∃ A1, A1 = (if co26 = (1 : Int).toNat then (some ad443) else ((some ad443) : Option Addr).map (·.add ((1 : Int).toNat * 1))) := ⟨_, rfl⟩; obtain ⟨c29, hc29⟩ : ∃ c1, c1 = co26 - (1 : Int).toNat := ⟨_, rfl⟩; have hy29 : y447.length = x6_1.length - (1 : Int).toNat := (by rw [Ny447.out, List.length_drop] <;> omega); rw [show (x6_1).drop (1 : Int).toNat = y447 from Ny447.out.symm] at hr29; replace hr29 : Kd.C (Kd.int .i64) _ A29 y447.length y447 := (by rw [hA29]; exact hr29); rw [← hy29, ← hA29, ← hc29] at hcut29; have HR450 := Aside0.mk hr29; have HC450 := Aside0.mk (show y447.length ≤ c29 from by rw [hy29, hc29]; exact Nat.sub_le_sub_right hroom29 _); clear hr29 hC29 hroom29 hi029 hsz29 hc29; have KY29 := Aside0.mk hy29; have KA29 := Aside0.mk hA29; clear hy29 hA29; have KL29 := Aside0.mk (show 1 ≤ x6_1.length from by omega); replace q29 := eq_true q29) | ((with_reducible refine gate_builtin (b := .append) (xs := #[.tmp 18, .tmp 20]) rfl ?_); at_builtin; refine Kd.R_append_rows (Kd.int .i64) (w0 := w) w.heap.size rfl (.tmp 18) (.tmp 20) 24 3 (.int .i64 0) 8 rfl Try.underlying24 info3 rfl (by decide) (by omega) v445 y444 y447 _ _ _ (fun k_ => some k_ ≠ (.slice (some ad443) x6_1.length co26 : Value).ownBlock) (fun _ => False) rfl rfl ?aO ?aR (fun _ _ h => h) (fun _ h => h.elim) ?aF ?aB ?aS ?aL ?_; (case aR => exact zC9 HR450.out); (case aB => exact (zB9_0)); (case aF => exact (fun k_ hk => Kd.fresh' (Kd.R_lt (zR9 HO_6.out)) k_ hk)); (case aO => exact (by (with_reducible repeat (first | apply Kd.R_alloc | apply Kd.R_drewN | apply Kd.R_drew)); exact Kd.R_mono HO446.out (fun _ hk => hk.2))); (case aS => exact (below_size (zB9_0))); (case aL => have := LMc12.out; omega); intro v452 w30 ho hb hg hat; rw [← Ny451.out] at ho; have n0_ := Aside0.mk (Kd.R_over' (zR9 HO_5.out) (Kd.R_typed (zR9 HO446.out)) (by decide) hg); have n1_ := Aside0.mk (Kd.R_after (ok := (fun _ => True)) (zR9 HO_6.out) hg hat); have n2_ := Aside0.mk (hb); have n3_ := Aside0.mk ((show Kd.C (Kd.int .i64) w30 A29 y447.length y447 from by rw [Ny447.out, KA29.out]; exact Kd.C_drop (m := 1) (c := co26) ((Kd.R_reads' (Kd.R_after (ok := (fun _ => True)) (zR9 HO_6.out) hg hat)).2.2) KL29.out ((Kd.R_reads' (Kd.R_after (ok := (fun _ => True)) (zR9 HO_6.out) hg hat)).2.1))); have n4_ := Aside0.mk (ho); clear HO_5; clear HO_6; clear HB; clear HR450; clear HO446; have HO_5 := n0_; have HO_6 := n1_; have HB := n2_; have HR450 := n3_; have HO453 := n4_; clear n0_ n1_ n2_ n3_ n4_; clear ho hb hg hat; obtain ⟨Ao31, co31, eo31⟩ := Kd.R_slice HO_5.out; subst eo31; have p454 : 0 ≤ ((rd x6_1 0) : Int) := zA9; have q454 : (rd x6_1 0) < (x5_1.length : Int) := zA9; obtain ⟨ad454, e454, hx454_0⟩ := Kd.at_bool (Kd.R_reads' HO_5.out).2.2 (rd x6_1 0) p454 q454; (try rw [← Nbq15.out] at hx454_0); cases e454; replace p454 := eq_true p454; replace q454 := eq_true q454; have p23 : 0 ≤ ((rd x6_1 0) : Int) := zA9; have q23 : ((rd x6_1 0) : Int) < ((x5_1.length : Int) : Int) := zA9; obtain ⟨go23, co23, eo23, gb23, gl23, cl23, HG23⟩ := Kd.R_form HO_5.out (by omega); (first | cases eo23 | (injection eo23 with ea_ en_ ec_; (first | subst ea_ | (injection ea_ with ea_; subst ea_)); subst ec_; clear en_)); have GB23 := Aside0.mk gb23; have GG23 := Aside0.mk HG23; clear gb23 gl23 HG23; (first | simp only [add_plain] at hx454_0 | skip); obtain ⟨hx23_0, hf23_0⟩ := Kd.R_celln false HO_5.out ((rd x6_1 0) : Int) p23 q23; replace p23 := eq_true p23; replace q23 := eq_true q23; obtain ⟨hy32_, hz32_⟩ := Kd.R_celln false HO_5.out ((rd x6_1 0) : Int) (zA9) (zA9); have HP32 := Kd.R_putg HO_5.out ((rd x6_1 0) : Int) true) | ((with_reducible refine gate_store (t := 4) (p := 29) rfl ?_); refine store_event (t := 4) (p := 29) (v := ?vo_w33) (w1 := (w30.setCell ⟨go23, ((rd x6_1 0) : Int).toNat, none⟩ (.bool true))) ?hg ?ho ?hn ?hr ?_; (case ho => rfl); (case hg => rfl); (case hn => rfl); (case hr => first | (go_simp; done) | (go_simp; rfl)); intro w33 hw; have hg : w30.grownBy w33 (some go23) := (by rw [hw]; exact HP32.2); have hp_ : Kd.R Kd.bool 4 w33 w.heap.size (fun _ => True) (.slice (some ⟨go23, 0, none⟩) x5_1.length co31) y455 := (by rw [hw, Ny455.out]; exact HP32.1); clear HP32; have n0_ := Aside0.mk (hp_); have n1_ := Aside0.mk (Kd.R_over' (v := (.slice (some ⟨go23, 0, none⟩) x5_1.length co31)) (zR9 HO_6.out) (Kd.R_typed HO_5.out) (by decide) hg); have n2_ := Aside0.mk (Kd.R_over' (v := (.slice (some ⟨go23, 0, none⟩) x5_1.length co31)) (zR9 HO453.out) (Kd.R_typed HO_5.out) (by decide) hg); have n3_ := Aside0.mk ((by rw [hw]; exact below_set (HB.out) GB23.out : Below w.heap.size w w33)); have n4_ := Aside0.mk ((show Kd.C (Kd.int .i64) w33 A29 y447.length y447 from by rw [Ny447.out, KA29.out]; exact Kd.C_drop (m := 1) (c := co26) ((Kd.R_reads' (Kd.R_over' (v := (.slice (some ⟨go23, 0, none⟩) x5_1.length co31)) (zR9 HO_6.out) (Kd.R_typed HO_5.out) (by decide) hg)).2.2) KL29.out ((Kd.R_reads' (Kd.R_over' (v := (.slice (some ⟨go23, 0, none⟩) x5_1.length co31)) (zR9 HO_6.out) (Kd.R_typed HO_5.out) (by decide) hg)).2.1))); clear HO_5; clear HO_6; clear HO453; clear HB; clear HR450; have HO_5 := n0_; have HO_6 := n1_; have HO453 := n2_; have HB := n3_; have HR450 := n4_; clear n0_ n1_ n2_ n3_ n4_; clear hg hw hp_) | ((with_reducible refine gate_callee (f := 22) rfl ?_); refine goesL_ (some 33) rfl rfl Try.func22 (by kernel_rfl) rfl #[.slice A0 l0.length c0, .int .i64 (rd x6_1 0)] rfl zT9 ?_; (with_reducible refine (spec_NextOf.calls k1 _ _ l0 (rd x6_1 0) t456 _ ?side1 ?side2 A24.out).mono ?_); (case side1 => exact zC9 (Kd.C_below HR0.out HB.out)); (case side2 => exact HC0.out); rintro e w34 ⟨v457, rfl, ho0, hb⟩; refine ⟨_, rfl, ?_⟩; have n0_ := Aside0.mk (Kd.R_below (zR9 HO_5.out) hb); have n1_ := Aside0.mk (Kd.R_elder' (zR9 HO_6.out) (Kd.R_base ho0) hb); have n2_ := Aside0.mk (Kd.R_elder' (zR9 HO453.out) (Kd.R_base ho0) hb); have n3_ := Aside0.mk (Kd.R_lower (Kd.R_new' (Kd.R_new' ho0 (Kd.R_lt (zR9 HO_6.out))) (Kd.R_lt (zR9 HO453.out))) (below_size (zB9_0))); have n4_ := Aside0.mk (Kd.C_below (by repeat (first | (with_reducible exact HR450.out) | (with_reducible refine Kd.C_alloc ?_ _) | (with_reducible refine Kd.C_drewN ?_ _) | (with_reducible refine Kd.C_drew ?_) | exact HR450.out)) hb); have n5_ := Aside0.mk (below_step (zB9_0) hb); clear HO_5; clear HO_6; clear HO453; clear HR450; clear HB; have HO_5 := n0_; have HO_6 := n1_; have HO453 := n2_; have HO458 := n3_; have HR450 := n4_; have HB := n5_; clear n0_ n1_ n2_ n3_ n4_ n5_; (try clear hb); (try clear hb2); (try clear hk); (try clear hi); (try clear ho0); obtain ⟨Ao36, co36, eo36⟩ := Kd.R_slice HO458.out; subst eo36) | ((with_reducible refine gate_builtin (b := .append) (xs := #[.tmp 30, .tmp 33]) rfl ?_); at_builtin; refine Kd.R_append_rows (Kd.int .i64) (w0 := w) w.heap.size rfl (.tmp 30) (.tmp 33) 24 3 (.int .i64 0) 8 rfl Try.underlying24 info3 rfl (by decide) (by omega) v452 y451 t456 _ _ _ (fun k_ => some k_ ≠ (.slice (some ad443) x6_1.length co26 : Value).ownBlock ∧ some k_ ≠ (.slice Ao36 t456.length co36 : Value).ownBlock) (fun _ => False) rfl rfl ?aO ?aR (fun _ _ h => h) (fun _ h => h.elim) ?aF ?aB ?aS ?aL ?_; (case aR => exact zC9 (Kd.R_reads' HO458.out).2.2); (case aB => exact (zB9_0)); (case aF => exact (fun k_ hk => ⟨Kd.fresh' (Kd.R_lt (zR9 HO_6.out)) k_ hk, Kd.fresh' (Kd.R_lt (zR9 HO458.out)) k_ hk⟩)); (case aO => exact (zR9 HO453.out)); (case aS => exact (below_size (zB9_0))); (case aL => have := LMc25.out; omega); intro v460 w35 ho hb hg hat; rw [← Ny459.out] at ho; have n0_ := Aside0.mk (Kd.R_over' (zR9 HO_5.out) (Kd.R_typed (zR9 HO453.out)) (by decide) hg); have n1_ := Aside0.mk (Kd.R_after (ok := (fun k_ => some k_ ≠ (.slice Ao36 t456.length co36 : Value).ownBlock)) (by (with_reducible repeat (first | apply Kd.R_alloc | apply Kd.R_drewN | apply Kd.R_drew)); exact Kd.R_mono HO_6.out (fun _ hk => ⟨hk.2, hk.1.2⟩)) hg hat); have n2_ := Aside0.mk (Kd.R_after (ok := (fun k_ => some k_ ≠ (.slice (some ad443) x6_1.length co26 : Value).ownBlock)) (by (with_reducible repeat (first | apply Kd.R_alloc | apply Kd.R_drewN | apply Kd.R_drew)); exact Kd.R_mono HO458.out (fun _ hk => ⟨hk.1.2, hk.2⟩)) hg hat); have n3_ := Aside0.mk (hb); have n4_ := Aside0.mk ((show Kd.C (Kd.int .i64) w35 A29 y447.length y447 from by rw [Ny447.out, KA29.out]; exact Kd.C_drop (m := 1) (c := co26) ((Kd.R_reads' (Kd.R_after (ok := (fun k_ => some k_ ≠ (.slice Ao36 t456.length co36 : Value).ownBlock)) (by (with_reducible repeat (first | apply Kd.R_alloc | apply Kd.R_drewN | apply Kd.R_drew)); exact Kd.R_mono HO_6.out (fun _ hk => ⟨hk.2, hk.1.2⟩)) hg hat)).2.2) KL29.out ((Kd.R_reads' (Kd.R_after (ok := (fun k_ => some k_ ≠ (.slice Ao36 t456.length co36 : Value).ownBlock)) (by (with_reducible repeat (first | apply Kd.R_alloc | apply Kd.R_drewN | apply Kd.R_drew)); exact Kd.R_mono HO_6.out (fun _ hk => ⟨hk.2, hk.1.2⟩)) hg hat)).2.1))); have n5_ := Aside0.mk (ho); clear HO_5; clear HO_6; clear HO458; clear HB; clear HR450; clear HO453; have HO_5 := n0_; have HO_6 := n1_; have HO458 := n2_; have HB := n3_; have HR450 := n4_; have HO461 := n5_; clear n0_ n1_ n2_ n3_ n4_ n5_; clear ho hb hg hat))
   go_roundg k1
   case measure => have := HK1.out; omega
   case rel => exact ⟨(y455), (y459), H', ⟨by have := HK1.out; omega⟩, ⟨zR9 HO_5.out⟩, ⟨by (with_reducible repeat (first | apply Kd.R_alloc | apply Kd.R_drewN | apply Kd.R_drew)); exact Kd.R_mono HO461.out (fun _ hk => trivial)⟩, ⟨zB9_0⟩⟩

end Go.Proofs.Ytehgffgpgoopiaa.PFnNoLoopEnds
