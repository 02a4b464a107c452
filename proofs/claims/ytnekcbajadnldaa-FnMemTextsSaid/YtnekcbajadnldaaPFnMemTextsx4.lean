-- made by wip/tools/myprint.py out of the seat's translation
import Derived.Test.YtnekcbajadnldaaPFnMemTextsx0
import Derived.Shelf.Strings.Builder1
import Derived.Shelf.Strings.Builder2
import Derived.Shelf.Strings.OnBuilder
import Derived.Test.YtnekcbajadnldaaPFnMemTextsx1
import Derived.Test.YtnekcbajadnldaaPFnMemTextsx3
namespace Go.Proofs.Ytnekcbajadnldaa.PFnMemTexts
open Go.RowKit Go.Proofs.YtnekcbajadnldaaW.PrintWords Go.Proofs.YtnekcbajadnldaaW.PrintLast Go.Proofs.YtnekcbajadnldaaW.PrintMore
attribute [local go_sem] max2_int min2_int max_two min_two max_three min_three max_four min_four   -- for this text's walks alone
set_option linter.unusedVariables false
set_option linter.unusedSimpArgs false
theorem zR4 {p q : Prop} (x : q) (h : q → p := by intro h; (with_reducible repeat (first | apply Kd.R_alloc | apply Kd.R_drewN | apply Kd.R_drew)); exact h) : p := h x
theorem zA4 {p : Prop} [Decidable p] (h : decide p = true := by first | (with_reducible assumption) | assumption) : p := of_decide_eq_true h
theorem zT4 {p : Prop} (h : p := by (try simp only [List.map_toArray, List.map_cons, List.map_nil]); first | done | rfl | (simp only [List.length_drop, List.length_take]; rfl)) : p := h
theorem zC4 {p q : Prop} (x : q) (h : q → p := by intro h; repeat (first | exact h | (with_reducible refine Kd.C_alloc ?_ _) | (with_reducible refine Kd.C_drewN ?_ _) | (with_reducible refine Kd.C_drew ?_))) : p := h x
theorem zE4 {p : Prop} (h : p := by first | rfl | (simp [errW_none, errW_some] <;> rfl) | (simp [*, errW_none, errW_some] <;> rfl)) : p := h
theorem zB4_0 {p : Prop} (h : p := by repeat (first | (with_reducible first | exact HB.out | apply below_alloc | apply pw_below_drewN | apply below_drew1) | exact HB.out)) : p := h

/-! ### impl_ChangedText: function 55 -/
mutual
def impl_ChangedText.j0 : Nat → List Int → List Int → Bool → Option (ByteArray)
 | 0, _, _, _ => none
 | k + 1, x0, x1, x14 => if x14 = true then (some (⟨#[]⟩ : ByteArray)) else (impl_ChangedText.l0 k x0 x1 (⟨#[]⟩ : ByteArray) (x0.length : Int) 0)
def impl_ChangedText.l0 : Nat → List Int → List Int → ByteArray → Int → Int → Option (ByteArray)
 | 0, _, _, _, _, _ => none
 | k + 1, x0, x1, x5, x16, x17 => if x17 < x16 then (if 0 ≤ x17 then (if x17 < (x0.length : Int) then (if x17 < (x1.length : Int) then (if (rd x0 x17) = (rd x1 x17) then (impl_ChangedText.l0 k x0 x1 x5 x16 (wrap64 (x17 + 1))) else ((impl_digits.f k x17).bind fun t267 => (if t267.size + 1 ≤ 9223372036854775807 then ((impl_digits.f k (rd x0 x17)).bind fun t269 => (if (t267 ++ (⟨#[58]⟩ : ByteArray)).size + t269.size ≤ 9223372036854775807 then (if ((t267 ++ (⟨#[58]⟩ : ByteArray)) ++ t269).size + 1 ≤ 9223372036854775807 then ((impl_digits.f k (rd x1 x17)).bind fun t271 => (if (((t267 ++ (⟨#[58]⟩ : ByteArray)) ++ t269) ++ (⟨#[62]⟩ : ByteArray)).size + t271.size ≤ 9223372036854775807 then (if ((((t267 ++ (⟨#[58]⟩ : ByteArray)) ++ t269) ++ (⟨#[62]⟩ : ByteArray)) ++ t271).size + 1 ≤ 9223372036854775807 then (if x5.size + (((((t267 ++ (⟨#[58]⟩ : ByteArray)) ++ t269) ++ (⟨#[62]⟩ : ByteArray)) ++ t271) ++ (⟨#[10]⟩ : ByteArray)).size ≤ 9223372036854775807 then (impl_ChangedText.l0 k x0 x1 (x5 ++ (((((t267 ++ (⟨#[58]⟩ : ByteArray)) ++ t269) ++ (⟨#[62]⟩ : ByteArray)) ++ t271) ++ (⟨#[10]⟩ : ByteArray))) x16 (wrap64 (x17 + 1))) else (none)) else (none)) else (none))) else (none)) else (none))) else (none)))) else (none)) else (none)) else (none)) else (some x5)
end
def impl_ChangedText.f (k : Nat) (l0 : List Int) (l1 : List Int) : Option (ByteArray) := (impl_memOk.f k l0).bind fun t263 => (if t263 = true then ((impl_memOk.f k l1).bind fun t264 => (impl_ChangedText.j0 k l0 l1 (!t264))) else (impl_ChangedText.j0 k l0 l1 true))
theorem impl_ChangedText.mono_l : ∀ k, (∀ y0 y1 y2, LeO (impl_ChangedText.j0 k y0 y1 y2) (impl_ChangedText.j0 (k + 1) y0 y1 y2)) ∧ (∀ y0 y1 y2 y3 y4, LeO (impl_ChangedText.l0 k y0 y1 y2 y3 y4) (impl_ChangedText.l0 (k + 1) y0 y1 y2 y3 y4))
 | 0 => ⟨fun _ _ _ r h => by simp [impl_ChangedText.j0] at h, fun _ _ _ _ _ r h => by simp [impl_ChangedText.l0] at h⟩
 | k + 1 => by
  obtain ⟨ih0, ih1⟩ := impl_ChangedText.mono_l k
  refine ⟨?_, ?_⟩
  ·intro y0 y1 y2
   unfold impl_ChangedText.j0
   repeat' first
   | (with_reducible exact ih0 _ _ _)
   | (with_reducible exact ih1 _ _ _ _ _)
   | (with_reducible exact impl_digits.mono _ _)
   | (with_reducible exact impl_memOk.mono _ _)
   | (with_reducible exact LeO.refl _)
   | (with_reducible exact LeO.none _)
   | (with_reducible refine LeO.ite ?_ ?_)
   | (with_reducible refine LeO.bind ?_ (fun _ => ?_))
   | exact ih0 _ _ _
   | exact ih1 _ _ _ _ _
   | exact impl_digits.mono _ _
   | exact impl_memOk.mono _ _
   | exact LeO.none _
   | refine LeO.ite ?_ ?_
   | refine LeO.bind ?_ (fun _ => ?_)
  ·intro y0 y1 y2 y3 y4
   unfold impl_ChangedText.l0
   repeat' first
   | (with_reducible exact ih0 _ _ _)
   | (with_reducible exact ih1 _ _ _ _ _)
   | (with_reducible exact impl_digits.mono _ _)
   | (with_reducible exact impl_memOk.mono _ _)
   | (with_reducible exact LeO.refl _)
   | (with_reducible exact LeO.none _)
   | (with_reducible refine LeO.ite ?_ ?_)
   | (with_reducible refine LeO.bind ?_ (fun _ => ?_))
   | exact ih0 _ _ _
   | exact ih1 _ _ _ _ _
   | exact impl_digits.mono _ _
   | exact impl_memOk.mono _ _
   | exact LeO.none _
   | refine LeO.ite ?_ ?_
   | refine LeO.bind ?_ (fun _ => ?_)
theorem impl_ChangedText.mono : ∀ a0 a1 k, LeO (impl_ChangedText.f k a0 a1) (impl_ChangedText.f (k + 1) a0 a1) := by
 intro a0 a1 k
 obtain ⟨ih0, ih1⟩ := impl_ChangedText.mono_l k
 unfold impl_ChangedText.f
 repeat' first
   | (with_reducible exact ih0 _ _ _)
   | (with_reducible exact ih1 _ _ _ _ _)
   | (with_reducible exact impl_digits.mono _ _)
   | (with_reducible exact impl_memOk.mono _ _)
   | (with_reducible exact LeO.refl _)
   | (with_reducible exact LeO.none _)
   | (with_reducible refine LeO.ite ?_ ?_)
   | (with_reducible refine LeO.bind ?_ (fun _ => ?_))
   | exact ih0 _ _ _
   | exact ih1 _ _ _ _ _
   | exact impl_digits.mono _ _
   | exact impl_memOk.mono _ _
   | exact LeO.none _
   | refine LeO.ite ?_ ?_
   | refine LeO.bind ?_ (fun _ => ?_)
set_option maxHeartbeats 8000000 in
set_option maxRecDepth 100000 in
theorem impl_ChangedText.calls (k : Nat) (A0 : Option Addr) (c0 : Nat) (l0 : List Int) (A1 : Option Addr) (c1 : Nat) (l1 : List Int) (r : ByteArray) (w : World) (hr0 : Kd.C (Kd.int .i64) w A0 l0.length l0) (hc0 : l0.length ≤ c0) (hr1 : Kd.C (Kd.int .i64) w A1 l1.length l1) (hc1 : l1.length ≤ c1) (h : impl_ChangedText.f k l0 l1 = some r) :
  Calls Try.prog 55 #[.slice A0 l0.length c0, .slice A1 l1.length c1] w fun e w' => e = .returned (.string r) ∧ Drawn0 w w' := by
 have HR0 := Aside0.mk hr0
 have HC0 := Aside0.mk hc0
 clear hr0 hc0
 have HR1 := Aside0.mk hr1
 have HC1 := Aside0.mk hc1
 clear hr1 hc1
 have H : ((impl_memOk.f k l0).bind fun t263 => (if t263 = true then ((impl_memOk.f k l1).bind fun t264 => (impl_ChangedText.j0 k l0 l1 (!t264))) else (impl_ChangedText.j0 k l0 l1 true))) = some r := h
 clear h
 have HC3 := Aside0.mk H
 clear H
 go_enter Try.func55, Try.ntmps55
 go_upto_region 1 with (fail)
 repeat (go_quiet (fail); go_upto_region 1 with (fail))
 go_cut [14] (fun v14 wc => ∃ (kq : Nat) (x14_2 : Bool), v14 = .bool x14_2 ∧ Aside0 (impl_ChangedText.j0 kq l0 l1 x14_2 = some r) ∧ Aside0 (kq ≤ k) ∧ Drawn0 w wc)
 case first =>
  have H := HC3.out
  clear HC3
  replace H := Option.bind_eq_some_iff.mp H
  obtain ⟨t263, A40, H⟩ := H
  replace H : (if t263 = true then ((impl_memOk.f k l1).bind fun t264 => (impl_ChangedText.j0 k l0 l1 (!t264))) else (impl_ChangedText.j0 k l0 l1 true)) = some r := H
  have A4 := Aside0.mk A40
  clear A40
  by_cases c5 : t263 = true
  rotate_left
  ·replace c5 := Bool.eq_false_iff.mpr c5
   subst c5
   have H1 : (impl_ChangedText.j0 k l0 l1 true) = some r := by rw [if_neg (show ¬ (false = true) by decide)] at H; exact H
   clear H
   have H := H1
   clear H1
   have H' := Aside0.mk H
   clear H
   go_wp2_with (first | (go_at_call 80; (with_reducible refine (impl_memOk.calls k _ _ l0 false _ ?side1 ?side2 A4.out).mono ?_); (case side1 => exact zC4 HR0.out); (case side2 => exact HC0.out); rintro e w' ⟨rfl, ⟨nd, rfl⟩⟩; (try first | exact ⟨rfl, _, World.drewN_drewN _ _ _⟩ | exact ⟨rfl, _, Eq.trans (World.drewN_drewN _ _ _) (congrArg (World.drewN _) (Nat.add_assoc _ _ _))⟩)))
   repeat (go_quiet (first | (go_at_call 80; (with_reducible refine (impl_memOk.calls k _ _ l0 false _ ?side1 ?side2 A4.out).mono ?_); (case side1 => exact zC4 HR0.out); (case side2 => exact HC0.out); rintro e w' ⟨rfl, ⟨nd, rfl⟩⟩; (try first | exact ⟨rfl, _, World.drewN_drewN _ _ _⟩ | exact ⟨rfl, _, Eq.trans (World.drewN_drewN _ _ _) (congrArg (World.drewN _) (Nat.add_assoc _ _ _))⟩))); try go_wp2_with (first | (go_at_call 80; (with_reducible refine (impl_memOk.calls k _ _ l0 false _ ?side1 ?side2 A4.out).mono ?_); (case side1 => exact zC4 HR0.out); (case side2 => exact HC0.out); rintro e w' ⟨rfl, ⟨nd, rfl⟩⟩; (try first | exact ⟨rfl, _, World.drewN_drewN _ _ _⟩ | exact ⟨rfl, _, Eq.trans (World.drewN_drewN _ _ _) (congrArg (World.drewN _) (Nat.add_assoc _ _ _))⟩))))
   go_meet
   case rel => exact ⟨_, (true), (by first | rfl | (simp; done) | (simp [*]; done)), H', ⟨by first | omega | exact Nat.le_refl _⟩, by repeat (first | exact Drawn0.refl _ | apply Drawn0.step)⟩
  subst c5
  have H1 : ((impl_memOk.f k l1).bind fun t264 => (impl_ChangedText.j0 k l0 l1 (!t264))) = some r := by rw [if_pos rfl] at H; exact H
  clear H
  have H := H1
  clear H1
  replace H := Option.bind_eq_some_iff.mp H
  obtain ⟨t264, A60, H⟩ := H
  replace H : (impl_ChangedText.j0 k l0 l1 (!t264)) = some r := H
  have A6 := Aside0.mk A60
  clear A60
  have H' := Aside0.mk H
  clear H
  go_wp2_with (first | (go_at_call 80; (with_reducible refine (impl_memOk.calls k _ _ l0 true _ ?side1 ?side2 A4.out).mono ?_); (case side1 => exact zC4 HR0.out); (case side2 => exact HC0.out); rintro e w' ⟨rfl, ⟨nd, rfl⟩⟩; (try first | exact ⟨rfl, _, World.drewN_drewN _ _ _⟩ | exact ⟨rfl, _, Eq.trans (World.drewN_drewN _ _ _) (congrArg (World.drewN _) (Nat.add_assoc _ _ _))⟩)) | (go_at_call 80; (with_reducible refine (impl_memOk.calls k _ _ l1 t264 _ ?side1 ?side2 A6.out).mono ?_); (case side1 => exact zC4 HR1.out); (case side2 => exact HC1.out); rintro e w' ⟨rfl, ⟨nd, rfl⟩⟩; (try first | exact ⟨rfl, _, World.drewN_drewN _ _ _⟩ | exact ⟨rfl, _, Eq.trans (World.drewN_drewN _ _ _) (congrArg (World.drewN _) (Nat.add_assoc _ _ _))⟩)))
  repeat (go_quiet (first | (go_at_call 80; (with_reducible refine (impl_memOk.calls k _ _ l0 true _ ?side1 ?side2 A4.out).mono ?_); (case side1 => exact zC4 HR0.out); (case side2 => exact HC0.out); rintro e w' ⟨rfl, ⟨nd, rfl⟩⟩; (try first | exact ⟨rfl, _, World.drewN_drewN _ _ _⟩ | exact ⟨rfl, _, Eq.trans (World.drewN_drewN _ _ _) (congrArg (World.drewN _) (Nat.add_assoc _ _ _))⟩)) | (go_at_call 80; (with_reducible refine (impl_memOk.calls k _ _ l1 t264 _ ?side1 ?side2 A6.out).mono ?_); (case side1 => exact zC4 HR1.out); (case side2 => exact HC1.out); rintro e w' ⟨rfl, ⟨nd, rfl⟩⟩; (try first | exact ⟨rfl, _, World.drewN_drewN _ _ _⟩ | exact ⟨rfl, _, Eq.trans (World.drewN_drewN _ _ _) (congrArg (World.drewN _) (Nat.add_assoc _ _ _))⟩))); try go_wp2_with (first | (go_at_call 80; (with_reducible refine (impl_memOk.calls k _ _ l0 true _ ?side1 ?side2 A4.out).mono ?_); (case side1 => exact zC4 HR0.out); (case side2 => exact HC0.out); rintro e w' ⟨rfl, ⟨nd, rfl⟩⟩; (try first | exact ⟨rfl, _, World.drewN_drewN _ _ _⟩ | exact ⟨rfl, _, Eq.trans (World.drewN_drewN _ _ _) (congrArg (World.drewN _) (Nat.add_assoc _ _ _))⟩)) | (go_at_call 80; (with_reducible refine (impl_memOk.calls k _ _ l1 t264 _ ?side1 ?side2 A6.out).mono ?_); (case side1 => exact zC4 HR1.out); (case side2 => exact HC1.out); rintro e w' ⟨rfl, ⟨nd, rfl⟩⟩; (try first | exact ⟨rfl, _, World.drewN_drewN _ _ _⟩ | exact ⟨rfl, _, Eq.trans (World.drewN_drewN _ _ _) (congrArg (World.drewN _) (Nat.add_assoc _ _ _))⟩))))
  go_meet
  case rel => exact ⟨_, (!t264), (by first | rfl | (simp; done) | (simp [*]; done)), H', ⟨by first | omega | exact Nat.le_refl _⟩, by repeat (first | exact Drawn0.refl _ | apply Drawn0.step)⟩
 case rest =>
  clear HC3
  try clear c1
  try clear p2
  try clear c5
  obtain ⟨kq, x14_2, rfl, HA, HJ2, ⟨mc2, rfl⟩⟩ := hcut
  cases kq with
  | zero => exact absurd HA.out (by simp [impl_ChangedText.j0])
  | succ kj2 =>
   have H := HA.out
   clear HA
   simp only [impl_ChangedText.j0] at H
   by_cases c7 : x14_2 = true
   ·subst c7
    have H1 : (some (⟨#[]⟩ : ByteArray)) = some r := by rw [if_pos rfl] at H; exact H
    clear H
    have H := H1
    clear H1
    obtain rfl := Option.some.inj H
    go_wp2
    repeat (go_quiet (fail); try go_wp2)
    go_ret
    exact ⟨by first | rfl | (simp; done) | (simp [*]; done), by repeat (first | exact Drawn0.refl _ | apply Drawn0.step)⟩
   replace c7 := Bool.eq_false_iff.mpr c7
   subst c7
   have H1 : (impl_ChangedText.l0 kj2 l0 l1 (⟨#[]⟩ : ByteArray) (l0.length : Int) 0) = some r := by rw [if_neg (show ¬ (false = true) by decide)] at H; exact H
   clear H
   have H := H1
   clear H1
   have H' := Aside0.mk H
   clear H
   go_wp2
   repeat (go_quiet (fail); try go_wp2)
   go_loopg [5, 17] kj2 (fun kq v5 v17 w' => ∃ (x5_2 : ByteArray) (x17_2 : Int), v5 = .string x5_2 ∧ v17 = .int .i64 x17_2 ∧ Aside0 (impl_ChangedText.l0 kq l0 l1 x5_2 (l0.length : Int) x17_2 = some r) ∧ Aside0 (kq ≤ kj2) ∧ Drawn0 w w')
   case atStart => exact ⟨((⟨#[]⟩ : ByteArray)), (0), (by first | rfl | (simp; done) | (simp [*]; done)), (by first | rfl | (simp; done) | (simp [*]; done)), H', ⟨Nat.le_refl _⟩, by repeat (first | exact Drawn0.refl _ | apply Drawn0.step)⟩
   case round =>
    clear H'
    try clear c1
    try clear c2
    try clear p2
    try clear c5
    try clear c7
    try clear p2
    obtain ⟨x5_2, x17_2, rfl, rfl, HA, HK2, ⟨m2, rfl⟩⟩ := hrel
    cases gk with
    | zero => exact absurd HA.out (by simp [impl_ChangedText.l0])
    | succ k2 =>
     have H := HA.out
     clear HA
     simp only [impl_ChangedText.l0] at H
     by_cases c8 : x17_2 < (l0.length : Int)
     rotate_left
     ·rw [if_neg c8] at H
      have c8b0 : decide (x17_2 < (l0.length : Int)) = false := decide_eq_false c8
      clear c8
      obtain rfl := Option.some.inj H
      go_wp2
      repeat (go_quiet (fail); try go_wp2)
      go_ret
      exact ⟨by first | rfl | (simp; done) | (simp [*]; done), by repeat (first | exact Drawn0.refl _ | apply Drawn0.step)⟩
     rw [if_pos c8] at H
     have c8b0 : decide (x17_2 < (l0.length : Int)) = true := decide_eq_true c8
     clear c8
     by_cases c9 : 0 ≤ x17_2
     rotate_left
     ·rw [if_neg c9] at H
      exact absurd H (by simp)
     rw [if_pos c9] at H
     have c9b0 : decide (0 ≤ x17_2) = true := decide_eq_true c9
     clear c9
     by_cases c10 : x17_2 < (l0.length : Int)
     rotate_left
     ·rw [if_neg c10] at H
      exact absurd H (by simp)
     rw [if_pos c10] at H
     have c10b0 : decide (x17_2 < (l0.length : Int)) = true := decide_eq_true c10
     clear c10
     by_cases c11 : x17_2 < (l1.length : Int)
     rotate_left
     ·rw [if_neg c11] at H
      exact absurd H (by simp)
     rw [if_pos c11] at H
     have c11b0 : decide (x17_2 < (l1.length : Int)) = true := decide_eq_true c11
     clear c11
     by_cases c12 : (rd l0 x17_2) = (rd l1 x17_2)
     ·rw [if_pos c12] at H
      have c12b0 : ((rd l0 x17_2) == (rd l1 x17_2)) = true := beq_iff_eq.mpr c12
      have c12b1 : ((rd l0 x17_2) != (rd l1 x17_2)) = false := bne_eq_false_iff_eq.mpr c12
      clear c12
      have H' := Aside0.mk H
      clear H
      have p265 : 0 ≤ (x17_2 : Int) := zA4
      have q265 : x17_2 < (l0.length : Int) := zA4
      obtain ⟨ad265, e265, hx265_0⟩ := Kd.at_int HR0.out x17_2 p265 q265
      cases e265
      replace p265 := eq_true p265
      replace q265 := eq_true q265
      have p266 : 0 ≤ (x17_2 : Int) := zA4
      have q266 : x17_2 < (l1.length : Int) := zA4
      obtain ⟨ad266, e266, hx266_0⟩ := Kd.at_int HR1.out x17_2 p266 q266
      cases e266
      replace p266 := eq_true p266
      replace q266 := eq_true q266
      go_wp2
      repeat (go_quiet (fail); try go_wp2)
      go_roundg k2
      case measure => have := HJ2.out; have := HK2.out; omega
      case rel => exact ⟨(x5_2), (wrap64 (x17_2 + 1)), (by first | rfl | (simp; done) | (simp [*]; done)), (by first | rfl | (simp; done) | (simp [*]; done)), H', ⟨by have := HJ2.out; have := HK2.out; omega⟩, by repeat (first | exact Drawn0.refl _ | apply Drawn0.step)⟩
     rw [if_neg c12] at H
     have c12b0 : ((rd l0 x17_2) == (rd l1 x17_2)) = false := beq_eq_false_iff_ne.mpr c12
     have c12b1 : ((rd l0 x17_2) != (rd l1 x17_2)) = true := bne_iff_ne.mpr c12
     replace H := Option.bind_eq_some_iff.mp H
     obtain ⟨t267, A130, H⟩ := H
     replace H : (if t267.size + 1 ≤ 9223372036854775807 then ((impl_digits.f k2 (rd l0 x17_2)).bind fun t269 => (if (t267 ++ (⟨#[58]⟩ : ByteArray)).size + t269.size ≤ 9223372036854775807 then (if ((t267 ++ (⟨#[58]⟩ : ByteArray)) ++ t269).size + 1 ≤ 9223372036854775807 then ((impl_digits.f k2 (rd l1 x17_2)).bind fun t271 => (if (((t267 ++ (⟨#[58]⟩ : ByteArray)) ++ t269) ++ (⟨#[62]⟩ : ByteArray)).size + t271.size ≤ 9223372036854775807 then (if ((((t267 ++ (⟨#[58]⟩ : ByteArray)) ++ t269) ++ (⟨#[62]⟩ : ByteArray)) ++ t271).size + 1 ≤ 9223372036854775807 then (if x5_2.size + (((((t267 ++ (⟨#[58]⟩ : ByteArray)) ++ t269) ++ (⟨#[62]⟩ : ByteArray)) ++ t271) ++ (⟨#[10]⟩ : ByteArray)).size ≤ 9223372036854775807 then (impl_ChangedText.l0 k2 l0 l1 (x5_2 ++ (((((t267 ++ (⟨#[58]⟩ : ByteArray)) ++ t269) ++ (⟨#[62]⟩ : ByteArray)) ++ t271) ++ (⟨#[10]⟩ : ByteArray))) (l0.length : Int) (wrap64 (x17_2 + 1))) else (none)) else (none)) else (none))) else (none)) else (none))) else (none)) = some r := H
     have A13 := Aside0.mk A130
     clear A130
     by_cases c14 : t267.size + 1 ≤ 9223372036854775807
     rotate_left
     ·rw [if_neg c14] at H
      exact absurd H (by simp)
     rw [if_pos c14] at H
     have c14b0 := eq_true c14
     have c14b1 : decide (t267.size + 1 ≤ 9223372036854775807) = true := decide_eq_true c14
     try have c14b2 : (9223372036854775807 < t267.size + 1) = False := eq_false (Nat.not_lt.2 c14)
     replace H := Option.bind_eq_some_iff.mp H
     obtain ⟨t269, A150, H⟩ := H
     replace H : (if (t267 ++ (⟨#[58]⟩ : ByteArray)).size + t269.size ≤ 9223372036854775807 then (if ((t267 ++ (⟨#[58]⟩ : ByteArray)) ++ t269).size + 1 ≤ 9223372036854775807 then ((impl_digits.f k2 (rd l1 x17_2)).bind fun t271 => (if (((t267 ++ (⟨#[58]⟩ : ByteArray)) ++ t269) ++ (⟨#[62]⟩ : ByteArray)).size + t271.size ≤ 9223372036854775807 then (if ((((t267 ++ (⟨#[58]⟩ : ByteArray)) ++ t269) ++ (⟨#[62]⟩ : ByteArray)) ++ t271).size + 1 ≤ 9223372036854775807 then (if x5_2.size + (((((t267 ++ (⟨#[58]⟩ : ByteArray)) ++ t269) ++ (⟨#[62]⟩ : ByteArray)) ++ t271) ++ (⟨#[10]⟩ : ByteArray)).size ≤ 9223372036854775807 then (impl_ChangedText.l0 k2 l0 l1 (x5_2 ++ (((((t267 ++ (⟨#[58]⟩ : ByteArray)) ++ t269) ++ (⟨#[62]⟩ : ByteArray)) ++ t271) ++ (⟨#[10]⟩ : ByteArray))) (l0.length : Int) (wrap64 (x17_2 + 1))) else (none)) else (none)) else (none))) else (none)) else (none)) = some r := H
     have A15 := Aside0.mk A150
     clear A150
     by_cases c16 : (t267 ++ (⟨#[58]⟩ : ByteArray)).size + t269.size ≤ 9223372036854775807
     rotate_left
     ·rw [if_neg c16] at H
      exact absurd H (by simp)
     rw [if_pos c16] at H
     have c16b0 := eq_true c16
     have c16b1 : decide ((t267 ++ (⟨#[58]⟩ : ByteArray)).size + t269.size ≤ 9223372036854775807) = true := decide_eq_true c16
     try have c16b3 : (9223372036854775807 < t267.size + 1 + t269.size) = False := eq_false (by have h_ := c16; simp only [ByteArray.size_append] at h_; exact Nat.not_lt.2 h_)
     try have c16b2 : (9223372036854775807 < (t267 ++ (⟨#[58]⟩ : ByteArray)).size + t269.size) = False := eq_false (Nat.not_lt.2 c16)
     by_cases c17 : ((t267 ++ (⟨#[58]⟩ : ByteArray)) ++ t269).size + 1 ≤ 9223372036854775807
     rotate_left
     ·rw [if_neg c17] at H
      exact absurd H (by simp)
     rw [if_pos c17] at H
     have c17b0 := eq_true c17
     have c17b1 : decide (((t267 ++ (⟨#[58]⟩ : ByteArray)) ++ t269).size + 1 ≤ 9223372036854775807) = true := decide_eq_true c17
     try have c17b3 : (9223372036854775807 < t267.size + 1 + t269.size + 1) = False := eq_false (by have h_ := c17; simp only [ByteArray.size_append] at h_; exact Nat.not_lt.2 h_)
     try have c17b2 : (9223372036854775807 < ((t267 ++ (⟨#[58]⟩ : ByteArray)) ++ t269).size + 1) = False := eq_false (Nat.not_lt.2 c17)
     replace H := Option.bind_eq_some_iff.mp H
     obtain ⟨t271, A180, H⟩ := H
     replace H : (if (((t267 ++ (⟨#[58]⟩ : ByteArray)) ++ t269) ++ (⟨#[62]⟩ : ByteArray)).size + t271.size ≤ 9223372036854775807 then (if ((((t267 ++ (⟨#[58]⟩ : ByteArray)) ++ t269) ++ (⟨#[62]⟩ : ByteArray)) ++ t271).size + 1 ≤ 9223372036854775807 then (if x5_2.size + (((((t267 ++ (⟨#[58]⟩ : ByteArray)) ++ t269) ++ (⟨#[62]⟩ : ByteArray)) ++ t271) ++ (⟨#[10]⟩ : ByteArray)).size ≤ 9223372036854775807 then (impl_ChangedText.l0 k2 l0 l1 (x5_2 ++ (((((t267 ++ (⟨#[58]⟩ : ByteArray)) ++ t269) ++ (⟨#[62]⟩ : ByteArray)) ++ t271) ++ (⟨#[10]⟩ : ByteArray))) (l0.length : Int) (wrap64 (x17_2 + 1))) else (none)) else (none)) else (none)) = some r := H
     have A18 := Aside0.mk A180
     clear A180
     by_cases c19 : (((t267 ++ (⟨#[58]⟩ : ByteArray)) ++ t269) ++ (⟨#[62]⟩ : ByteArray)).size + t271.size ≤ 9223372036854775807
     rotate_left
     ·rw [if_neg c19] at H
      exact absurd H (by simp)
     rw [if_pos c19] at H
     have c19b0 := eq_true c19
     have c19b1 : decide ((((t267 ++ (⟨#[58]⟩ : ByteArray)) ++ t269) ++ (⟨#[62]⟩ : ByteArray)).size + t271.size ≤ 9223372036854775807) = true := decide_eq_true c19
     try have c19b3 : (9223372036854775807 < t267.size + 1 + t269.size + 1 + t271.size) = False := eq_false (by have h_ := c19; simp only [ByteArray.size_append] at h_; exact Nat.not_lt.2 h_)
     try have c19b2 : (9223372036854775807 < (((t267 ++ (⟨#[58]⟩ : ByteArray)) ++ t269) ++ (⟨#[62]⟩ : ByteArray)).size + t271.size) = False := eq_false (Nat.not_lt.2 c19)
     by_cases c20 : ((((t267 ++ (⟨#[58]⟩ : ByteArray)) ++ t269) ++ (⟨#[62]⟩ : ByteArray)) ++ t271).size + 1 ≤ 9223372036854775807
     rotate_left
     ·rw [if_neg c20] at H
      exact absurd H (by simp)
     rw [if_pos c20] at H
     have c20b0 := eq_true c20
     have c20b1 : decide (((((t267 ++ (⟨#[58]⟩ : ByteArray)) ++ t269) ++ (⟨#[62]⟩ : ByteArray)) ++ t271).size + 1 ≤ 9223372036854775807) = true := decide_eq_true c20
     try have c20b3 : (9223372036854775807 < t267.size + 1 + t269.size + 1 + t271.size + 1) = False := eq_false (by have h_ := c20; simp only [ByteArray.size_append] at h_; exact Nat.not_lt.2 h_)
     try have c20b2 : (9223372036854775807 < ((((t267 ++ (⟨#[58]⟩ : ByteArray)) ++ t269) ++ (⟨#[62]⟩ : ByteArray)) ++ t271).size + 1) = False := eq_false (Nat.not_lt.2 c20)
     by_cases c21 : x5_2.size + (((((t267 ++ (⟨#[58]⟩ : ByteArray)) ++ t269) ++ (⟨#[62]⟩ : ByteArray)) ++ t271) ++ (⟨#[10]⟩ : ByteArray)).size ≤ 9223372036854775807
     rotate_left
     ·rw [if_neg c21] at H
      exact absurd H (by simp)
     rw [if_pos c21] at H
     have c21b0 := eq_true c21
     have c21b1 : decide (x5_2.size + (((((t267 ++ (⟨#[58]⟩ : ByteArray)) ++ t269) ++ (⟨#[62]⟩ : ByteArray)) ++ t271) ++ (⟨#[10]⟩ : ByteArray)).size ≤ 9223372036854775807) = true := decide_eq_true c21
     try have c21b3 : (9223372036854775807 < x5_2.size + (t267.size + 1 + t269.size + 1 + t271.size + 1)) = False := eq_false (by have h_ := c21; simp only [ByteArray.size_append] at h_; exact Nat.not_lt.2 h_)
     try have c21b2 : (9223372036854775807 < x5_2.size + (((((t267 ++ (⟨#[58]⟩ : ByteArray)) ++ t269) ++ (⟨#[62]⟩ : ByteArray)) ++ t271) ++ (⟨#[10]⟩ : ByteArray)).size) = False := eq_false (Nat.not_lt.2 c21)
     have H' := Aside0.mk H
     clear H
     have p265 : 0 ≤ (x17_2 : Int) := zA4
     have q265 : x17_2 < (l0.length : Int) := zA4
     obtain ⟨ad265, e265, hx265_0⟩ := Kd.at_int HR0.out x17_2 p265 q265
     cases e265
     replace p265 := eq_true p265
     replace q265 := eq_true q265
     have p266 : 0 ≤ (x17_2 : Int) := zA4
     have q266 : x17_2 < (l1.length : Int) := zA4
     obtain ⟨ad266, e266, hx266_0⟩ := Kd.at_int HR1.out x17_2 p266 q266
     cases e266
     replace p266 := eq_true p266
     replace q266 := eq_true q266
     go_wp2_with (first | (go_at_call 124; (with_reducible refine (impl_digits.calls k2 x17_2 t267 _ A13.out).mono ?_); rintro e w' ⟨rfl, ⟨nd, rfl⟩⟩; (try first | exact ⟨rfl, _, World.drewN_drewN _ _ _⟩ | exact ⟨rfl, _, Eq.trans (World.drewN_drewN _ _ _) (congrArg (World.drewN _) (Nat.add_assoc _ _ _))⟩); have p268 : 0 ≤ (x17_2 : Int) := zA4; have q268 : x17_2 < (l0.length : Int) := zA4; obtain ⟨ad268, e268, hx268_0⟩ := Kd.at_int HR0.out x17_2 p268 q268; obtain rfl : ad265 = ad268 := (by injection e268); replace p268 := eq_true p268; replace q268 := eq_true q268) | (go_at_call 124; (with_reducible refine (impl_digits.calls k2 (rd l0 x17_2) t269 _ A15.out).mono ?_); rintro e w' ⟨rfl, ⟨nd, rfl⟩⟩; (try first | exact ⟨rfl, _, World.drewN_drewN _ _ _⟩ | exact ⟨rfl, _, Eq.trans (World.drewN_drewN _ _ _) (congrArg (World.drewN _) (Nat.add_assoc _ _ _))⟩); have p270 : 0 ≤ (x17_2 : Int) := zA4; have q270 : x17_2 < (l1.length : Int) := zA4; obtain ⟨ad270, e270, hx270_0⟩ := Kd.at_int HR1.out x17_2 p270 q270; obtain rfl : ad266 = ad270 := (by injection e270); replace p270 := eq_true p270; replace q270 := eq_true q270) | (go_at_call 124; (with_reducible refine (impl_digits.calls k2 (rd l1 x17_2) t271 _ A18.out).mono ?_); rintro e w' ⟨rfl, ⟨nd, rfl⟩⟩; (try first | exact ⟨rfl, _, World.drewN_drewN _ _ _⟩ | exact ⟨rfl, _, Eq.trans (World.drewN_drewN _ _ _) (congrArg (World.drewN _) (Nat.add_assoc _ _ _))⟩)))
     repeat (go_quiet (first | (go_at_call 124; (with_reducible refine (impl_digits.calls k2 x17_2 t267 _ A13.out).mono ?_); rintro e w' ⟨rfl, ⟨nd, rfl⟩⟩; (try first | exact ⟨rfl, _, World.drewN_drewN _ _ _⟩ | exact ⟨rfl, _, Eq.trans (World.drewN_drewN _ _ _) (congrArg (World.drewN _) (Nat.add_assoc _ _ _))⟩); have p268 : 0 ≤ (x17_2 : Int) := zA4; have q268 : x17_2 < (l0.length : Int) := zA4; obtain ⟨ad268, e268, hx268_0⟩ := Kd.at_int HR0.out x17_2 p268 q268; obtain rfl : ad265 = ad268 := (by injection e268); replace p268 := eq_true p268; replace q268 := eq_true q268) | (go_at_call 124; (with_reducible refine (impl_digits.calls k2 (rd l0 x17_2) t269 _ A15.out).mono ?_); rintro e w' ⟨rfl, ⟨nd, rfl⟩⟩; (try first | exact ⟨rfl, _, World.drewN_drewN _ _ _⟩ | exact ⟨rfl, _, Eq.trans (World.drewN_drewN _ _ _) (congrArg (World.drewN _) (Nat.add_assoc _ _ _))⟩); have p270 : 0 ≤ (x17_2 : Int) := zA4; have q270 : x17_2 < (l1.length : Int) := zA4; obtain ⟨ad270, e270, hx270_0⟩ := Kd.at_int HR1.out x17_2 p270 q270; obtain rfl : ad266 = ad270 := (by injection e270); replace p270 := eq_true p270; replace q270 := eq_true q270) | (go_at_call 124; (with_reducible refine (impl_digits.calls k2 (rd l1 x17_2) t271 _ A18.out).mono ?_); rintro e w' ⟨rfl, ⟨nd, rfl⟩⟩; (try first | exact ⟨rfl, _, World.drewN_drewN _ _ _⟩ | exact ⟨rfl, _, Eq.trans (World.drewN_drewN _ _ _) (congrArg (World.drewN _) (Nat.add_assoc _ _ _))⟩))); try go_wp2_with (first | (go_at_call 124; (with_reducible refine (impl_digits.calls k2 x17_2 t267 _ A13.out).mono ?_); rintro e w' ⟨rfl, ⟨nd, rfl⟩⟩; (try first | exact ⟨rfl, _, World.drewN_drewN _ _ _⟩ | exact ⟨rfl, _, Eq.trans (World.drewN_drewN _ _ _) (congrArg (World.drewN _) (Nat.add_assoc _ _ _))⟩); have p268 : 0 ≤ (x17_2 : Int) := zA4; have q268 : x17_2 < (l0.length : Int) := zA4; obtain ⟨ad268, e268, hx268_0⟩ := Kd.at_int HR0.out x17_2 p268 q268; obtain rfl : ad265 = ad268 := (by injection e268); replace p268 := eq_true p268; replace q268 := eq_true q268) | (go_at_call 124; (with_reducible refine (impl_digits.calls k2 (rd l0 x17_2) t269 _ A15.out).mono ?_); rintro e w' ⟨rfl, ⟨nd, rfl⟩⟩; (try first | exact ⟨rfl, _, World.drewN_drewN _ _ _⟩ | exact ⟨rfl, _, Eq.trans (World.drewN_drewN _ _ _) (congrArg (World.drewN _) (Nat.add_assoc _ _ _))⟩); have p270 : 0 ≤ (x17_2 : Int) := zA4; have q270 : x17_2 < (l1.length : Int) := zA4; obtain ⟨ad270, e270, hx270_0⟩ := Kd.at_int HR1.out x17_2 p270 q270; obtain rfl : ad266 = ad270 := (by injection e270); replace p270 := eq_true p270; replace q270 := eq_true q270) | (go_at_call 124; (with_reducible refine (impl_digits.calls k2 (rd l1 x17_2) t271 _ A18.out).mono ?_); rintro e w' ⟨rfl, ⟨nd, rfl⟩⟩; (try first | exact ⟨rfl, _, World.drewN_drewN _ _ _⟩ | exact ⟨rfl, _, Eq.trans (World.drewN_drewN _ _ _) (congrArg (World.drewN _) (Nat.add_assoc _ _ _))⟩))))
     go_roundg k2
     case measure => have := HJ2.out; have := HK2.out; omega
     case rel => exact ⟨(x5_2 ++ (((((t267 ++ (⟨#[58]⟩ : ByteArray)) ++ t269) ++ (⟨#[62]⟩ : ByteArray)) ++ t271) ++ (⟨#[10]⟩ : ByteArray))), (wrap64 (x17_2 + 1)), (by first | rfl | (simp; done) | (simp [*]; done)), (by first | rfl | (simp; done) | (simp [*]; done)), H', ⟨by have := HJ2.out; have := HK2.out; omega⟩, by repeat (first | exact Drawn0.refl _ | apply Drawn0.step)⟩

-- NOT PRINTED: function 218 (abi_NoEscape)

-- NOT PRINTED: function 214 (strings_Builder_copyCheck)

-- NOT PRINTED: function 219 (bytealg_MakeNoZero)

-- NOT PRINTED: function 215 (strings_Builder_grow)

-- NOT PRINTED: function 198 (strings_Builder_Grow)

-- NOT PRINTED: function 199 (strings_Builder_WriteString)

-- NOT PRINTED: function 200 (strings_Builder_String)

/-! ### strings_Join: function 166 -/
def sh.lays156_ren : Go.Shelf.Ren := ⟨fun | 156 => 166 | 165 => 198 | 166 => 199 | 169 => 200 | 240 => 214 | 241 => 215 | 276 => 218 | 277 => 219 | n => n, fun | 31 => 112 | 9 => 9 | 3 => 3 | 4 => 4 | 0 => 0 | 20 => 20 | 72 => 200 | 76 => 204 | 70 => 198 | 37 => 36 | 75 => 203 | 127 => 215 | 164 => 219 | 5 => 5 | 80 => 206 | n => n, fun | n => n⟩
theorem sh.lays156 : Go.Proofs.Lays.n156 Try.prog sh.lays156_ren := {
 mixed := by kernel_rfl
 f156 := Try.func166.trans (congrArg some (by kernel_rfl))
 f165 := Try.func198.trans (congrArg some (by kernel_rfl))
 f166 := Try.func199.trans (congrArg some (by kernel_rfl))
 f169 := Try.func200.trans (congrArg some (by kernel_rfl))
 f240 := Try.func214.trans (congrArg some (by kernel_rfl))
 f241 := Try.func215.trans (congrArg some (by kernel_rfl))
 f276 := Try.func218.trans (congrArg some (by kernel_rfl))
 f277 := Try.func219.trans (congrArg some (by kernel_rfl))
 t0 := Try.underlying0
 a0 := Try.isAgg0
 z0 := Try.sizeOf0
 v0 := Try.zeroValue0
 t3 := Try.underlying3
 a3 := Try.isAgg3
 z3 := Try.sizeOf3
 v3 := Try.zeroValue3
 t4 := Try.underlying4
 a4 := Try.isAgg4
 z4 := Try.sizeOf4
 v4 := Try.zeroValue4
 t9 := Try.underlying9
 a9 := Try.isAgg9
 z9 := Try.sizeOf9
 v9 := Try.zeroValue9
 t20 := Try.underlying20
 a20 := Try.isAgg20
 z20 := Try.sizeOf20
 v20 := Try.zeroValue20
 t31 := Try.underlying112
 a31 := Try.isAgg112
 z31 := Try.sizeOf112
 v31 := Try.zeroValue112
 t37 := Try.underlying36
 a37 := Try.isAgg36
 z37 := Try.sizeOf36
 v37 := Try.zeroValue36
 t70 := Try.underlying198
 a70 := Try.isAgg198
 z70 := Try.sizeOf198
 v70 := Try.zeroValue198
 t72 := Try.underlying200
 a72 := Try.isAgg200
 z72 := Try.sizeOf200
 v72 := Try.zeroValue200
 t75 := Try.underlying203
 a75 := Try.isAgg203
 z75 := Try.sizeOf203
 v75 := Try.zeroValue203
 t76 := Try.underlying204
 a76 := Try.isAgg204
 z76 := Try.sizeOf204
 v76 := Try.zeroValue204
 t127 := Try.underlying215
 a127 := Try.isAgg215
 z127 := Try.sizeOf215
 v127 := Try.zeroValue215
 t164 := Try.underlying219
 a164 := Try.isAgg219
 z164 := Try.sizeOf219
 v164 := Try.zeroValue219 }
theorem sh.Builder_Extra_156 : Builder.Extra Try.prog sh.lays156_ren := {
 sizeBuilder := by kernel_rfl
 liesBuilder := by kernel_rfl
 t5 := Try.underlying5
 a5 := Try.isAgg5
 z5 := Try.sizeOf5
 v5 := Try.zeroValue5
 infoByte := by kernel_rfl
 cellsByte := by kernel_rfl
 sizeByte := by kernel_rfl
 neB5 := by decide }
open Go.RowKit in
theorem sh.strings_Join_none (a : Option Addr) (c : Nat) (sep : ByteArray) (w : World) :
  Calls Try.prog 166 #[.slice a 0 c, .string sep] w fun e w' => e = .returned (.string ⟨#[]⟩) ∧ w' = w := Any.strings_Join_none sh.lays156 sh.Builder_Extra_156 a c sep w
open Go.RowKit in
theorem sh.strings_Join (bk o c : Nat) (xs : List ByteArray) (sep : ByteArray) (w : World) (hcells : ∀ (j : Nat) x, xs[j]? = some x → w.cell? ⟨bk, o + j, none⟩ = some (.string x)) (hbk : bk < w.heap.size) (hN : xs.length ≤ 140737488355328) (hcap : xs.length ≤ c) (hlen : (Lib.join (xs.map (·.data.toList)) sep.data.toList).length ≤ 140737488355328) :
  Calls Try.prog 166 #[.slice (some ⟨bk, o, none⟩) xs.length c, .string sep] w fun e w' => e = .returned (.string ⟨(Lib.join (xs.map (·.data.toList)) sep.data.toList).toArray⟩) ∧ Below w.heap.size w w' := Any.strings_Join sh.lays156 sh.Builder_Extra_156 bk o c xs sep w hcells hbk hN hcap hlen
def joinB (l : List ByteArray) (s : ByteArray) : ByteArray := ⟨(Lib.join (l.map (·.data.toList)) s.data.toList).toArray⟩
def strings_Join.f (l0 : List ByteArray) (a1 : ByteArray) : Option ByteArray := if l0.length ≤ 140737488355328 ∧ (joinB l0 a1).size ≤ 140737488355328 then some (joinB l0 a1) else none
theorem strings_Join.calls (A0 : Option Addr) (c0 : Nat) (l0 : List ByteArray) (a1 : ByteArray) (r : ByteArray) (w : World) (hr0 : Kd.C Kd.string w A0 l0.length l0) (hc0 : l0.length ≤ c0) (h : strings_Join.f l0 a1 = some r) :
  Calls Try.prog 166 #[.slice A0 l0.length c0, .string a1] w fun e w' => e = .returned (.string r) ∧ Below w.heap.size w w' := by
 unfold strings_Join.f at h
 by_cases hl : l0.length ≤ 140737488355328 ∧ (joinB l0 a1).size ≤ 140737488355328
 rotate_left
 ·rw [if_neg hl] at h
  exact absurd h (by simp)
 rw [if_pos hl] at h
 obtain rfl := Option.some.inj h
 by_cases h0 : l0.length = 0
 ·obtain rfl := List.eq_nil_of_length_eq_zero h0
  exact (sh.strings_Join_none A0 c0 a1 w).mono fun e w' ⟨he, hw⟩ => ⟨he, hw ▸ Below.refl _ _⟩
 obtain ⟨ad, rfl, hc⟩ := Kd.at_string hr0 0 (by omega) (by omega)
 obtain ⟨b, o, sp⟩ := ad
 have hsp : sp = none := by
  cases sp with
  | none => rfl
  | some x =>
   have e0 : (⟨b, o, some x⟩ : Addr).add (0 : Int).toNat = ⟨b, o, some x⟩ := rfl
   rw [e0] at hc
   unfold World.cell? at hc
   split at hc <;> simp at hc
 subst hsp
 have e0 : (⟨b, o, none⟩ : Addr).add (0 : Int).toNat = ⟨b, o, none⟩ := rfl
 rw [e0] at hc
 exact sh.strings_Join b o c0 l0 a1 w (fun j x hx => by
  have hj : j < l0.length := (List.getElem?_eq_some_iff.1 hx).1
  obtain ⟨ad, e, hc⟩ := Kd.at_string hr0 (j : Int) (by omega) (by omega)
  obtain rfl := Option.some.inj e
  have ea : (⟨b, o, none⟩ : Addr).add (j : Int).toNat = ⟨b, o + j, none⟩ := by unfold Addr.add; split <;> simp_all
  rw [ea] at hc
  rw [hc]
  simp [rdOf, hx]) (World.block_lt_of_cell? w _ hc) hl.1 hc0 hl.2

/-! ### impl_numbers: function 167 -/
def impl_numbers.l0 : Nat → List ByteArray → List Int → Int → Int → Option (List ByteArray)
 | 0, _, _, _, _ => none
 | k + 1, x3, x7, x8, x9 => if x9 < x8 then (if 0 ≤ x9 then (if x9 < (x7.length : Int) then ((impl_digits.f k (rd x7 x9)).bind fun t276 => (if x3.length < 8796093022208 then (impl_numbers.l0 k (x3 ++ [t276]) x7 x8 (wrap64 (x9 + 1))) else (none))) else (none)) else (none)) else (some x3)
def impl_numbers.f (k : Nat) (l0 : List Int) : Option (List ByteArray) := impl_numbers.l0 k (([] : List ByteArray)) l0 (l0.length : Int) 0
theorem impl_numbers.mono_l : ∀ k, (∀ y0 y1 y2 y3, LeO (impl_numbers.l0 k y0 y1 y2 y3) (impl_numbers.l0 (k + 1) y0 y1 y2 y3))
 | 0 => fun _ _ _ _ r h => by simp [impl_numbers.l0] at h
 | k + 1 => by
  have ih0 := impl_numbers.mono_l k
  ·intro y0 y1 y2 y3
   unfold impl_numbers.l0
   repeat' first
   | (with_reducible exact ih0 _ _ _ _)
   | (with_reducible exact impl_digits.mono _ _)
   | (with_reducible exact LeO.refl _)
   | (with_reducible exact LeO.none _)
   | (with_reducible refine LeO.ite ?_ ?_)
   | (with_reducible refine LeO.bind ?_ (fun _ => ?_))
   | exact ih0 _ _ _ _
   | exact impl_digits.mono _ _
   | exact LeO.none _
   | refine LeO.ite ?_ ?_
   | refine LeO.bind ?_ (fun _ => ?_)
theorem impl_numbers.mono : ∀ a0 k, LeO (impl_numbers.f k a0) (impl_numbers.f (k + 1) a0) := by
 intro a0 k
 have ih0 := impl_numbers.mono_l k
 unfold impl_numbers.f
 repeat' first
   | (with_reducible exact ih0 _ _ _ _)
   | (with_reducible exact impl_digits.mono _ _)
   | (with_reducible exact LeO.refl _)
   | (with_reducible exact LeO.none _)
   | (with_reducible refine LeO.ite ?_ ?_)
   | (with_reducible refine LeO.bind ?_ (fun _ => ?_))
   | exact ih0 _ _ _ _
   | exact impl_digits.mono _ _
   | exact LeO.none _
   | refine LeO.ite ?_ ?_
   | refine LeO.bind ?_ (fun _ => ?_)
set_option maxHeartbeats 8000000 in
set_option maxRecDepth 100000 in
theorem impl_numbers.calls (k : Nat) (A0 : Option Addr) (c0 : Nat) (l0 : List Int) (r : List ByteArray) (w : World) (hr0 : Kd.C (Kd.int .i64) w A0 l0.length l0) (hc0 : l0.length ≤ c0) (h : impl_numbers.f k l0 = some r) :
  Calls Try.prog 167 #[.slice A0 l0.length c0] w fun e w' => ∃ v0_ : Value, e = .returned (v0_) ∧ Kd.R Kd.string 9 w' w.heap.size (fun _ => True) v0_ r ∧ Below w.heap.size w w' := by
 have HR0 := Aside0.mk hr0
 have HC0 := Aside0.mk hc0
 clear hr0 hc0
 have HB := Aside0.mk (Below.refl w.heap.size w)
 have H : (impl_numbers.l0 k (([] : List ByteArray)) l0 (l0.length : Int) 0) = some r := h
 clear h
 obtain ⟨y272, hy272⟩ : ∃ y_ : List ByteArray, y_ = (([] : List ByteArray)) := ⟨_, rfl⟩
 replace H : (impl_numbers.l0 k y272 l0 (l0.length : Int) 0) = some r := by first | (rw [hy272]; with_reducible exact H) | (have H2_ := (Option.bind_some _ _).symm.trans H; rw [hy272]; with_reducible exact H2_) | (have H2_ := (Option.bind_some _ _).symm.trans H; with_reducible exact H2_) | with_reducible exact H | (rw [hy272]; exact H) | exact H
 have Ny272 := Aside0.mk hy272
 clear hy272
 have H' := Aside0.mk H
 clear H
 go_enter Try.func167, Try.ntmps167
 go_wp2_with (first | ((with_reducible refine gate_dst (N := 6) rfl ?_); refine Kd.R_lit Kd.string _ 9 ?hg (N := 6) ?hd (xs := ([] : List ByteArray)) (inner := []) (ok := fun _ => True) (okp := fun _ => True) ?hr ?hp (fun _ hk => hk) trivial (Below.refl _ _) (Nat.le_refl _) (by simp) ?_; (case hd => rfl); (case hg => rfl); (case hr => first | (go_simp; done) | (go_simp; rfl)); (case hp => exact (Reps.none _ _)); intro v273 w2 ho3 hb hg_ hnew_; clear hg_ hnew_; (first | rw [← Ny272.out] at ho3 | (simp only [Int.reduceToNat] at ho3; rw [← Ny272.out] at ho3)); have n0_ := Aside0.mk (Kd.R_lower ho3 (below_size (zB4_0))); have n1_ := Aside0.mk (below_step (zB4_0) hb); clear HB; have HO274 := n0_; have HB := n1_; clear n0_ n1_; clear hb ho3))
 go_loopg [3, 9] k (fun kq v3 v9 w' => ∃ (x3_1 : List ByteArray) (x9_1 : Int), v9 = .int .i64 x9_1 ∧ Aside0 (impl_numbers.l0 kq x3_1 l0 (l0.length : Int) x9_1 = some r) ∧ Aside0 (kq ≤ k) ∧ Aside0 (Kd.R Kd.string 9 w' w.heap.size (fun _ => True) v3 x3_1) ∧ Aside0 (Below w.heap.size w w'))
 case atStart => exact ⟨(y272), (0), (by first | rfl | (simp; done) | (simp [*]; done)), H', ⟨Nat.le_refl _⟩, ⟨zR4 HO274.out⟩, ⟨zB4_0⟩⟩
 case round =>
  clear H'
  try clear c1
  try clear p2
  obtain ⟨x3_1, x9_1, rfl, HA, HK1, HO_3, HB⟩ := hrel
  cases gk with
  | zero => exact absurd HA.out (by simp [impl_numbers.l0])
  | succ k1 =>
   have H := HA.out
   clear HA
   simp only [impl_numbers.l0] at H
   by_cases c4 : x9_1 < (l0.length : Int)
   rotate_left
   ·rw [if_neg c4] at H
    have c4b0 : decide (x9_1 < (l0.length : Int)) = false := decide_eq_false c4
    clear c4
    obtain rfl := Option.some.inj H
    go_wp2
    go_ret
    exact ⟨_, zE4, zR4 HO_3.out, zB4_0⟩
   rw [if_pos c4] at H
   have c4b0 : decide (x9_1 < (l0.length : Int)) = true := decide_eq_true c4
   clear c4
   by_cases c5 : 0 ≤ x9_1
   rotate_left
   ·rw [if_neg c5] at H
    exact absurd H (by simp)
   rw [if_pos c5] at H
   have c5b0 : decide (0 ≤ x9_1) = true := decide_eq_true c5
   clear c5
   by_cases c6 : x9_1 < (l0.length : Int)
   rotate_left
   ·rw [if_neg c6] at H
    exact absurd H (by simp)
   rw [if_pos c6] at H
   have c6b0 : decide (x9_1 < (l0.length : Int)) = true := decide_eq_true c6
   clear c6
   replace H := Option.bind_eq_some_iff.mp H
   obtain ⟨t276, A70, H⟩ := H
   replace H : (if x3_1.length < 8796093022208 then (impl_numbers.l0 k1 (x3_1 ++ [t276]) l0 (l0.length : Int) (wrap64 (x9_1 + 1))) else (none)) = some r := H
   have A7 := Aside0.mk A70
   clear A70
   by_cases c8 : x3_1.length < 8796093022208
   rotate_left
   ·rw [if_neg c8] at H
    exact absurd H (by simp)
   rw [if_pos c8] at H
   have LMc8 := Aside0.mk c8
   clear c8
   obtain ⟨y277, hy277⟩ : ∃ y_ : List ByteArray, y_ = (x3_1 ++ [t276]) := ⟨_, rfl⟩
   replace H : (impl_numbers.l0 k1 y277 l0 (l0.length : Int) (wrap64 (x9_1 + 1))) = some r := by first | (rw [hy277]; with_reducible exact H) | (have H2_ := (Option.bind_some _ _).symm.trans H; rw [hy277]; with_reducible exact H2_) | (have H2_ := (Option.bind_some _ _).symm.trans H; with_reducible exact H2_) | with_reducible exact H | (rw [hy277]; exact H) | exact H
   have Ny277 := Aside0.mk hy277
   clear hy277
   have H' := Aside0.mk H
   clear H
   have p275 : 0 ≤ (x9_1 : Int) := zA4
   have q275 : x9_1 < (l0.length : Int) := zA4
   obtain ⟨ad275, e275, hx275_0⟩ := Kd.at_int HR0.out x9_1 p275 q275
   cases e275
   replace hx275_0 := (HB.out.cell (World.block_lt_of_cell? w _ hx275_0)).trans hx275_0
   replace p275 := eq_true p275
   replace q275 := eq_true q275
   go_wp2_with (first | ((with_reducible refine gate_callee (f := 124) rfl ?_); refine goesL_ (some 15) rfl rfl Try.func124 (by kernel_rfl) rfl #[.int .i64 (rd l0 x9_1)] rfl zT4 ?_; (with_reducible refine (impl_digits.calls k1 (rd l0 x9_1) t276 _ A7.out).mono ?_); rintro e w' ⟨rfl, ⟨nd, rfl⟩⟩; refine ⟨_, rfl, ?_⟩) | ((with_reducible refine gate_builtin (b := .append) (xs := #[.tmp 13, .tmp 16]) rfl ?_); at_builtin; refine Kd.R_append Kd.string (w0 := w) w.heap.size rfl (.tmp 13) (.tmp 16) 112 9 (.string ⟨#[]⟩) 16 rfl Try.underlying112 info9 rfl (by decide) (by omega) u3 x3_1 t276 [.string t276] (fun _ => True) (fun _ => False) rfl rfl ?aP (fun _ hk => hk.elim) ?aF ?aO ?aB ?aS ?aL ?_; (case aP => exact rfl); (case aB => exact (zB4_0)); (case aF => exact (fun _ _ => trivial)); (case aO => exact (zR4 HO_3.out)); (case aS => exact (below_size (zB4_0))); (case aL => have := LMc8.out; omega); intro v278 w9 ho hb hg hat; rw [← Ny277.out] at ho; have n0_ := Aside0.mk (hb); have n1_ := Aside0.mk (ho); clear HB; clear HO_3; have HB := n0_; have HO279 := n1_; clear n0_ n1_; clear ho hb hg hat))
   go_roundg k1
   case measure => have := HK1.out; omega
   case rel => exact ⟨(y277), (wrap64 (x9_1 + 1)), (by first | rfl | (simp; done) | (simp [*]; done)), H', ⟨by have := HK1.out; omega⟩, ⟨zR4 HO279.out⟩, ⟨zB4_0⟩⟩

/-! ### impl_spaced: function 125 -/
def impl_spaced.f (k : Nat) (l0 : List Int) : Option (ByteArray) := (impl_numbers.f k l0).bind fun t280 => ((strings_Join.f t280 (⟨#[32]⟩ : ByteArray)).bind fun t283 => (some t283))
theorem impl_spaced.mono : ∀ a0 k, LeO (impl_spaced.f k a0) (impl_spaced.f (k + 1) a0) := by
 intro a0 k
 unfold impl_spaced.f
 repeat' first
   | (with_reducible exact impl_numbers.mono _ _)
   | (with_reducible exact LeO.refl _)
   | (with_reducible exact LeO.none _)
   | (with_reducible refine LeO.ite ?_ ?_)
   | (with_reducible refine LeO.bind ?_ (fun _ => ?_))
   | exact impl_numbers.mono _ _
   | exact LeO.none _
   | refine LeO.ite ?_ ?_
   | refine LeO.bind ?_ (fun _ => ?_)
set_option maxHeartbeats 8000000 in
set_option maxRecDepth 100000 in
theorem impl_spaced.calls (k : Nat) (A0 : Option Addr) (c0 : Nat) (l0 : List Int) (r : ByteArray) (w : World) (hr0 : Kd.C (Kd.int .i64) w A0 l0.length l0) (hc0 : l0.length ≤ c0) (h : impl_spaced.f k l0 = some r) :
  Calls Try.prog 125 #[.slice A0 l0.length c0] w fun e w' => e = .returned (.string r) ∧ Below w.heap.size w w' := by
 have HR0 := Aside0.mk hr0
 have HC0 := Aside0.mk hc0
 clear hr0 hc0
 have HB := Aside0.mk (Below.refl w.heap.size w)
 have H : ((impl_numbers.f k l0).bind fun t280 => ((strings_Join.f t280 (⟨#[32]⟩ : ByteArray)).bind fun t283 => (some t283))) = some r := h
 clear h
 replace H := Option.bind_eq_some_iff.mp H
 obtain ⟨t280, A20, H⟩ := H
 replace H : ((strings_Join.f t280 (⟨#[32]⟩ : ByteArray)).bind fun t283 => (some t283)) = some r := H
 have A2 := Aside0.mk A20
 clear A20
 replace H := Option.bind_eq_some_iff.mp H
 obtain ⟨t283, A30, H⟩ := H
 replace H : (some t283) = some r := H
 have A3 := Aside0.mk A30
 clear A30
 obtain rfl := Option.some.inj H
 go_enter Try.func125, Try.ntmps125
 go_wp2_with (first | ((with_reducible refine gate_callee (f := 167) rfl ?_); refine goesL_ (some 4) rfl rfl Try.func167 (by kernel_rfl) rfl #[.slice A0 l0.length c0] rfl zT4 ?_; (with_reducible refine (impl_numbers.calls k _ _ l0 t280 _ ?side1 ?side2 A2.out).mono ?_); (case side1 => exact zC4 HR0.out); (case side2 => exact HC0.out); rintro e w4 ⟨v281, rfl, ho0, hb⟩; refine ⟨_, rfl, ?_⟩; have n0_ := Aside0.mk (Kd.R_lower ho0 (below_size (zB4_0))); have n1_ := Aside0.mk (below_step (zB4_0) hb); clear HB; have HO282 := n0_; have HB := n1_; clear n0_ n1_; (try clear hb); (try clear hb2); (try clear hk); (try clear hi); (try clear ho0); obtain ⟨Ao5, co5, eo5⟩ := Kd.R_slice HO282.out; subst eo5) | ((with_reducible refine gate_callee (f := 166) rfl ?_); refine goesL_ (some 5) rfl rfl Try.func166 (by kernel_rfl) rfl #[.slice Ao5 t280.length co5, .string (⟨#[32]⟩ : ByteArray)] rfl zT4 ?_; (with_reducible refine (strings_Join.calls _ _ t280 (⟨#[32]⟩ : ByteArray) t283 _ ?side1 ?side2 A3.out).mono ?_); (case side1 => exact zC4 (Kd.R_reads' HO282.out).2.2); (case side2 => exact (Kd.R_reads' HO282.out).2.1); rintro e w6 ⟨rfl, hb⟩; refine ⟨_, rfl, ?_⟩; have n0_ := Aside0.mk (Kd.R_below (zR4 HO282.out) hb); have n1_ := Aside0.mk (below_step (zB4_0) hb); clear HO282; clear HB; have HO282 := n0_; have HB := n1_; clear n0_ n1_; (try clear hb); (try clear hb2); (try clear hk); (try clear hi)))
 go_ret
 exact ⟨zE4, zB4_0⟩

/-! ### impl_MemText: function 56 -/
def impl_MemText.l0 : Nat → List Int → ByteArray → Int → Option (ByteArray)
 | 0, _, _, _ => none
 | k + 1, x0, x3, x4 => if x4 < 24 then (if 0 ≤ x4 then (if x4 ≤ (wrap64 (x4 + 4)) then (if (wrap64 (x4 + 4)) ≤ (x0.length : Int) then ((impl_spaced.f k ((x0.take ((wrap64 (x4 + 4)) : Int).toNat).drop (x4 : Int).toNat)).bind fun t286 => (if t286.size + 1 ≤ 9223372036854775807 then (if x3.size + (t286 ++ (⟨#[10]⟩ : ByteArray)).size ≤ 9223372036854775807 then (impl_MemText.l0 k x0 (x3 ++ (t286 ++ (⟨#[10]⟩ : ByteArray))) (wrap64 (x4 + 4))) else (none)) else (none))) else (none)) else (none)) else (none)) else (some x3)
def impl_MemText.f (k : Nat) (l0 : List Int) : Option (ByteArray) := (impl_memOk.f k l0).bind fun t284 => (if t284 = true then (impl_MemText.l0 k l0 (⟨#[]⟩ : ByteArray) 0) else (some (⟨#[]⟩ : ByteArray)))
theorem impl_MemText.mono_l : ∀ k, (∀ y0 y1 y2, LeO (impl_MemText.l0 k y0 y1 y2) (impl_MemText.l0 (k + 1) y0 y1 y2))
 | 0 => fun _ _ _ r h => by simp [impl_MemText.l0] at h
 | k + 1 => by
  have ih0 := impl_MemText.mono_l k
  ·intro y0 y1 y2
   unfold impl_MemText.l0
   repeat' first
   | (with_reducible exact ih0 _ _ _)
   | (with_reducible exact impl_memOk.mono _ _)
   | (with_reducible exact impl_spaced.mono _ _)
   | (with_reducible exact LeO.refl _)
   | (with_reducible exact LeO.none _)
   | (with_reducible refine LeO.ite ?_ ?_)
   | (with_reducible refine LeO.bind ?_ (fun _ => ?_))
   | exact ih0 _ _ _
   | exact impl_memOk.mono _ _
   | exact impl_spaced.mono _ _
   | exact LeO.none _
   | refine LeO.ite ?_ ?_
   | refine LeO.bind ?_ (fun _ => ?_)
theorem impl_MemText.mono : ∀ a0 k, LeO (impl_MemText.f k a0) (impl_MemText.f (k + 1) a0) := by
 intro a0 k
 have ih0 := impl_MemText.mono_l k
 unfold impl_MemText.f
 repeat' first
   | (with_reducible exact ih0 _ _ _)
   | (with_reducible exact impl_memOk.mono _ _)
   | (with_reducible exact impl_spaced.mono _ _)
   | (with_reducible exact LeO.refl _)
   | (with_reducible exact LeO.none _)
   | (with_reducible refine LeO.ite ?_ ?_)
   | (with_reducible refine LeO.bind ?_ (fun _ => ?_))
   | exact ih0 _ _ _
   | exact impl_memOk.mono _ _
   | exact impl_spaced.mono _ _
   | exact LeO.none _
   | refine LeO.ite ?_ ?_
   | refine LeO.bind ?_ (fun _ => ?_)
set_option maxHeartbeats 8000000 in
set_option maxRecDepth 100000 in
theorem impl_MemText.calls (k : Nat) (A0 : Option Addr) (c0 : Nat) (l0 : List Int) (r : ByteArray) (w : World) (hr0 : Kd.C (Kd.int .i64) w A0 l0.length l0) (hc0 : l0.length ≤ c0) (h : impl_MemText.f k l0 = some r) :
  Calls Try.prog 56 #[.slice A0 l0.length c0] w fun e w' => e = .returned (.string r) ∧ Below w.heap.size w w' := by
 have HR0 := Aside0.mk hr0
 have HC0 := Aside0.mk hc0
 clear hr0 hc0
 have HB := Aside0.mk (Below.refl w.heap.size w)
 have H : ((impl_memOk.f k l0).bind fun t284 => (if t284 = true then (impl_MemText.l0 k l0 (⟨#[]⟩ : ByteArray) 0) else (some (⟨#[]⟩ : ByteArray)))) = some r := h
 clear h
 replace H := Option.bind_eq_some_iff.mp H
 obtain ⟨t284, A20, H⟩ := H
 replace H : (if t284 = true then (impl_MemText.l0 k l0 (⟨#[]⟩ : ByteArray) 0) else (some (⟨#[]⟩ : ByteArray))) = some r := H
 have A2 := Aside0.mk A20
 clear A20
 by_cases c3 : t284 = true
 rotate_left
 ·replace c3 := Bool.eq_false_iff.mpr c3
  subst c3
  have H1 : (some (⟨#[]⟩ : ByteArray)) = some r := by rw [if_neg (show ¬ (false = true) by decide)] at H; exact H
  clear H
  have H := H1
  clear H1
  obtain rfl := Option.some.inj H
  go_enter Try.func56, Try.ntmps56
  go_wp2_with (first | ((with_reducible refine gate_callee (f := 80) rfl ?_); refine goesL_ (some 6) rfl rfl Try.func80 (by kernel_rfl) rfl #[.slice A0 l0.length c0] rfl zT4 ?_; (with_reducible refine (impl_memOk.calls k _ _ l0 false _ ?side1 ?side2 A2.out).mono ?_); (case side1 => exact zC4 HR0.out); (case side2 => exact HC0.out); rintro e w' ⟨rfl, ⟨nd, rfl⟩⟩; refine ⟨_, rfl, ?_⟩))
  go_ret
  exact ⟨zE4, zB4_0⟩
 subst c3
 have H1 : (impl_MemText.l0 k l0 (⟨#[]⟩ : ByteArray) 0) = some r := by rw [if_pos rfl] at H; exact H
 clear H
 have H := H1
 clear H1
 have H' := Aside0.mk H
 clear H
 go_enter Try.func56, Try.ntmps56
 go_wp2_with (first | ((with_reducible refine gate_callee (f := 80) rfl ?_); refine goesL_ (some 6) rfl rfl Try.func80 (by kernel_rfl) rfl #[.slice A0 l0.length c0] rfl zT4 ?_; (with_reducible refine (impl_memOk.calls k _ _ l0 true _ ?side1 ?side2 A2.out).mono ?_); (case side1 => exact zC4 HR0.out); (case side2 => exact HC0.out); rintro e w' ⟨rfl, ⟨nd, rfl⟩⟩; refine ⟨_, rfl, ?_⟩))
 go_loopg [3, 4] k (fun kq v3 v4 w' => ∃ (x3_1 : ByteArray) (x4_1 : Int), v3 = .string x3_1 ∧ v4 = .int .i64 x4_1 ∧ Aside0 (impl_MemText.l0 kq l0 x3_1 x4_1 = some r) ∧ Aside0 (kq ≤ k) ∧ Aside0 (Below w.heap.size w w'))
 case atStart => exact ⟨((⟨#[]⟩ : ByteArray)), (0), (by first | rfl | (simp; done) | (simp [*]; done)), (by first | rfl | (simp; done) | (simp [*]; done)), H', ⟨Nat.le_refl _⟩, ⟨zB4_0⟩⟩
 case round =>
  clear H'
  try clear p2
  try clear c3
  obtain ⟨x3_1, x4_1, rfl, rfl, HA, HK1, HB⟩ := hrel
  cases gk with
  | zero => exact absurd HA.out (by simp [impl_MemText.l0])
  | succ k1 =>
   have H := HA.out
   clear HA
   simp only [impl_MemText.l0] at H
   by_cases c4 : x4_1 < 24
   rotate_left
   ·rw [if_neg c4] at H
    have c4b0 : decide (x4_1 < 24) = false := decide_eq_false c4
    clear c4
    obtain rfl := Option.some.inj H
    go_wp2
    go_ret
    exact ⟨zE4, zB4_0⟩
   rw [if_pos c4] at H
   have c4b0 : decide (x4_1 < 24) = true := decide_eq_true c4
   clear c4
   by_cases c5 : 0 ≤ x4_1
   rotate_left
   ·rw [if_neg c5] at H
    exact absurd H (by simp)
   rw [if_pos c5] at H
   have c5b0 := eq_true c5
   have c5b1 : decide (0 ≤ x4_1) = true := decide_eq_true c5
   clear c5
   by_cases c6 : x4_1 ≤ (wrap64 (x4_1 + 4))
   rotate_left
   ·rw [if_neg c6] at H
    exact absurd H (by simp)
   rw [if_pos c6] at H
   have c6b0 := eq_true c6
   have c6b1 : decide (x4_1 ≤ (wrap64 (x4_1 + 4))) = true := decide_eq_true c6
   by_cases c7 : (wrap64 (x4_1 + 4)) ≤ (l0.length : Int)
   rotate_left
   ·rw [if_neg c7] at H
    exact absurd H (by simp)
   rw [if_pos c7] at H
   have c7b0 := eq_true c7
   have c7b1 : decide ((wrap64 (x4_1 + 4)) ≤ (l0.length : Int)) = true := decide_eq_true c7
   replace H := Option.bind_eq_some_iff.mp H
   obtain ⟨t286, A80, H⟩ := H
   replace H : (if t286.size + 1 ≤ 9223372036854775807 then (if x3_1.size + (t286 ++ (⟨#[10]⟩ : ByteArray)).size ≤ 9223372036854775807 then (impl_MemText.l0 k1 l0 (x3_1 ++ (t286 ++ (⟨#[10]⟩ : ByteArray))) (wrap64 (x4_1 + 4))) else (none)) else (none)) = some r := H
   have A8 := Aside0.mk A80
   clear A80
   by_cases c9 : t286.size + 1 ≤ 9223372036854775807
   rotate_left
   ·rw [if_neg c9] at H
    exact absurd H (by simp)
   rw [if_pos c9] at H
   have c9b0 := eq_true c9
   have c9b1 : decide (t286.size + 1 ≤ 9223372036854775807) = true := decide_eq_true c9
   try have c9b2 : (9223372036854775807 < t286.size + 1) = False := eq_false (Nat.not_lt.2 c9)
   by_cases c10 : x3_1.size + (t286 ++ (⟨#[10]⟩ : ByteArray)).size ≤ 9223372036854775807
   rotate_left
   ·rw [if_neg c10] at H
    exact absurd H (by simp)
   rw [if_pos c10] at H
   have c10b0 := eq_true c10
   have c10b1 : decide (x3_1.size + (t286 ++ (⟨#[10]⟩ : ByteArray)).size ≤ 9223372036854775807) = true := decide_eq_true c10
   try have c10b3 : (9223372036854775807 < x3_1.size + (t286.size + 1)) = False := eq_false (by have h_ := c10; simp only [ByteArray.size_append] at h_; exact Nat.not_lt.2 h_)
   try have c10b2 : (9223372036854775807 < x3_1.size + (t286 ++ (⟨#[10]⟩ : ByteArray)).size) = False := eq_false (Nat.not_lt.2 c10)
   have H' := Aside0.mk H
   clear H
   obtain ⟨i011, hi011, _, hsz11, _⟩ := info_parts info3
   obtain ⟨A11, hcut11, hA11, hC11⟩ := print_mid_of (P := Try.prog) (Value.int .i64) 0 22 3 .i64 .i64 Try.underlying22 hi011 hsz11 A0 c0 l0 x4_1 (wrap64 (x4_1 + 4)) (zA4) (by first | omega | exact zA4) (zA4) HC0.out
   have HR285 := Aside0.mk (Kd.C_of_reads (h1 := fun _ => rfl) (hA11 _ (Kd.reads_of_C HR0.out)))
   have HC285 := Aside0.mk hC11
   clear hA11 hC11 hi011 hsz11
   go_wp2_with (first | ((with_reducible refine gate_callee (f := 125) rfl ?_); refine goesL_ (some 18) rfl rfl Try.func125 (by kernel_rfl) rfl #[.slice A11 ((l0.take ((wrap64 (x4_1 + 4)) : Int).toNat).drop (x4_1 : Int).toNat).length (c0 - x4_1.toNat)] rfl (by (try simp only [List.map_toArray, List.map_cons, List.map_nil]); first | done | (rw [show ((l0.take ((wrap64 (x4_1 + 4)) : Int).toNat).drop (x4_1 : Int).toNat).length = ((wrap64 (x4_1 + 4)).toNat - x4_1.toNat) from (by rw [List.length_drop, List.length_take]; have h_ : ((wrap64 (x4_1 + 4)) : Int) ≤ (l0.length : Int) := zA4; omega)] <;> rfl) | rfl | (simp only [List.length_drop, List.length_take]; rfl)) ?_; (with_reducible refine (impl_spaced.calls k1 _ _ ((l0.take ((wrap64 (x4_1 + 4)) : Int).toNat).drop (x4_1 : Int).toNat) t286 _ ?side1 ?side2 A8.out).mono ?_); (case side1 => exact zC4 (Kd.C_below HR285.out HB.out)); (case side2 => exact HC285.out); rintro e w12 ⟨rfl, hb⟩; refine ⟨_, rfl, ?_⟩; have n0_ := Aside0.mk (below_step (zB4_0) hb); clear HB; have HB := n0_; clear n0_; (try clear hb); (try clear hb2); (try clear hk); (try clear hi)))
   go_roundg k1
   case measure => have := HK1.out; omega
   case rel => exact ⟨(x3_1 ++ (t286 ++ (⟨#[10]⟩ : ByteArray))), (wrap64 (x4_1 + 4)), (by first | rfl | (simp; done) | (simp [*]; done)), (by first | rfl | (simp; done) | (simp [*]; done)), H', ⟨by have := HK1.out; omega⟩, ⟨zB4_0⟩⟩

/-! ### spec_l1Words: function 76 -/
def spec_l1Words.l0 : Nat → List Int → Int → Int → Option (Bool)
 | 0, _, _, _ => none
 | k + 1, x0, x1, x5 => if x5 < (x0.length : Int) then (if 0 ≤ x5 then ((spec_l1In.f (rd x0 x5) 0 65535).bind fun t288 => (if t288 = true then (spec_l1Words.l0 k x0 x1 (wrap64 (x5 + 1))) else (some false))) else (none)) else (some ((x0.length : Int) == x1))
def spec_l1Words.f (k : Nat) (l0 : List Int) (a1 : Int) : Option (Bool) := spec_l1Words.l0 k l0 a1 0
theorem spec_l1Words.mono_l : ∀ k, (∀ y0 y1 y2, LeO (spec_l1Words.l0 k y0 y1 y2) (spec_l1Words.l0 (k + 1) y0 y1 y2))
 | 0 => fun _ _ _ r h => by simp [spec_l1Words.l0] at h
 | k + 1 => by
  have ih0 := spec_l1Words.mono_l k
  ·intro y0 y1 y2
   unfold spec_l1Words.l0
   repeat' first
   | (with_reducible exact ih0 _ _ _)
   | (with_reducible exact LeO.refl _)
   | (with_reducible exact LeO.none _)
   | (with_reducible refine LeO.ite ?_ ?_)
   | (with_reducible refine LeO.bind ?_ (fun _ => ?_))
   | exact ih0 _ _ _
   | exact LeO.none _
   | refine LeO.ite ?_ ?_
   | refine LeO.bind ?_ (fun _ => ?_)
theorem spec_l1Words.mono : ∀ a0 a1 k, LeO (spec_l1Words.f k a0 a1) (spec_l1Words.f (k + 1) a0 a1) := by
 intro a0 a1 k
 have ih0 := spec_l1Words.mono_l k
 unfold spec_l1Words.f
 repeat' first
   | (with_reducible exact ih0 _ _ _)
   | (with_reducible exact LeO.refl _)
   | (with_reducible exact LeO.none _)
   | (with_reducible refine LeO.ite ?_ ?_)
   | (with_reducible refine LeO.bind ?_ (fun _ => ?_))
   | exact ih0 _ _ _
   | exact LeO.none _
   | refine LeO.ite ?_ ?_
   | refine LeO.bind ?_ (fun _ => ?_)
set_option maxHeartbeats 8000000 in
set_option maxRecDepth 100000 in
theorem spec_l1Words.calls (k : Nat) (A0 : Option Addr) (c0 : Nat) (l0 : List Int) (a1 : Int) (r : Bool) (w : World) (hr0 : Kd.C (Kd.int .i64) w A0 l0.length l0) (hc0 : l0.length ≤ c0) (h : spec_l1Words.f k l0 a1 = some r) :
  Calls Try.prog 76 #[.slice A0 l0.length c0, .int .i64 a1] w fun e w' => e = .returned (.bool r) ∧ Drawn0 w w' := by
 have HR0 := Aside0.mk hr0
 have HC0 := Aside0.mk hc0
 clear hr0 hc0
 have H : (spec_l1Words.l0 k l0 a1 0) = some r := h
 clear h
 have H' := Aside0.mk H
 clear H
 go_enter Try.func76, Try.ntmps76
 go_wp2
 go_loopg [5] k (fun kq v5 w' => ∃ (x5_1 : Int), v5 = .int .i64 x5_1 ∧ Aside0 (spec_l1Words.l0 kq l0 a1 x5_1 = some r) ∧ Aside0 (kq ≤ k) ∧ Drawn0 w w')
 case atStart => exact ⟨(0), (by first | rfl | (simp; done) | (simp [*]; done)), H', ⟨Nat.le_refl _⟩, by repeat (first | exact Drawn0.refl _ | apply Drawn0.step)⟩
 case round =>
  clear H'
  try clear p2
  obtain ⟨x5_1, rfl, HA, HK1, ⟨m1, rfl⟩⟩ := hrel
  cases gk with
  | zero => exact absurd HA.out (by simp [spec_l1Words.l0])
  | succ k1 =>
   have H := HA.out
   clear HA
   simp only [spec_l1Words.l0] at H
   by_cases c3 : x5_1 < (l0.length : Int)
   rotate_left
   ·rw [if_neg c3] at H
    have c3b0 : decide (x5_1 < (l0.length : Int)) = false := decide_eq_false c3
    clear c3
    obtain rfl := Option.some.inj H
    go_wp2
    go_ret
    exact ⟨by first | rfl | (simp; done) | (simp [*]; done), by repeat (first | exact Drawn0.refl _ | apply Drawn0.step)⟩
   rw [if_pos c3] at H
   have c3b0 : decide (x5_1 < (l0.length : Int)) = true := decide_eq_true c3
   clear c3
   by_cases c4 : 0 ≤ x5_1
   rotate_left
   ·rw [if_neg c4] at H
    exact absurd H (by simp)
   rw [if_pos c4] at H
   have c4b0 : decide (0 ≤ x5_1) = true := decide_eq_true c4
   clear c4
   replace H := Option.bind_eq_some_iff.mp H
   obtain ⟨t288, A50, H⟩ := H
   replace H : (if t288 = true then (spec_l1Words.l0 k1 l0 a1 (wrap64 (x5_1 + 1))) else (some false)) = some r := H
   have A5 := Aside0.mk A50
   clear A50
   by_cases c6 : t288 = true
   rotate_left
   ·replace c6 := Bool.eq_false_iff.mpr c6
    subst c6
    have H1 : (some false) = some r := by rw [if_neg (show ¬ (false = true) by decide)] at H; exact H
    clear H
    have H := H1
    clear H1
    obtain rfl := Option.some.inj H
    have p287 : 0 ≤ (x5_1 : Int) := zA4
    have q287 : x5_1 < (l0.length : Int) := zA4
    obtain ⟨ad287, e287, hx287_0⟩ := Kd.at_int HR0.out x5_1 p287 q287
    cases e287
    replace p287 := eq_true p287
    replace q287 := eq_true q287
    go_wp2_with (first | ((with_reducible refine gate_callee (f := 77) rfl ?_); refine goesL_ (some 16) rfl rfl Try.func77 (by kernel_rfl) rfl #[.int .i64 (rd l0 x5_1), .int .i64 0, .int .i64 65535] rfl zT4 ?_; (with_reducible refine (spec_l1In.calls (rd l0 x5_1) 0 65535 false _ A5.out).mono ?_); rintro e w' ⟨rfl, ⟨nd, rfl⟩⟩; refine ⟨_, rfl, ?_⟩))
    go_ret
    exact ⟨by first | rfl | (simp; done) | (simp [*]; done), by repeat (first | exact Drawn0.refl _ | apply Drawn0.step)⟩
   subst c6
   have H1 : (spec_l1Words.l0 k1 l0 a1 (wrap64 (x5_1 + 1))) = some r := by rw [if_pos rfl] at H; exact H
   clear H
   have H := H1
   clear H1
   have H' := Aside0.mk H
   clear H
   have p287 : 0 ≤ (x5_1 : Int) := zA4
   have q287 : x5_1 < (l0.length : Int) := zA4
   obtain ⟨ad287, e287, hx287_0⟩ := Kd.at_int HR0.out x5_1 p287 q287
   cases e287
   replace p287 := eq_true p287
   replace q287 := eq_true q287
   go_wp2_with (first | ((with_reducible refine gate_callee (f := 77) rfl ?_); refine goesL_ (some 16) rfl rfl Try.func77 (by kernel_rfl) rfl #[.int .i64 (rd l0 x5_1), .int .i64 0, .int .i64 65535] rfl zT4 ?_; (with_reducible refine (spec_l1In.calls (rd l0 x5_1) 0 65535 true _ A5.out).mono ?_); rintro e w' ⟨rfl, ⟨nd, rfl⟩⟩; refine ⟨_, rfl, ?_⟩))
   go_roundg k1
   case measure => have := HK1.out; omega
   case rel => exact ⟨(wrap64 (x5_1 + 1)), (by first | rfl | (simp; done) | (simp [*]; done)), H', ⟨by have := HK1.out; omega⟩, by repeat (first | exact Drawn0.refl _ | apply Drawn0.step)⟩

end Go.Proofs.Ytnekcbajadnldaa.PFnMemTexts
