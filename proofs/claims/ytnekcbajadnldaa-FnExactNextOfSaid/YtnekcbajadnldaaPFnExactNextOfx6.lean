-- made by wip/tools/myprint.py out of the seat's translation
import Derived.Test.YtnekcbajadnldaaPFnExactNextOfx0
import Derived.Test.YtnekcbajadnldaaPFnExactNextOfx3
import Derived.Test.YtnekcbajadnldaaPFnExactNextOfx5
namespace Go.Proofs.Ytnekcbajadnldaa.PFnExactNextOf
open Go.RowKit Go.Proofs.YtnekcbajadnldaaW.PrintWords Go.Proofs.YtnekcbajadnldaaW.PrintLast Go.Proofs.YtnekcbajadnldaaW.PrintMore
attribute [local go_sem] max2_int min2_int max_two min_two max_three min_three max_four min_four   -- for this text's walks alone
set_option linter.unusedVariables false
set_option linter.unusedSimpArgs false
theorem zA6 {p : Prop} [Decidable p] (h : decide p = true := by first | (with_reducible assumption) | assumption) : p := of_decide_eq_true h

/-! ### laws_heldIntS: function 20 -/
def laws_heldIntS.l0 : Nat → List Int → Int → Int → Option (Int)
 | 0, _, _, _ => none
 | k + 1, x0, x1, x5 => if x5 < (x0.length : Int) then (if 0 ≤ x5 then (if (rd x0 x5) = x1 then (laws_heldIntS.l0 k x0 (wrap64 (x1 + 1)) (wrap64 (x5 + 1))) else (some (-1))) else (none)) else (some x1)
def laws_heldIntS.f (k : Nat) (l0 : List Int) (a1 : Int) : Option (Int) := laws_heldIntS.l0 k l0 a1 0
theorem laws_heldIntS.mono_l : ∀ k, (∀ y0 y1 y2, LeO (laws_heldIntS.l0 k y0 y1 y2) (laws_heldIntS.l0 (k + 1) y0 y1 y2))
 | 0 => fun _ _ _ r h => by simp [laws_heldIntS.l0] at h
 | k + 1 => by
  have ih0 := laws_heldIntS.mono_l k
  ·intro y0 y1 y2
   unfold laws_heldIntS.l0
   repeat' first
   | (with_reducible exact ih0 _ _ _)
   | (with_reducible exact LeO.refl _)
   | (with_reducible exact LeO.none _)
   | (with_reducible refine LeO.ite ?_ ?_)
   | (with_reducible refine LeO.bind ?_ (fun _ => ?_))
   | exact ih0 _ _ _
   | exact LeO.none _
   | refine LeO.ite ?_ ?_
   | refine LeO.bind ?_ (fun _ => ?_)
theorem laws_heldIntS.mono : ∀ a0 a1 k, LeO (laws_heldIntS.f k a0 a1) (laws_heldIntS.f (k + 1) a0 a1) := by
 intro a0 a1 k
 have ih0 := laws_heldIntS.mono_l k
 unfold laws_heldIntS.f
 repeat' first
   | (with_reducible exact ih0 _ _ _)
   | (with_reducible exact LeO.refl _)
   | (with_reducible exact LeO.none _)
   | (with_reducible refine LeO.ite ?_ ?_)
   | (with_reducible refine LeO.bind ?_ (fun _ => ?_))
   | exact ih0 _ _ _
   | exact LeO.none _
   | refine LeO.ite ?_ ?_
   | refine LeO.bind ?_ (fun _ => ?_)
set_option maxHeartbeats 8000000 in
set_option maxRecDepth 100000 in
theorem laws_heldIntS.calls (k : Nat) (A0 : Option Addr) (c0 : Nat) (l0 : List Int) (a1 : Int) (r : Int) (w : World) (hr0 : Kd.C (Kd.int .i64) w A0 l0.length l0) (hc0 : l0.length ≤ c0) (h : laws_heldIntS.f k l0 a1 = some r) :
  Calls Try.prog 20 #[.slice A0 l0.length c0, .int .i64 a1] w fun e w' => e = .returned (.int .i64 r) ∧ Drawn0 w w' := by
 have HR0 := Aside0.mk hr0
 have HC0 := Aside0.mk hc0
 clear hr0 hc0
 have H : (laws_heldIntS.l0 k l0 a1 0) = some r := h
 clear h
 have H' := Aside0.mk H
 clear H
 go_enter Try.func20, Try.ntmps20
 go_wp2
 go_loopg [1, 5] k (fun kq v1 v5 w' => ∃ (x1_1 : Int) (x5_1 : Int), v1 = .int .i64 x1_1 ∧ v5 = .int .i64 x5_1 ∧ Aside0 (laws_heldIntS.l0 kq l0 x1_1 x5_1 = some r) ∧ Aside0 (kq ≤ k) ∧ Drawn0 w w')
 case atStart => exact ⟨(a1), (0), (by first | rfl | (simp; done) | (simp [*]; done)), (by first | rfl | (simp; done) | (simp [*]; done)), H', ⟨Nat.le_refl _⟩, by repeat (first | exact Drawn0.refl _ | apply Drawn0.step)⟩
 case round =>
  clear H'
  try clear c2
  try clear p2
  obtain ⟨x1_1, x5_1, rfl, rfl, HA, HK1, ⟨m1, rfl⟩⟩ := hrel
  cases gk with
  | zero => exact absurd HA.out (by simp [laws_heldIntS.l0])
  | succ k1 =>
   have H := HA.out
   clear HA
   simp only [laws_heldIntS.l0] at H
   by_cases c3 : x5_1 < (l0.length : Int)
   rotate_left
   ·rw [if_neg c3] at H
    have c3b0 : decide (x5_1 < (l0.length : Int)) = false := decide_eq_false c3
    clear c3
    obtain rfl := Option.some.inj H
    go_wp2
    go_ret
    exact ⟨by first | rfl | (simp; done) | (simp [*]; done), by repeat (first | exact Drawn0.refl _ | apply Drawn0.step)⟩
   rw [if_pos c3] at H
   have c3b0 : decide (x5_1 < (l0.length : Int)) = true := decide_eq_true c3
   clear c3
   by_cases c4 : 0 ≤ x5_1
   rotate_left
   ·rw [if_neg c4] at H
    exact absurd H (by simp)
   rw [if_pos c4] at H
   have c4b0 : decide (0 ≤ x5_1) = true := decide_eq_true c4
   clear c4
   by_cases c5 : (rd l0 x5_1) = x1_1
   rotate_left
   ·rw [if_neg c5] at H
    have c5b0 : ((rd l0 x5_1) == x1_1) = false := beq_eq_false_iff_ne.mpr c5
    have c5b1 : ((rd l0 x5_1) != x1_1) = true := bne_iff_ne.mpr c5
    obtain rfl := Option.some.inj H
    have p200 : 0 ≤ (x5_1 : Int) := zA6
    have q200 : x5_1 < (l0.length : Int) := zA6
    obtain ⟨ad200, e200, hx200_0⟩ := Kd.at_int HR0.out x5_1 p200 q200
    cases e200
    replace p200 := eq_true p200
    replace q200 := eq_true q200
    go_wp2
    go_ret
    exact ⟨by first | rfl | (simp; done) | (simp [*]; done), by repeat (first | exact Drawn0.refl _ | apply Drawn0.step)⟩
   rw [if_pos c5] at H
   have c5b0 : ((rd l0 x5_1) == x1_1) = true := beq_iff_eq.mpr c5
   have c5b1 : ((rd l0 x5_1) != x1_1) = false := bne_eq_false_iff_eq.mpr c5
   clear c5
   have H' := Aside0.mk H
   clear H
   have p200 : 0 ≤ (x5_1 : Int) := zA6
   have q200 : x5_1 < (l0.length : Int) := zA6
   obtain ⟨ad200, e200, hx200_0⟩ := Kd.at_int HR0.out x5_1 p200 q200
   cases e200
   replace p200 := eq_true p200
   replace q200 := eq_true q200
   go_wp2
   go_roundg k1
   case measure => have := HK1.out; omega
   case rel => exact ⟨(wrap64 (x1_1 + 1)), (wrap64 (x5_1 + 1)), (by first | rfl | (simp; done) | (simp [*]; done)), (by first | rfl | (simp; done) | (simp [*]; done)), H', ⟨by have := HK1.out; omega⟩, by repeat (first | exact Drawn0.refl _ | apply Drawn0.step)⟩

/-! ### laws_FnExactNextOf: function 3 -/
def KT (w : World) (L : List Nat) (k : Nat) : Prop := ∃ q, q ∈ L ∧ ∃ cells, w.heap[k]? = some (.cells cells q (0, 0))
theorem KT_ne {w : World} {L1 L2 : List Nat} {k : Nat} (hd : ∀ q, q ∈ L1 → ¬ q ∈ L2) (h1 : KT w L1 k) (h2 : KT w L2 k) : False := by
 obtain ⟨q1, m1, c1, e1⟩ := h1; obtain ⟨q2, m2, c2, e2⟩ := h2
 rw [e1] at e2; simp at e2; obtain ⟨_, rfl⟩ := e2; exact hd _ m1 m2
theorem own_any {A : Option Addr} {n n' c c' : Nat} : (Value.slice A n c).ownBlock = (Value.slice A n' c').ownBlock := by cases A <;> rfl
theorem iv_R {α : Type} {d : Kd α} {e b : Nat} {ok : Nat → Prop} {W w' : World} {v : Value} {xs : List α} (h : d.R e w' W.heap.size ok v xs) (hb : b ≤ W.heap.size) : d.R e w' b (fun k => W.heap.size ≤ k ∧ k < w'.heap.size ∧ KT w' (e :: d.E) k ∧ ok k) v xs := Kd.R_lower (Kd.R_mono (Kd.R_bound h) (fun _ hk => ⟨hk.2.1, hk.2.2.1, hk.2.2.2, hk.1⟩)) hb
theorem iv_O {α : Type} {d : Kd α} {e b : Nat} {ok : Nat → Prop} {W w' : World} {v : Value} {xs : List α} (hE : d.E = []) (h : d.R e w' W.heap.size ok v xs) (hb : b ≤ W.heap.size) : d.R e w' b (fun k => W.heap.size ≤ k ∧ k < w'.heap.size ∧ KT w' (e :: d.E) k ∧ some k = v.ownBlock) v xs := Kd.R_lower (Kd.R_mono (Kd.R_bound (Kd.R_tight2 hE h)) (fun _ hk => ⟨hk.2.1, hk.2.2.1, hk.2.2.2, hk.1.1⟩)) hb
theorem iv_S {α : Type} {d : Kd α} {e b : Nat} {ok : Nat → Prop} {W w' : World} {v : Value} {xs : List α} (h : Kd.S d e w' W.heap.size ok v xs) (hb : b ≤ W.heap.size) : Kd.S d e w' b (fun k => W.heap.size ≤ k ∧ k < w'.heap.size ∧ KT w' (e :: d.E) k ∧ ok k) v xs := Kd.S_lower (Kd.S_mono (Kd.S_bound h) (fun _ hk => ⟨hk.2.1, hk.2.2.1, hk.2.2.2, hk.1⟩)) hb
theorem iv_Q {α : Type} {d : Kd α} {e b : Nat} {ok : Nat → Prop} {W w' : World} {v : Value} {xs : List α} (h : d.Q e w' W.heap.size ok v xs) (hb : b ≤ W.heap.size) : d.Q e w' b (fun k => W.heap.size ≤ k ∧ k < w'.heap.size ∧ KT w' (e :: d.E) k ∧ ok k) v xs := Kd.Q_lower (Kd.Q_mono (Kd.Q_bound h) (fun _ hk => ⟨hk.2.1, hk.2.2.1, hk.2.2.2, hk.1⟩)) hb
def laws_FnExactNextOf.f (k : Nat) (l0 : List Int) (a1 : Int) : Option (Bool) := if (l0.length : Int) > 1048576 then (some true) else ((laws_toIntS.f k l0).bind fun t201 => ((spec_NextOf.f k t201 a1).bind fun t204 => ((laws_toIntS.f k l0).bind fun t207 => ((impl_NextOf.f k t207 a1).bind fun t210 => ((laws_eqIntS.f k t210 t204).bind fun t213 => (if t213 = true then ((laws_toIntS.f k l0).bind fun t214 => ((laws_eqIntS.f k t207 t214).bind fun t217 => (if t217 = true then ((laws_markIntS.f k t207 1).bind fun bt218 => (if bt218.1 < 0 then (some false) else ((laws_eqIntS.f k t210 t204).bind fun t220 => (if t220 = true then ((laws_markIntS.f k t210 1).bind fun bt221 => ((laws_heldIntS.f k bt221.2 1).bind fun t223 => (if t223 < 0 then (some false) else (if t223 = bt221.1 then ((laws_toIntS.f k l0).bind fun t224 => ((impl_NextOf.f k t224 a1).bind fun t227 => ((laws_eqIntS.f k t227 t204).bind fun t230 => (if t230 = true then ((laws_heldIntS.f k bt221.2 1).bind fun t231 => (if t231 < 0 then (some false) else (if t231 = bt221.1 then (some true) else (some false)))) else (some false))))) else (some false))))) else (some false))))) else (some false)))) else (some false)))))))
theorem laws_FnExactNextOf.mono : ∀ a0 a1 k, LeO (laws_FnExactNextOf.f k a0 a1) (laws_FnExactNextOf.f (k + 1) a0 a1) := by
 intro a0 a1 k
 unfold laws_FnExactNextOf.f
 repeat' first
   | (with_reducible exact impl_NextOf.mono _ _ _)
   | (with_reducible exact laws_eqIntS.mono _ _ _)
   | (with_reducible exact laws_heldIntS.mono _ _ _)
   | (with_reducible exact laws_markIntS.mono _ _ _)
   | (with_reducible exact laws_toIntS.mono _ _)
   | (with_reducible exact spec_NextOf.mono _ _ _)
   | (with_reducible exact LeO.refl _)
   | (with_reducible exact LeO.none _)
   | (with_reducible refine LeO.ite ?_ ?_)
   | (with_reducible refine LeO.bind ?_ (fun _ => ?_))
   | exact impl_NextOf.mono _ _ _
   | exact laws_eqIntS.mono _ _ _
   | exact laws_heldIntS.mono _ _ _
   | exact laws_markIntS.mono _ _ _
   | exact laws_toIntS.mono _ _
   | exact spec_NextOf.mono _ _ _
   | exact LeO.none _
   | refine LeO.ite ?_ ?_
   | refine LeO.bind ?_ (fun _ => ?_)
set_option maxHeartbeats 8000000 in
set_option maxRecDepth 100000 in
theorem laws_FnExactNextOf.calls (k : Nat) (A0 : Option Addr) (c0 : Nat) (l0 : List Int) (a1 : Int) (r : Bool) (w : World) (hr0 : Kd.C (Kd.int .i64) w A0 l0.length l0) (hc0 : l0.length ≤ c0) (hr_ : r = true) (h : laws_FnExactNextOf.f k l0 a1 = some r) :
  Calls Try.prog 3 #[.slice A0 l0.length c0, .int .i64 a1] w fun e w' => e = .returned (.bool r) ∧ Below w.heap.size w w' := by
 subst hr_
 have HR0 := Aside0.mk hr0
 have HC0 := Aside0.mk hc0
 clear hr0 hc0
 unfold laws_FnExactNextOf.f at h
 have H := h
 clear h
 by_cases ci1 : (l0.length : Int) > 1048576
 ·rw [if_pos ci1] at H
  have ci1b0 : decide (1048576 < (l0.length : Int)) = true := decide_eq_true ci1
  have ci1b1 : decide (1048576 < l0.length) = true := decide_eq_true (by omega)
  clear ci1
  have HB := Aside0.mk (Below.refl w.heap.size w)
  have HZ := Aside0.mk (Nat.le_refl w.heap.size)
  clear H
  go_enter Try.func3, Try.ntmps3
  go_wp2
  go_ret
  exact ⟨rfl, HB.out⟩
 rw [if_neg ci1] at H
 have ci1b0 : decide (1048576 < (l0.length : Int)) = false := decide_eq_false ci1
 have ci1b1 : decide (1048576 < l0.length) = false := decide_eq_false (by omega)
 clear ci1
 obtain ⟨t201, hA_, H⟩ := Option.bind_eq_some_iff.mp H
 try dsimp only at H
 have AE0 := Aside0.mk hA_
 clear hA_
 obtain ⟨t204, hA_, H⟩ := Option.bind_eq_some_iff.mp H
 try dsimp only at H
 have AE1 := Aside0.mk hA_
 clear hA_
 obtain ⟨t207, hA_, H⟩ := Option.bind_eq_some_iff.mp H
 try dsimp only at H
 have AE2 := Aside0.mk hA_
 clear hA_
 obtain ⟨t210, hA_, H⟩ := Option.bind_eq_some_iff.mp H
 try dsimp only at H
 have AE3 := Aside0.mk hA_
 clear hA_
 obtain ⟨t213, hA_, H⟩ := Option.bind_eq_some_iff.mp H
 try dsimp only at H
 have AE4 := Aside0.mk hA_
 clear hA_
 by_cases ci2 : t213 = true
 rotate_left
 ·rw [if_neg ci2] at H
  exact absurd H (by simp)
 rw [if_pos ci2] at H
 subst ci2
 obtain ⟨t214, hA_, H⟩ := Option.bind_eq_some_iff.mp H
 try dsimp only at H
 have AE5 := Aside0.mk hA_
 clear hA_
 obtain ⟨t217, hA_, H⟩ := Option.bind_eq_some_iff.mp H
 try dsimp only at H
 have AE6 := Aside0.mk hA_
 clear hA_
 by_cases ci3 : t217 = true
 rotate_left
 ·rw [if_neg ci3] at H
  exact absurd H (by simp)
 rw [if_pos ci3] at H
 subst ci3
 obtain ⟨⟨t218, t219⟩, hA_, H⟩ := Option.bind_eq_some_iff.mp H
 try dsimp only at H
 have AE7 := Aside0.mk hA_
 clear hA_
 by_cases ci4 : t218 < 0
 ·rw [if_pos ci4] at H
  exact absurd H (by simp)
 rw [if_neg ci4] at H
 have ci4b0 : decide (t218 < 0) = false := decide_eq_false ci4
 clear ci4
 obtain ⟨t220, hA_, H⟩ := Option.bind_eq_some_iff.mp H
 try dsimp only at H
 have AE8 := Aside0.mk hA_
 clear hA_
 by_cases ci5 : t220 = true
 rotate_left
 ·rw [if_neg ci5] at H
  exact absurd H (by simp)
 rw [if_pos ci5] at H
 subst ci5
 obtain ⟨⟨t221, t222⟩, hA_, H⟩ := Option.bind_eq_some_iff.mp H
 try dsimp only at H
 have AE9 := Aside0.mk hA_
 clear hA_
 obtain ⟨t223, hA_, H⟩ := Option.bind_eq_some_iff.mp H
 try dsimp only at H
 have AE10 := Aside0.mk hA_
 clear hA_
 by_cases ci6 : t223 < 0
 ·rw [if_pos ci6] at H
  exact absurd H (by simp)
 rw [if_neg ci6] at H
 have ci6b0 : decide (t223 < 0) = false := decide_eq_false ci6
 clear ci6
 by_cases ci7 : t223 = t221
 rotate_left
 ·rw [if_neg ci7] at H
  exact absurd H (by simp)
 rw [if_pos ci7] at H
 have ci7b0 : (t223 == t221) = true := beq_iff_eq.mpr ci7
 have ci7b1 : (t223 != t221) = false := bne_eq_false_iff_eq.mpr ci7
 clear ci7
 obtain ⟨t224, hA_, H⟩ := Option.bind_eq_some_iff.mp H
 try dsimp only at H
 have AE11 := Aside0.mk hA_
 clear hA_
 obtain ⟨t227, hA_, H⟩ := Option.bind_eq_some_iff.mp H
 try dsimp only at H
 have AE12 := Aside0.mk hA_
 clear hA_
 obtain ⟨t230, hA_, H⟩ := Option.bind_eq_some_iff.mp H
 try dsimp only at H
 have AE13 := Aside0.mk hA_
 clear hA_
 by_cases ci8 : t230 = true
 rotate_left
 ·rw [if_neg ci8] at H
  exact absurd H (by simp)
 rw [if_pos ci8] at H
 subst ci8
 obtain ⟨t231, hA_, H⟩ := Option.bind_eq_some_iff.mp H
 try dsimp only at H
 have AE14 := Aside0.mk hA_
 clear hA_
 by_cases ci9 : t231 < 0
 ·rw [if_pos ci9] at H
  exact absurd H (by simp)
 rw [if_neg ci9] at H
 have ci9b0 : decide (t231 < 0) = false := decide_eq_false ci9
 clear ci9
 by_cases ci10 : t231 = t221
 rotate_left
 ·rw [if_neg ci10] at H
  exact absurd H (by simp)
 rw [if_pos ci10] at H
 have ci10b0 : (t231 == t221) = true := beq_iff_eq.mpr ci10
 have ci10b1 : (t231 != t221) = false := bne_eq_false_iff_eq.mpr ci10
 clear ci10
 have HB := Aside0.mk (Below.refl w.heap.size w)
 have HZ := Aside0.mk (Nat.le_refl w.heap.size)
 clear H
 go_enter Try.func3, Try.ntmps3
 go_wp2_with (first | (go_at_call 16; (refine (laws_toIntS.calls k _ _ l0 t201 _ ((Kd.C_below HR0.out HB.out)) (HC0.out) AE0.out).mono ?_); rintro e wx1 ⟨v202, rfl, ho0, hb⟩; obtain ⟨AHO203, cHO203, e_⟩ := Kd.R_slice ho0; subst e_; have HO203 := Aside0.mk (iv_O rfl ho0 HB.out.size); clear ho0; have n_ := Aside0.mk (show _ ∧ w.heap.size ≤ wx1.heap.size from ⟨HZ.out, hb.size⟩); clear HZ; have HZ := n_; clear n_; have n_ := Aside0.mk (below_step HB.out hb); clear HB; have HB := n_; clear n_ hb))
 go_wp2_with (first | (go_at_call 15; (refine (spec_NextOf.calls k _ _ t201 a1 t204 _ ((Kd.R_reads' HO203.out).2.2) ((Kd.R_reads' HO203.out).2.1) AE1.out).mono ?_); rintro e wx2 ⟨v205, rfl, ho0, hb⟩; obtain ⟨AHO206, cHO206, e_⟩ := Kd.R_slice ho0; subst e_; have n0_ := Aside0.mk (Kd.R_below HO203.out hb); clear HO203; have HO203 := n0_; clear n0_; have HO206 := Aside0.mk (iv_O rfl ho0 HB.out.size); clear ho0; have n_ := Aside0.mk (show _ ∧ wx1.heap.size ≤ wx2.heap.size from ⟨HZ.out, hb.size⟩); clear HZ; have HZ := n_; clear n_; have n_ := Aside0.mk (below_step HB.out hb); clear HB; have HB := n_; clear n_ hb))
 go_wp2_with (first | (go_at_call 16; (refine (laws_toIntS.calls k _ _ l0 t207 _ ((Kd.C_below HR0.out HB.out)) (HC0.out) AE2.out).mono ?_); rintro e wx3 ⟨v208, rfl, ho0, hb⟩; obtain ⟨AHO209, cHO209, e_⟩ := Kd.R_slice ho0; subst e_; have n0_ := Aside0.mk (Kd.R_below HO203.out hb); have n1_ := Aside0.mk (Kd.R_below HO206.out hb); clear HO203; clear HO206; have HO203 := n0_; have HO206 := n1_; clear n0_; clear n1_; have HO209 := Aside0.mk (iv_O rfl ho0 HB.out.size); clear ho0; have n_ := Aside0.mk (show _ ∧ wx2.heap.size ≤ wx3.heap.size from ⟨HZ.out, hb.size⟩); clear HZ; have HZ := n_; clear n_; have n_ := Aside0.mk (below_step HB.out hb); clear HB; have HB := n_; clear n_ hb))
 go_wp2_with (first | (go_at_call 17; (refine (impl_NextOf.calls k _ _ t207 a1 t210 _ ((Kd.R_reads' HO209.out).2.2) ((Kd.R_reads' HO209.out).2.1) AE3.out).mono ?_); rintro e wx4 ⟨v211, rfl, ho0, hb⟩; obtain ⟨AHO212, cHO212, e_⟩ := Kd.R_slice ho0; subst e_; have n0_ := Aside0.mk (Kd.R_below HO203.out hb); have n1_ := Aside0.mk (Kd.R_below HO206.out hb); have n2_ := Aside0.mk (Kd.R_below HO209.out hb); clear HO203; clear HO206; clear HO209; have HO203 := n0_; have HO206 := n1_; have HO209 := n2_; clear n0_; clear n1_; clear n2_; have HO212 := Aside0.mk (iv_O rfl ho0 HB.out.size); clear ho0; have n_ := Aside0.mk (show _ ∧ wx3.heap.size ≤ wx4.heap.size from ⟨HZ.out, hb.size⟩); clear HZ; have HZ := n_; clear n_; have n_ := Aside0.mk (below_step HB.out hb); clear HB; have HB := n_; clear n_ hb))
 go_wp2_with (first | (go_at_call 18; (refine (laws_eqIntS.calls k _ _ t210 _ _ t204 _ _ ((Kd.R_reads' HO212.out).2.2) ((Kd.R_reads' HO212.out).2.1) ((Kd.R_reads' HO206.out).2.2) ((Kd.R_reads' HO206.out).2.1) AE4.out).mono ?_); rintro e wx5 ⟨rfl, hd_⟩; have hb := hd_.below; clear hd_; have n0_ := Aside0.mk (Kd.R_below HO203.out hb); have n1_ := Aside0.mk (Kd.R_below HO206.out hb); have n2_ := Aside0.mk (Kd.R_below HO209.out hb); have n3_ := Aside0.mk (Kd.R_below HO212.out hb); clear HO203; clear HO206; clear HO209; clear HO212; have HO203 := n0_; have HO206 := n1_; have HO209 := n2_; have HO212 := n3_; clear n0_; clear n1_; clear n2_; clear n3_; have n_ := Aside0.mk (show _ ∧ wx4.heap.size ≤ wx5.heap.size from ⟨HZ.out, hb.size⟩); clear HZ; have HZ := n_; clear n_; have n_ := Aside0.mk (below_step HB.out hb); clear HB; have HB := n_; clear n_ hb))
 go_wp2_with (first | (go_at_call 16; (refine (laws_toIntS.calls k _ _ l0 t214 _ ((Kd.C_below HR0.out HB.out)) (HC0.out) AE5.out).mono ?_); rintro e wx6 ⟨v215, rfl, ho0, hb⟩; obtain ⟨AHO216, cHO216, e_⟩ := Kd.R_slice ho0; subst e_; have n0_ := Aside0.mk (Kd.R_below HO203.out hb); have n1_ := Aside0.mk (Kd.R_below HO206.out hb); have n2_ := Aside0.mk (Kd.R_below HO209.out hb); have n3_ := Aside0.mk (Kd.R_below HO212.out hb); clear HO203; clear HO206; clear HO209; clear HO212; have HO203 := n0_; have HO206 := n1_; have HO209 := n2_; have HO212 := n3_; clear n0_; clear n1_; clear n2_; clear n3_; have HO216 := Aside0.mk (iv_O rfl ho0 HB.out.size); clear ho0; have n_ := Aside0.mk (show _ ∧ wx5.heap.size ≤ wx6.heap.size from ⟨HZ.out, hb.size⟩); clear HZ; have HZ := n_; clear n_; have n_ := Aside0.mk (below_step HB.out hb); clear HB; have HB := n_; clear n_ hb))
 go_wp2_with (first | (go_at_call 18; (refine (laws_eqIntS.calls k _ _ t207 _ _ t214 _ _ ((Kd.R_reads' HO209.out).2.2) ((Kd.R_reads' HO209.out).2.1) ((Kd.R_reads' HO216.out).2.2) ((Kd.R_reads' HO216.out).2.1) AE6.out).mono ?_); rintro e wx7 ⟨rfl, hd_⟩; have hb := hd_.below; clear hd_; have n0_ := Aside0.mk (Kd.R_below HO203.out hb); have n1_ := Aside0.mk (Kd.R_below HO206.out hb); have n2_ := Aside0.mk (Kd.R_below HO209.out hb); have n3_ := Aside0.mk (Kd.R_below HO212.out hb); have n4_ := Aside0.mk (Kd.R_below HO216.out hb); clear HO203; clear HO206; clear HO209; clear HO212; clear HO216; have HO203 := n0_; have HO206 := n1_; have HO209 := n2_; have HO212 := n3_; have HO216 := n4_; clear n0_; clear n1_; clear n2_; clear n3_; clear n4_; have n_ := Aside0.mk (show _ ∧ wx6.heap.size ≤ wx7.heap.size from ⟨HZ.out, hb.size⟩); clear HZ; have HZ := n_; clear n_; have n_ := Aside0.mk (below_step HB.out hb); clear HB; have HB := n_; clear n_ hb))
 go_wp2_with (first | (go_at_call 19; (refine (laws_markIntS.calls k _ (.slice AHO209 t207.length cHO209) t207 1 t218 t219 w _ HB.out (HO209.out) AE7.out).mono ?_); rintro e wx8 ⟨rfl, hy0, hb, hkp⟩; have n0_ := Aside0.mk (Kd.R_kept HO203.out hkp (fun k_ h1_ h2_ => (by have hz_ := HZ.out; have a_ := h1_.1; have b_ := h1_.2.1; have c_ := h2_.1; have d_ := h2_.2.1; clear h1_ h2_; omega))); have n1_ := Aside0.mk (Kd.R_kept HO206.out hkp (fun k_ h1_ h2_ => (by have hz_ := HZ.out; have a_ := h1_.1; have b_ := h1_.2.1; have c_ := h2_.1; have d_ := h2_.2.1; clear h1_ h2_; omega))); have n2_ := Aside0.mk (Kd.R_kept HO212.out hkp (fun k_ h1_ h2_ => (by have hz_ := HZ.out; have a_ := h1_.1; have b_ := h1_.2.1; have c_ := h2_.1; have d_ := h2_.2.1; clear h1_ h2_; omega))); have n3_ := Aside0.mk (Kd.R_kept HO216.out hkp (fun k_ h1_ h2_ => (by have hz_ := HZ.out; have a_ := h1_.1; have b_ := h1_.2.1; have c_ := h2_.1; have d_ := h2_.2.1; clear h1_ h2_; omega))); clear HO203; clear HO206; clear HO212; clear HO216; have HO203 := n0_; have HO206 := n1_; have HO212 := n2_; have HO216 := n3_; clear n0_; clear n1_; clear n2_; clear n3_; have n_ := Aside0.mk (Kd.R_reok rfl hy0 (fun k_ e_ => HO209.out.1 k_ e_)); have hl_ := (Kd.R_reads' n_.out).1; rw [hl_] at n_ ⊢; clear hl_ HO209; have HO209 := n_; clear n_; have n_ := Aside0.mk (show _ ∧ wx7.heap.size ≤ wx8.heap.size from ⟨HZ.out, hkp.1⟩); clear HZ; have HZ := n_; clear n_; have n_ := Aside0.mk hb; clear HB; have HB := n_; clear n_ hb hkp))
 go_wp2_with (first | (go_at_call 18; (refine (laws_eqIntS.calls k _ _ t210 _ _ t204 _ _ ((Kd.R_reads' HO212.out).2.2) ((Kd.R_reads' HO212.out).2.1) ((Kd.R_reads' HO206.out).2.2) ((Kd.R_reads' HO206.out).2.1) AE8.out).mono ?_); rintro e wx9 ⟨rfl, hd_⟩; have hb := hd_.below; clear hd_; have n0_ := Aside0.mk (Kd.R_below HO203.out hb); have n1_ := Aside0.mk (Kd.R_below HO206.out hb); have n2_ := Aside0.mk (Kd.R_below HO209.out hb); have n3_ := Aside0.mk (Kd.R_below HO212.out hb); have n4_ := Aside0.mk (Kd.R_below HO216.out hb); clear HO203; clear HO206; clear HO209; clear HO212; clear HO216; have HO203 := n0_; have HO206 := n1_; have HO209 := n2_; have HO212 := n3_; have HO216 := n4_; clear n0_; clear n1_; clear n2_; clear n3_; clear n4_; have n_ := Aside0.mk (show _ ∧ wx8.heap.size ≤ wx9.heap.size from ⟨HZ.out, hb.size⟩); clear HZ; have HZ := n_; clear n_; have n_ := Aside0.mk (below_step HB.out hb); clear HB; have HB := n_; clear n_ hb))
 go_wp2_with (first | (go_at_call 19; (refine (laws_markIntS.calls k _ (.slice AHO212 t210.length cHO212) t210 1 t221 t222 w _ HB.out (HO212.out) AE9.out).mono ?_); rintro e wx10 ⟨rfl, hy0, hb, hkp⟩; have n0_ := Aside0.mk (Kd.R_kept HO203.out hkp (fun k_ h1_ h2_ => (by have hz_ := HZ.out; have a_ := h1_.1; have b_ := h1_.2.1; have c_ := h2_.1; have d_ := h2_.2.1; clear h1_ h2_; omega))); have n1_ := Aside0.mk (Kd.R_kept HO206.out hkp (fun k_ h1_ h2_ => (by have hz_ := HZ.out; have a_ := h1_.1; have b_ := h1_.2.1; have c_ := h2_.1; have d_ := h2_.2.1; clear h1_ h2_; omega))); have n2_ := Aside0.mk (Kd.R_kept HO209.out hkp (fun k_ h1_ h2_ => (by have hz_ := HZ.out; have a_ := h1_.1; have b_ := h1_.2.1; have c_ := h2_.1; have d_ := h2_.2.1; clear h1_ h2_; omega))); have n3_ := Aside0.mk (Kd.R_kept HO216.out hkp (fun k_ h1_ h2_ => (by have hz_ := HZ.out; have a_ := h1_.1; have b_ := h1_.2.1; have c_ := h2_.1; have d_ := h2_.2.1; clear h1_ h2_; omega))); clear HO203; clear HO206; clear HO209; clear HO216; have HO203 := n0_; have HO206 := n1_; have HO209 := n2_; have HO216 := n3_; clear n0_; clear n1_; clear n2_; clear n3_; have n_ := Aside0.mk (Kd.R_reok rfl hy0 (fun k_ e_ => HO212.out.1 k_ e_)); have hl_ := (Kd.R_reads' n_.out).1; rw [hl_] at n_ ⊢; clear hl_ HO212; have HO212 := n_; clear n_; have n_ := Aside0.mk (show _ ∧ wx9.heap.size ≤ wx10.heap.size from ⟨HZ.out, hkp.1⟩); clear HZ; have HZ := n_; clear n_; have n_ := Aside0.mk hb; clear HB; have HB := n_; clear n_ hb hkp))
 go_wp2_with (first | (go_at_call 20; (refine (laws_heldIntS.calls k _ _ t222 1 t223 _ ((Kd.R_reads' HO212.out).2.2) ((Kd.R_reads' HO212.out).2.1) AE10.out).mono ?_); rintro e wx11 ⟨rfl, hd_⟩; have hb := hd_.below; clear hd_; have n0_ := Aside0.mk (Kd.R_below HO203.out hb); have n1_ := Aside0.mk (Kd.R_below HO206.out hb); have n2_ := Aside0.mk (Kd.R_below HO209.out hb); have n3_ := Aside0.mk (Kd.R_below HO212.out hb); have n4_ := Aside0.mk (Kd.R_below HO216.out hb); clear HO203; clear HO206; clear HO209; clear HO212; clear HO216; have HO203 := n0_; have HO206 := n1_; have HO209 := n2_; have HO212 := n3_; have HO216 := n4_; clear n0_; clear n1_; clear n2_; clear n3_; clear n4_; have n_ := Aside0.mk (show _ ∧ wx10.heap.size ≤ wx11.heap.size from ⟨HZ.out, hb.size⟩); clear HZ; have HZ := n_; clear n_; have n_ := Aside0.mk (below_step HB.out hb); clear HB; have HB := n_; clear n_ hb))
 go_wp2_with (first | (go_at_call 16; (refine (laws_toIntS.calls k _ _ l0 t224 _ ((Kd.C_below HR0.out HB.out)) (HC0.out) AE11.out).mono ?_); rintro e wx12 ⟨v225, rfl, ho0, hb⟩; obtain ⟨AHO226, cHO226, e_⟩ := Kd.R_slice ho0; subst e_; have n0_ := Aside0.mk (Kd.R_below HO203.out hb); have n1_ := Aside0.mk (Kd.R_below HO206.out hb); have n2_ := Aside0.mk (Kd.R_below HO209.out hb); have n3_ := Aside0.mk (Kd.R_below HO212.out hb); have n4_ := Aside0.mk (Kd.R_below HO216.out hb); clear HO203; clear HO206; clear HO209; clear HO212; clear HO216; have HO203 := n0_; have HO206 := n1_; have HO209 := n2_; have HO212 := n3_; have HO216 := n4_; clear n0_; clear n1_; clear n2_; clear n3_; clear n4_; have HO226 := Aside0.mk (iv_O rfl ho0 HB.out.size); clear ho0; have n_ := Aside0.mk (show _ ∧ wx11.heap.size ≤ wx12.heap.size from ⟨HZ.out, hb.size⟩); clear HZ; have HZ := n_; clear n_; have n_ := Aside0.mk (below_step HB.out hb); clear HB; have HB := n_; clear n_ hb))
 go_wp2_with (first | (go_at_call 17; (refine (impl_NextOf.calls k _ _ t224 a1 t227 _ ((Kd.R_reads' HO226.out).2.2) ((Kd.R_reads' HO226.out).2.1) AE12.out).mono ?_); rintro e wx13 ⟨v228, rfl, ho0, hb⟩; obtain ⟨AHO229, cHO229, e_⟩ := Kd.R_slice ho0; subst e_; have n0_ := Aside0.mk (Kd.R_below HO203.out hb); have n1_ := Aside0.mk (Kd.R_below HO206.out hb); have n2_ := Aside0.mk (Kd.R_below HO209.out hb); have n3_ := Aside0.mk (Kd.R_below HO212.out hb); have n4_ := Aside0.mk (Kd.R_below HO216.out hb); have n5_ := Aside0.mk (Kd.R_below HO226.out hb); clear HO203; clear HO206; clear HO209; clear HO212; clear HO216; clear HO226; have HO203 := n0_; have HO206 := n1_; have HO209 := n2_; have HO212 := n3_; have HO216 := n4_; have HO226 := n5_; clear n0_; clear n1_; clear n2_; clear n3_; clear n4_; clear n5_; have HO229 := Aside0.mk (iv_O rfl ho0 HB.out.size); clear ho0; have n_ := Aside0.mk (show _ ∧ wx12.heap.size ≤ wx13.heap.size from ⟨HZ.out, hb.size⟩); clear HZ; have HZ := n_; clear n_; have n_ := Aside0.mk (below_step HB.out hb); clear HB; have HB := n_; clear n_ hb))
 go_wp2_with (first | (go_at_call 18; (refine (laws_eqIntS.calls k _ _ t227 _ _ t204 _ _ ((Kd.R_reads' HO229.out).2.2) ((Kd.R_reads' HO229.out).2.1) ((Kd.R_reads' HO206.out).2.2) ((Kd.R_reads' HO206.out).2.1) AE13.out).mono ?_); rintro e wx14 ⟨rfl, hd_⟩; have hb := hd_.below; clear hd_; have n0_ := Aside0.mk (Kd.R_below HO203.out hb); have n1_ := Aside0.mk (Kd.R_below HO206.out hb); have n2_ := Aside0.mk (Kd.R_below HO209.out hb); have n3_ := Aside0.mk (Kd.R_below HO212.out hb); have n4_ := Aside0.mk (Kd.R_below HO216.out hb); have n5_ := Aside0.mk (Kd.R_below HO226.out hb); have n6_ := Aside0.mk (Kd.R_below HO229.out hb); clear HO203; clear HO206; clear HO209; clear HO212; clear HO216; clear HO226; clear HO229; have HO203 := n0_; have HO206 := n1_; have HO209 := n2_; have HO212 := n3_; have HO216 := n4_; have HO226 := n5_; have HO229 := n6_; clear n0_; clear n1_; clear n2_; clear n3_; clear n4_; clear n5_; clear n6_; have n_ := Aside0.mk (show _ ∧ wx13.heap.size ≤ wx14.heap.size from ⟨HZ.out, hb.size⟩); clear HZ; have HZ := n_; clear n_; have n_ := Aside0.mk (below_step HB.out hb); clear HB; have HB := n_; clear n_ hb))
 go_wp2_with (first | (go_at_call 20; (refine (laws_heldIntS.calls k _ _ t222 1 t231 _ ((Kd.R_reads' HO212.out).2.2) ((Kd.R_reads' HO212.out).2.1) AE14.out).mono ?_); rintro e wx15 ⟨rfl, hd_⟩; have hb := hd_.below; clear hd_; have n0_ := Aside0.mk (Kd.R_below HO203.out hb); have n1_ := Aside0.mk (Kd.R_below HO206.out hb); have n2_ := Aside0.mk (Kd.R_below HO209.out hb); have n3_ := Aside0.mk (Kd.R_below HO212.out hb); have n4_ := Aside0.mk (Kd.R_below HO216.out hb); have n5_ := Aside0.mk (Kd.R_below HO226.out hb); have n6_ := Aside0.mk (Kd.R_below HO229.out hb); clear HO203; clear HO206; clear HO209; clear HO212; clear HO216; clear HO226; clear HO229; have HO203 := n0_; have HO206 := n1_; have HO209 := n2_; have HO212 := n3_; have HO216 := n4_; have HO226 := n5_; have HO229 := n6_; clear n0_; clear n1_; clear n2_; clear n3_; clear n4_; clear n5_; clear n6_; have n_ := Aside0.mk (show _ ∧ wx14.heap.size ≤ wx15.heap.size from ⟨HZ.out, hb.size⟩); clear HZ; have HZ := n_; clear n_; have n_ := Aside0.mk (below_step HB.out hb); clear HB; have HB := n_; clear n_ hb))
 go_ret
 exact ⟨rfl, HB.out⟩

/-- THE ONE PURE STATEMENT of laws_FnExactNextOf: yours. -/
def laws_FnExactNextOf.Pure : Prop := ∀ (l0 : List Int) (a1 : Int), (l0.length ≤ maxLen ∧ ∀ y1_ ∈ l0, (Lit.int .i64 y1_).wf = true) → (Lit.int .i64 a1).wf = true → ∃ k, laws_FnExactNextOf.f k l0 a1 = some true
theorem laws_FnExactNextOf.walk (P : laws_FnExactNextOf.Pure) (A0 : Option Addr) (c0 : Nat) (l0 : List Int) (a1 : Int) (w : World) (hr0 : Kd.C (Kd.int .i64) w A0 l0.length l0) (hc0 : l0.length ≤ c0) (g0 : (l0.length ≤ maxLen ∧ ∀ y1_ ∈ l0, (Lit.int .i64 y1_).wf = true)) (g1 : (Lit.int .i64 a1).wf = true) :
  Calls Try.prog 3 #[.slice A0 l0.length c0, .int .i64 a1] w fun e w' => e = .returned (.bool true) ∧ Below w.heap.size w w' := by
 obtain ⟨k, h⟩ := P l0 a1 g0 g1
 exact laws_FnExactNextOf.calls k A0 c0 l0 a1 true w hr0 hc0 rfl h

end Go.Proofs.Ytnekcbajadnldaa.PFnExactNextOf
