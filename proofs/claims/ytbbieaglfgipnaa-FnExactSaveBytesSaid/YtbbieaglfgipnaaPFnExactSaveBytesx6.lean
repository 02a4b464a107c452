-- made by wip/tools/myprint.py out of the seat's translation
import Derived.Test.YtbbieaglfgipnaaPFnExactSaveBytesx0
import Derived.Test.YtbbieaglfgipnaaPFnExactSaveBytesx1
import Derived.Test.YtbbieaglfgipnaaPFnExactSaveBytesx3
import Derived.Test.YtbbieaglfgipnaaPFnExactSaveBytesx4
import Derived.Test.YtbbieaglfgipnaaPFnExactSaveBytesx5
namespace Go.Proofs.Ytbbieaglfgipnaa.PFnExactSaveBytes
open Go.RowKit Go.Proofs.YtbbieaglfgipnaaW.PrintWords Go.Proofs.YtbbieaglfgipnaaW.PrintLast Go.Proofs.YtbbieaglfgipnaaW.PrintMore
attribute [local go_sem] max2_int min2_int max_two min_two max_three min_three max_four min_four   -- for this text's walks alone
set_option linter.unusedVariables false
set_option linter.unusedSimpArgs false
theorem zR6 {p q : Prop} (x : q) (h : q → p := by intro h; (with_reducible repeat (first | apply Kd.R_alloc | apply Kd.R_drewN | apply Kd.R_drew)); exact h) : p := h x
theorem zA6 {p : Prop} [Decidable p] (h : decide p = true := by first | (with_reducible assumption) | assumption) : p := of_decide_eq_true h
theorem zE6 {p : Prop} (h : p := by first | rfl | (simp [errW_none, errW_some] <;> rfl) | (simp [*, errW_none, errW_some] <;> rfl)) : p := h
theorem zB6_0 {p : Prop} (h : p := by repeat (first | (with_reducible first | exact HK.out | apply Kept.alloc | apply Kept.drewN | apply Kept.drew) | exact HK.out)) : p := h
theorem zB6_1 {p : Prop} (h : p := by repeat (first | (with_reducible first | exact HB.out | apply below_alloc | apply pw_below_drewN | apply below_drew1) | exact HB.out)) : p := h

/-! ### laws_markByteS: function 37 -/
def laws_markByteS.l0 : Nat → List Int → Int → Int → Option (Int × List Int)
 | 0, _, _, _ => none
 | k + 1, x0, x1, x5 => if x5 < (x0.length : Int) then (if 0 ≤ x5 then (laws_markByteS.l0 k (x0.set (x5 : Int).toNat ((x1) % 256)) (wrap64 (x1 + 1)) (wrap64 (x5 + 1))) else (none)) else (some (x1, x0))
def laws_markByteS.f (k : Nat) (l0 : List Int) (a1 : Int) : Option (Int × List Int) := laws_markByteS.l0 k l0 a1 0
theorem laws_markByteS.mono_l : ∀ k, (∀ y0 y1 y2, LeO (laws_markByteS.l0 k y0 y1 y2) (laws_markByteS.l0 (k + 1) y0 y1 y2))
 | 0 => fun _ _ _ r h => by simp [laws_markByteS.l0] at h
 | k + 1 => by
  have ih0 := laws_markByteS.mono_l k
  ·intro y0 y1 y2
   unfold laws_markByteS.l0
   repeat' first
   | (with_reducible exact ih0 _ _ _)
   | (with_reducible exact LeO.refl _)
   | (with_reducible exact LeO.none _)
   | (with_reducible refine LeO.ite ?_ ?_)
   | (with_reducible refine LeO.bind ?_ (fun _ => ?_))
   | exact ih0 _ _ _
   | exact LeO.none _
   | refine LeO.ite ?_ ?_
   | refine LeO.bind ?_ (fun _ => ?_)
theorem laws_markByteS.mono : ∀ a0 a1 k, LeO (laws_markByteS.f k a0 a1) (laws_markByteS.f (k + 1) a0 a1) := by
 intro a0 a1 k
 have ih0 := laws_markByteS.mono_l k
 unfold laws_markByteS.f
 repeat' first
   | (with_reducible exact ih0 _ _ _)
   | (with_reducible exact LeO.refl _)
   | (with_reducible exact LeO.none _)
   | (with_reducible refine LeO.ite ?_ ?_)
   | (with_reducible refine LeO.bind ?_ (fun _ => ?_))
   | exact ih0 _ _ _
   | exact LeO.none _
   | refine LeO.ite ?_ ?_
   | refine LeO.bind ?_ (fun _ => ?_)
set_option maxHeartbeats 8000000 in
set_option maxRecDepth 100000 in
theorem laws_markByteS.calls (k : Nat) (P0_ : Nat → Prop) (u9000_ : Value) (l0 : List Int) (a1 : Int) (r1 : Int) (r2 : List Int) (w0 w : World) (hB : Below w0.heap.size w0 w) (ho0 : Kd.R (Kd.int .u8) 5 w w0.heap.size P0_ u9000_ l0) (h : laws_markByteS.f k l0 a1 = some (r1, r2)) :
  Calls Try.prog 37 #[u9000_, .int .i64 a1] w fun e w' => e = .returned (.int .i64 r1) ∧ Kd.R (Kd.int .u8) 5 w' w0.heap.size (fun k_ => (P0_ k_ ∨ w.heap.size ≤ k_)) u9000_ r2 ∧ Below w0.heap.size w0 w' ∧ Kept w w' (fun k_ => P0_ k_) := by
 have HO0 := Aside0.mk (show Kd.R (Kd.int .u8) 5 w w0.heap.size (fun k_ => (P0_ k_ ∨ w.heap.size ≤ k_)) u9000_ l0 from Kd.R_mono ho0 (fun k_ hk => (.inl hk)))
 have HK := Aside0.mk (Kept.refl w (fun k_ => P0_ k_))
 have HW0 := Aside0.mk hB.size
 have HB := Aside0.mk hB
 clear hB
 have H : (laws_markByteS.l0 k l0 a1 0) = some (r1, r2) := h
 clear h
 have H' := Aside0.mk H
 clear H
 go_enter Try.func37, Try.ntmps37
 go_wp2
 go_loopg [1, 5] k (fun kq v1 v5 w' => ∃ (x0_1 : List Int) (x1_1 : Int) (x5_1 : Int), v1 = .int .i64 x1_1 ∧ v5 = .int .i64 x5_1 ∧ Aside0 (laws_markByteS.l0 kq x0_1 x1_1 x5_1 = some (r1, r2)) ∧ Aside0 (kq ≤ k) ∧ Aside0 (Kd.R (Kd.int .u8) 5 w' w0.heap.size (fun k_ => (P0_ k_ ∨ w.heap.size ≤ k_)) u9000_ x0_1) ∧ Aside0 (Kept w w' (fun k_ => P0_ k_)) ∧ Aside0 (Below w0.heap.size w0 w'))
 case atStart => exact ⟨(l0), (a1), (0), (by first | rfl | (simp; done) | (simp [*]; done)), (by first | rfl | (simp; done) | (simp [*]; done)), H', ⟨Nat.le_refl _⟩, ⟨zR6 HO0.out⟩, ⟨zB6_0⟩, ⟨zB6_1⟩⟩
 case round =>
  clear H'
  try clear p2
  obtain ⟨x0_1, x1_1, x5_1, rfl, rfl, HA, HK1, HO_0, HK, HB⟩ := hrel
  cases gk with
  | zero => exact absurd HA.out (by simp [laws_markByteS.l0])
  | succ k1 =>
   have H := HA.out
   clear HA
   simp only [laws_markByteS.l0] at H
   by_cases c3 : x5_1 < (x0_1.length : Int)
   rotate_left
   ·rw [if_neg c3] at H
    have c3b0 : decide (x5_1 < (x0_1.length : Int)) = false := decide_eq_false c3
    clear c3
    simp only [Option.some.injEq, Prod.mk.injEq] at H
    obtain ⟨rfl, rfl⟩ := H
    obtain ⟨Ao9, co9, eo9⟩ := Kd.R_slice HO_0.out
    subst eo9
    go_wp2
    go_ret
    exact ⟨zE6, zR6 HO_0.out, zB6_1, zB6_0⟩
   rw [if_pos c3] at H
   have c3b0 : decide (x5_1 < (x0_1.length : Int)) = true := decide_eq_true c3
   clear c3
   by_cases c4 : 0 ≤ x5_1
   rotate_left
   ·rw [if_neg c4] at H
    exact absurd H (by simp)
   rw [if_pos c4] at H
   have c4b0 : decide (0 ≤ x5_1) = true := decide_eq_true c4
   clear c4
   obtain ⟨y252, hy252⟩ : ∃ y_ : List Int, y_ = (x0_1.set (x5_1 : Int).toNat ((x1_1) % 256)) := ⟨_, rfl⟩
   replace H : (laws_markByteS.l0 k1 y252 (wrap64 (x1_1 + 1)) (wrap64 (x5_1 + 1))) = some (r1, r2) := by first | (rw [hy252]; with_reducible exact H) | (have H2_ := (Option.bind_some _ _).symm.trans H; rw [hy252]; with_reducible exact H2_) | (have H2_ := (Option.bind_some _ _).symm.trans H; with_reducible exact H2_) | with_reducible exact H | (rw [hy252]; exact H) | exact H
   have Ny252 := Aside0.mk hy252
   clear hy252
   have H' := Aside0.mk H
   clear H
   obtain ⟨Ao6, co6, eo6⟩ := Kd.R_slice HO_0.out
   subst eo6
   have p5 : 0 ≤ (x5_1 : Int) := zA6
   have q5 : (x5_1 : Int) < ((x0_1.length : Int) : Int) := zA6
   obtain ⟨go5, co5, eo5, gb5, gl5, cl5, HG5⟩ := Kd.R_form HO_0.out (by omega)
   (first | cases eo5 | (injection eo5 with ea_ en_ ec_; (first | subst ea_ | (injection ea_ with ea_; subst ea_)); subst ec_; clear en_))
   have GB5 := Aside0.mk gb5
   have GG5 := Aside0.mk HG5
   clear gb5 gl5 HG5
   have HMgo5 := Aside0.mk (show (P0_ go5 ∨ w.heap.size ≤ go5) from (HO_0.out.1 _ rfl))
   obtain ⟨hx5_0, hf5_0⟩ := Kd.R_celln 0 HO_0.out (x5_1 : Int) p5 q5
   replace p5 := eq_true p5
   replace q5 := eq_true q5
   have HP7 := Kd.R_putg HO_0.out (x5_1 : Int) ((x1_1) % 256)
   go_wp2_with (first | ((with_reducible refine gate_store (t := 5) (p := 16) rfl ?_); refine store_event (t := 5) (p := 16) (v := ?vo_w8) (w1 := (wr.setCell ⟨go5, (x5_1 : Int).toNat, none⟩ (.int .u8 ((x1_1) % 256)))) ?hg ?ho ?hn ?hr ?_; (case ho => rfl); (case hg => rfl); (case hn => rfl); (case hr => first | (go_simp; done) | (go_simp; rfl)); intro w8 hw; have hg : wr.grownBy w8 (some go5) := (by rw [hw]; exact HP7.2); have hp_ : Kd.R (Kd.int .u8) 5 w8 w0.heap.size (fun k_ => (P0_ k_ ∨ w.heap.size ≤ k_)) (.slice (some ⟨go5, 0, none⟩) x0_1.length co6) y252 := (by rw [hw, Ny252.out]; exact HP7.1); clear HP7; have n0_ := Aside0.mk (hp_); have n1_ := Aside0.mk ((by rw [hw]; exact below_set (HB.out) GB5.out : Below w0.heap.size w0 w8)); have n2_ := Aside0.mk (Kept.of_grown (S := (fun k_ => P0_ k_)) hg (zB6_0) (fun k_ e_ => (HO_0.out.1 k_ e_))); clear HO_0; clear HB; clear HK; have HO_0 := n0_; have HB := n1_; have HK := n2_; clear n0_ n1_ n2_; clear hg hw hp_))
   go_roundg k1
   case measure => have := HK1.out; omega
   case rel => exact ⟨(y252), (wrap64 (x1_1 + 1)), (wrap64 (x5_1 + 1)), (by first | rfl | (simp; done) | (simp [*]; done)), (by first | rfl | (simp; done) | (simp [*]; done)), H', ⟨by have := HK1.out; omega⟩, ⟨zR6 HO_0.out⟩, ⟨zB6_0⟩, ⟨zB6_1⟩⟩

/-! ### laws_heldByteS: function 38 -/
def laws_heldByteS.l0 : Nat → List Int → Int → Int → Option (Int)
 | 0, _, _, _ => none
 | k + 1, x0, x1, x5 => if x5 < (x0.length : Int) then (if 0 ≤ x5 then (if (rd x0 x5) = ((x1) % 256) then (laws_heldByteS.l0 k x0 (wrap64 (x1 + 1)) (wrap64 (x5 + 1))) else (some (-1))) else (none)) else (some x1)
def laws_heldByteS.f (k : Nat) (l0 : List Int) (a1 : Int) : Option (Int) := laws_heldByteS.l0 k l0 a1 0
theorem laws_heldByteS.mono_l : ∀ k, (∀ y0 y1 y2, LeO (laws_heldByteS.l0 k y0 y1 y2) (laws_heldByteS.l0 (k + 1) y0 y1 y2))
 | 0 => fun _ _ _ r h => by simp [laws_heldByteS.l0] at h
 | k + 1 => by
  have ih0 := laws_heldByteS.mono_l k
  ·intro y0 y1 y2
   unfold laws_heldByteS.l0
   repeat' first
   | (with_reducible exact ih0 _ _ _)
   | (with_reducible exact LeO.refl _)
   | (with_reducible exact LeO.none _)
   | (with_reducible refine LeO.ite ?_ ?_)
   | (with_reducible refine LeO.bind ?_ (fun _ => ?_))
   | exact ih0 _ _ _
   | exact LeO.none _
   | refine LeO.ite ?_ ?_
   | refine LeO.bind ?_ (fun _ => ?_)
theorem laws_heldByteS.mono : ∀ a0 a1 k, LeO (laws_heldByteS.f k a0 a1) (laws_heldByteS.f (k + 1) a0 a1) := by
 intro a0 a1 k
 have ih0 := laws_heldByteS.mono_l k
 unfold laws_heldByteS.f
 repeat' first
   | (with_reducible exact ih0 _ _ _)
   | (with_reducible exact LeO.refl _)
   | (with_reducible exact LeO.none _)
   | (with_reducible refine LeO.ite ?_ ?_)
   | (with_reducible refine LeO.bind ?_ (fun _ => ?_))
   | exact ih0 _ _ _
   | exact LeO.none _
   | refine LeO.ite ?_ ?_
   | refine LeO.bind ?_ (fun _ => ?_)
set_option maxHeartbeats 8000000 in
set_option maxRecDepth 100000 in
theorem laws_heldByteS.calls (k : Nat) (A0 : Option Addr) (c0 : Nat) (l0 : List Int) (a1 : Int) (r : Int) (w : World) (hr0 : Kd.C (Kd.int .u8) w A0 l0.length l0) (hc0 : l0.length ≤ c0) (h : laws_heldByteS.f k l0 a1 = some r) :
  Calls Try.prog 38 #[.slice A0 l0.length c0, .int .i64 a1] w fun e w' => e = .returned (.int .i64 r) ∧ Drawn0 w w' := by
 have HR0 := Aside0.mk hr0
 have HC0 := Aside0.mk hc0
 clear hr0 hc0
 have H : (laws_heldByteS.l0 k l0 a1 0) = some r := h
 clear h
 have H' := Aside0.mk H
 clear H
 go_enter Try.func38, Try.ntmps38
 go_wp2
 go_loopg [1, 5] k (fun kq v1 v5 w' => ∃ (x1_1 : Int) (x5_1 : Int), v1 = .int .i64 x1_1 ∧ v5 = .int .i64 x5_1 ∧ Aside0 (laws_heldByteS.l0 kq l0 x1_1 x5_1 = some r) ∧ Aside0 (kq ≤ k) ∧ Drawn0 w w')
 case atStart => exact ⟨(a1), (0), (by first | rfl | (simp; done) | (simp [*]; done)), (by first | rfl | (simp; done) | (simp [*]; done)), H', ⟨Nat.le_refl _⟩, by repeat (first | exact Drawn0.refl _ | apply Drawn0.step)⟩
 case round =>
  clear H'
  try clear p2
  obtain ⟨x1_1, x5_1, rfl, rfl, HA, HK1, ⟨m1, rfl⟩⟩ := hrel
  cases gk with
  | zero => exact absurd HA.out (by simp [laws_heldByteS.l0])
  | succ k1 =>
   have H := HA.out
   clear HA
   simp only [laws_heldByteS.l0] at H
   by_cases c3 : x5_1 < (l0.length : Int)
   rotate_left
   ·rw [if_neg c3] at H
    have c3b0 : decide (x5_1 < (l0.length : Int)) = false := decide_eq_false c3
    clear c3
    obtain rfl := Option.some.inj H
    go_wp2
    go_ret
    exact ⟨by first | rfl | (simp; done) | (simp [*]; done), by repeat (first | exact Drawn0.refl _ | apply Drawn0.step)⟩
   rw [if_pos c3] at H
   have c3b0 : decide (x5_1 < (l0.length : Int)) = true := decide_eq_true c3
   clear c3
   by_cases c4 : 0 ≤ x5_1
   rotate_left
   ·rw [if_neg c4] at H
    exact absurd H (by simp)
   rw [if_pos c4] at H
   have c4b0 : decide (0 ≤ x5_1) = true := decide_eq_true c4
   clear c4
   by_cases c5 : (rd l0 x5_1) = ((x1_1) % 256)
   rotate_left
   ·rw [if_neg c5] at H
    have c5b0 : ((rd l0 x5_1) == ((x1_1) % 256)) = false := beq_eq_false_iff_ne.mpr c5
    have c5b1 : ((rd l0 x5_1) != ((x1_1) % 256)) = true := bne_iff_ne.mpr c5
    obtain rfl := Option.some.inj H
    have p253 : 0 ≤ (x5_1 : Int) := zA6
    have q253 : x5_1 < (l0.length : Int) := zA6
    obtain ⟨ad253, e253, hx253_0⟩ := Kd.at_int HR0.out x5_1 p253 q253
    cases e253
    replace p253 := eq_true p253
    replace q253 := eq_true q253
    go_wp2
    go_ret
    exact ⟨by first | rfl | (simp; done) | (simp [*]; done), by repeat (first | exact Drawn0.refl _ | apply Drawn0.step)⟩
   rw [if_pos c5] at H
   have c5b0 : ((rd l0 x5_1) == ((x1_1) % 256)) = true := beq_iff_eq.mpr c5
   have c5b1 : ((rd l0 x5_1) != ((x1_1) % 256)) = false := bne_eq_false_iff_eq.mpr c5
   clear c5
   have H' := Aside0.mk H
   clear H
   have p253 : 0 ≤ (x5_1 : Int) := zA6
   have q253 : x5_1 < (l0.length : Int) := zA6
   obtain ⟨ad253, e253, hx253_0⟩ := Kd.at_int HR0.out x5_1 p253 q253
   cases e253
   replace p253 := eq_true p253
   replace q253 := eq_true q253
   go_wp2
   go_roundg k1
   case measure => have := HK1.out; omega
   case rel => exact ⟨(wrap64 (x1_1 + 1)), (wrap64 (x5_1 + 1)), (by first | rfl | (simp; done) | (simp [*]; done)), (by first | rfl | (simp; done) | (simp [*]; done)), H', ⟨by have := HK1.out; omega⟩, by repeat (first | exact Drawn0.refl _ | apply Drawn0.step)⟩

/-! ### laws_FnExactSaveBytes: function 5 -/
def KT (w : World) (L : List Nat) (k : Nat) : Prop := ∃ q, q ∈ L ∧ ∃ cells, w.heap[k]? = some (.cells cells q (0, 0))
theorem KT_ne {w : World} {L1 L2 : List Nat} {k : Nat} (hd : ∀ q, q ∈ L1 → ¬ q ∈ L2) (h1 : KT w L1 k) (h2 : KT w L2 k) : False := by
 obtain ⟨q1, m1, c1, e1⟩ := h1; obtain ⟨q2, m2, c2, e2⟩ := h2
 rw [e1] at e2; simp at e2; obtain ⟨_, rfl⟩ := e2; exact hd _ m1 m2
theorem own_any {A : Option Addr} {n n' c c' : Nat} : (Value.slice A n c).ownBlock = (Value.slice A n' c').ownBlock := by cases A <;> rfl
theorem iv_R {α : Type} {d : Kd α} {e b : Nat} {ok : Nat → Prop} {W w' : World} {v : Value} {xs : List α} (h : d.R e w' W.heap.size ok v xs) (hb : b ≤ W.heap.size) : d.R e w' b (fun k => W.heap.size ≤ k ∧ k < w'.heap.size ∧ KT w' (e :: d.E) k ∧ ok k) v xs := Kd.R_lower (Kd.R_mono (Kd.R_bound h) (fun _ hk => ⟨hk.2.1, hk.2.2.1, hk.2.2.2, hk.1⟩)) hb
theorem iv_O {α : Type} {d : Kd α} {e b : Nat} {ok : Nat → Prop} {W w' : World} {v : Value} {xs : List α} (hE : d.E = []) (h : d.R e w' W.heap.size ok v xs) (hb : b ≤ W.heap.size) : d.R e w' b (fun k => W.heap.size ≤ k ∧ k < w'.heap.size ∧ KT w' (e :: d.E) k ∧ some k = v.ownBlock) v xs := Kd.R_lower (Kd.R_mono (Kd.R_bound (Kd.R_tight2 hE h)) (fun _ hk => ⟨hk.2.1, hk.2.2.1, hk.2.2.2, hk.1.1⟩)) hb
theorem iv_S {α : Type} {d : Kd α} {e b : Nat} {ok : Nat → Prop} {W w' : World} {v : Value} {xs : List α} (h : Kd.S d e w' W.heap.size ok v xs) (hb : b ≤ W.heap.size) : Kd.S d e w' b (fun k => W.heap.size ≤ k ∧ k < w'.heap.size ∧ KT w' (e :: d.E) k ∧ ok k) v xs := Kd.S_lower (Kd.S_mono (Kd.S_bound h) (fun _ hk => ⟨hk.2.1, hk.2.2.1, hk.2.2.2, hk.1⟩)) hb
theorem iv_Q {α : Type} {d : Kd α} {e b : Nat} {ok : Nat → Prop} {W w' : World} {v : Value} {xs : List α} (h : d.Q e w' W.heap.size ok v xs) (hb : b ≤ W.heap.size) : d.Q e w' b (fun k => W.heap.size ≤ k ∧ k < w'.heap.size ∧ KT w' (e :: d.E) k ∧ ok k) v xs := Kd.Q_lower (Kd.Q_mono (Kd.Q_bound h) (fun _ hk => ⟨hk.2.1, hk.2.2.1, hk.2.2.2, hk.1⟩)) hb
def laws_FnExactSaveBytes.f (k : Nat) (l0 : List Int) (l1 : List (S87)) : Option (Bool) := if (l0.length : Int) > 1048576 then (some true) else ((laws_szHartS.f k l1 1048576).bind fun t254 => (if t254 < 0 then (some true) else ((laws_toIntS.f k l0).bind fun t255 => ((laws_toHartS.f k l1).bind fun t258 => ((spec_SaveBytes.f k t255 t258).bind fun t261 => ((laws_toIntS.f k l0).bind fun t264 => ((laws_toHartS.f k l1).bind fun t267 => ((impl_SaveBytes.f k t264 t267).bind fun t270 => ((laws_eqByteS.f k t270 t261).bind fun t273 => (if t273 = true then ((laws_toIntS.f k l0).bind fun t274 => ((laws_eqIntS.f k t264 t274).bind fun t277 => (if t277 = true then ((laws_toHartS.f k l1).bind fun t278 => ((laws_eqHartS.f k t267 t278).bind fun t281 => (if t281 = true then ((laws_markIntS.f k t264 1).bind fun bt282 => ((laws_markHartS.f k t267 bt282.1).bind fun bt284 => (if bt284.1 < 0 then (some false) else ((laws_eqByteS.f k t270 t261).bind fun t286 => (if t286 = true then ((laws_markByteS.f k t270 1).bind fun bt287 => ((laws_heldByteS.f k bt287.2 1).bind fun t289 => (if t289 < 0 then (some false) else (if t289 = bt287.1 then ((laws_toIntS.f k l0).bind fun t290 => ((laws_toHartS.f k l1).bind fun t293 => ((impl_SaveBytes.f k t290 t293).bind fun t296 => ((laws_eqByteS.f k t296 t261).bind fun t299 => (if t299 = true then ((laws_heldByteS.f k bt287.2 1).bind fun t300 => (if t300 < 0 then (some false) else (if t300 = bt287.1 then (some true) else (some false)))) else (some false)))))) else (some false))))) else (some false)))))) else (some false)))) else (some false)))) else (some false)))))))))))
theorem laws_FnExactSaveBytes.mono : ∀ a0 a1 k, LeO (laws_FnExactSaveBytes.f k a0 a1) (laws_FnExactSaveBytes.f (k + 1) a0 a1) := by
 intro a0 a1 k
 unfold laws_FnExactSaveBytes.f
 repeat' first
   | (with_reducible exact impl_SaveBytes.mono _ _ _)
   | (with_reducible exact laws_eqByteS.mono _ _ _)
   | (with_reducible exact laws_eqHartS.mono _ _ _)
   | (with_reducible exact laws_eqIntS.mono _ _ _)
   | (with_reducible exact laws_heldByteS.mono _ _ _)
   | (with_reducible exact laws_markByteS.mono _ _ _)
   | (with_reducible exact laws_markHartS.mono _ _ _)
   | (with_reducible exact laws_markIntS.mono _ _ _)
   | (with_reducible exact laws_szHartS.mono _ _ _)
   | (with_reducible exact laws_toHartS.mono _ _)
   | (with_reducible exact laws_toIntS.mono _ _)
   | (with_reducible exact spec_SaveBytes.mono _ _ _)
   | (with_reducible exact LeO.refl _)
   | (with_reducible exact LeO.none _)
   | (with_reducible refine LeO.ite ?_ ?_)
   | (with_reducible refine LeO.bind ?_ (fun _ => ?_))
   | exact impl_SaveBytes.mono _ _ _
   | exact laws_eqByteS.mono _ _ _
   | exact laws_eqHartS.mono _ _ _
   | exact laws_eqIntS.mono _ _ _
   | exact laws_heldByteS.mono _ _ _
   | exact laws_markByteS.mono _ _ _
   | exact laws_markHartS.mono _ _ _
   | exact laws_markIntS.mono _ _ _
   | exact laws_szHartS.mono _ _ _
   | exact laws_toHartS.mono _ _
   | exact laws_toIntS.mono _ _
   | exact spec_SaveBytes.mono _ _ _
   | exact LeO.none _
   | refine LeO.ite ?_ ?_
   | refine LeO.bind ?_ (fun _ => ?_)
set_option maxHeartbeats 8000000 in
set_option maxRecDepth 100000 in
theorem laws_FnExactSaveBytes.calls (k : Nat) (A0 : Option Addr) (c0 : Nat) (l0 : List Int) (A1 : Option Addr) (c1 : Nat) (l1 : List (S87)) (r : Bool) (w : World) (hr0 : Kd.C (Kd.int .i64) w A0 l0.length l0) (hc0 : l0.length ≤ c0) (hr1 : Kd.C k87 w A1 l1.length l1) (hc1 : l1.length ≤ c1) (hr_ : r = true) (h : laws_FnExactSaveBytes.f k l0 l1 = some r) :
  Calls Try.prog 5 #[.slice A0 l0.length c0, .slice A1 l1.length c1] w fun e w' => e = .returned (.bool r) ∧ Below w.heap.size w w' := by
 subst hr_
 have HR0 := Aside0.mk hr0
 have HC0 := Aside0.mk hc0
 clear hr0 hc0
 have HR1 := Aside0.mk hr1
 have HC1 := Aside0.mk hc1
 clear hr1 hc1
 unfold laws_FnExactSaveBytes.f at h
 have H := h
 clear h
 by_cases ci1 : (l0.length : Int) > 1048576
 ·rw [if_pos ci1] at H
  have ci1b0 : decide (1048576 < (l0.length : Int)) = true := decide_eq_true ci1
  have ci1b1 : decide (1048576 < l0.length) = true := decide_eq_true (by omega)
  clear ci1
  have HB := Aside0.mk (Below.refl w.heap.size w)
  have HZ := Aside0.mk (Nat.le_refl w.heap.size)
  clear H
  go_enter Try.func5, Try.ntmps5
  go_wp2
  go_ret
  exact ⟨rfl, HB.out⟩
 rw [if_neg ci1] at H
 have ci1b0 : decide (1048576 < (l0.length : Int)) = false := decide_eq_false ci1
 have ci1b1 : decide (1048576 < l0.length) = false := decide_eq_false (by omega)
 clear ci1
 obtain ⟨t254, hA_, H⟩ := Option.bind_eq_some_iff.mp H
 try dsimp only at H
 have AE0 := Aside0.mk hA_
 clear hA_
 by_cases ci2 : t254 < 0
 ·rw [if_pos ci2] at H
  have ci2b0 : decide (t254 < 0) = true := decide_eq_true ci2
  clear ci2
  have HB := Aside0.mk (Below.refl w.heap.size w)
  have HZ := Aside0.mk (Nat.le_refl w.heap.size)
  clear H
  go_enter Try.func5, Try.ntmps5
  go_wp2_with (first | (go_at_call 29; (refine (laws_szHartS.calls k _ _ l1 1048576 t254 _ ((Kd.C_below HR1.out HB.out)) (HC1.out) AE0.out).mono ?_); rintro e wx1 ⟨rfl, hb⟩; have n_ := Aside0.mk (show _ ∧ w.heap.size ≤ wx1.heap.size from ⟨HZ.out, hb.size⟩); clear HZ; have HZ := n_; clear n_; have n_ := Aside0.mk (below_step HB.out hb); clear HB; have HB := n_; clear n_ hb))
  go_ret
  exact ⟨rfl, HB.out⟩
 rw [if_neg ci2] at H
 have ci2b0 : decide (t254 < 0) = false := decide_eq_false ci2
 clear ci2
 obtain ⟨t255, hA_, H⟩ := Option.bind_eq_some_iff.mp H
 try dsimp only at H
 have AE1 := Aside0.mk hA_
 clear hA_
 obtain ⟨t258, hA_, H⟩ := Option.bind_eq_some_iff.mp H
 try dsimp only at H
 have AE2 := Aside0.mk hA_
 clear hA_
 obtain ⟨t261, hA_, H⟩ := Option.bind_eq_some_iff.mp H
 try dsimp only at H
 have AE3 := Aside0.mk hA_
 clear hA_
 obtain ⟨t264, hA_, H⟩ := Option.bind_eq_some_iff.mp H
 try dsimp only at H
 have AE4 := Aside0.mk hA_
 clear hA_
 obtain ⟨t267, hA_, H⟩ := Option.bind_eq_some_iff.mp H
 try dsimp only at H
 have AE5 := Aside0.mk hA_
 clear hA_
 obtain ⟨t270, hA_, H⟩ := Option.bind_eq_some_iff.mp H
 try dsimp only at H
 have AE6 := Aside0.mk hA_
 clear hA_
 obtain ⟨t273, hA_, H⟩ := Option.bind_eq_some_iff.mp H
 try dsimp only at H
 have AE7 := Aside0.mk hA_
 clear hA_
 by_cases ci3 : t273 = true
 rotate_left
 ·rw [if_neg ci3] at H
  exact absurd H (by simp)
 rw [if_pos ci3] at H
 subst ci3
 obtain ⟨t274, hA_, H⟩ := Option.bind_eq_some_iff.mp H
 try dsimp only at H
 have AE8 := Aside0.mk hA_
 clear hA_
 obtain ⟨t277, hA_, H⟩ := Option.bind_eq_some_iff.mp H
 try dsimp only at H
 have AE9 := Aside0.mk hA_
 clear hA_
 by_cases ci4 : t277 = true
 rotate_left
 ·rw [if_neg ci4] at H
  exact absurd H (by simp)
 rw [if_pos ci4] at H
 subst ci4
 obtain ⟨t278, hA_, H⟩ := Option.bind_eq_some_iff.mp H
 try dsimp only at H
 have AE10 := Aside0.mk hA_
 clear hA_
 obtain ⟨t281, hA_, H⟩ := Option.bind_eq_some_iff.mp H
 try dsimp only at H
 have AE11 := Aside0.mk hA_
 clear hA_
 by_cases ci5 : t281 = true
 rotate_left
 ·rw [if_neg ci5] at H
  exact absurd H (by simp)
 rw [if_pos ci5] at H
 subst ci5
 obtain ⟨⟨t282, t283⟩, hA_, H⟩ := Option.bind_eq_some_iff.mp H
 try dsimp only at H
 have AE12 := Aside0.mk hA_
 clear hA_
 obtain ⟨⟨t284, t285⟩, hA_, H⟩ := Option.bind_eq_some_iff.mp H
 try dsimp only at H
 have AE13 := Aside0.mk hA_
 clear hA_
 by_cases ci6 : t284 < 0
 ·rw [if_pos ci6] at H
  exact absurd H (by simp)
 rw [if_neg ci6] at H
 have ci6b0 : decide (t284 < 0) = false := decide_eq_false ci6
 clear ci6
 obtain ⟨t286, hA_, H⟩ := Option.bind_eq_some_iff.mp H
 try dsimp only at H
 have AE14 := Aside0.mk hA_
 clear hA_
 by_cases ci7 : t286 = true
 rotate_left
 ·rw [if_neg ci7] at H
  exact absurd H (by simp)
 rw [if_pos ci7] at H
 subst ci7
 obtain ⟨⟨t287, t288⟩, hA_, H⟩ := Option.bind_eq_some_iff.mp H
 try dsimp only at H
 have AE15 := Aside0.mk hA_
 clear hA_
 obtain ⟨t289, hA_, H⟩ := Option.bind_eq_some_iff.mp H
 try dsimp only at H
 have AE16 := Aside0.mk hA_
 clear hA_
 by_cases ci8 : t289 < 0
 ·rw [if_pos ci8] at H
  exact absurd H (by simp)
 rw [if_neg ci8] at H
 have ci8b0 : decide (t289 < 0) = false := decide_eq_false ci8
 clear ci8
 by_cases ci9 : t289 = t287
 rotate_left
 ·rw [if_neg ci9] at H
  exact absurd H (by simp)
 rw [if_pos ci9] at H
 have ci9b0 : (t289 == t287) = true := beq_iff_eq.mpr ci9
 have ci9b1 : (t289 != t287) = false := bne_eq_false_iff_eq.mpr ci9
 clear ci9
 obtain ⟨t290, hA_, H⟩ := Option.bind_eq_some_iff.mp H
 try dsimp only at H
 have AE17 := Aside0.mk hA_
 clear hA_
 obtain ⟨t293, hA_, H⟩ := Option.bind_eq_some_iff.mp H
 try dsimp only at H
 have AE18 := Aside0.mk hA_
 clear hA_
 obtain ⟨t296, hA_, H⟩ := Option.bind_eq_some_iff.mp H
 try dsimp only at H
 have AE19 := Aside0.mk hA_
 clear hA_
 obtain ⟨t299, hA_, H⟩ := Option.bind_eq_some_iff.mp H
 try dsimp only at H
 have AE20 := Aside0.mk hA_
 clear hA_
 by_cases ci10 : t299 = true
 rotate_left
 ·rw [if_neg ci10] at H
  exact absurd H (by simp)
 rw [if_pos ci10] at H
 subst ci10
 obtain ⟨t300, hA_, H⟩ := Option.bind_eq_some_iff.mp H
 try dsimp only at H
 have AE21 := Aside0.mk hA_
 clear hA_
 by_cases ci11 : t300 < 0
 ·rw [if_pos ci11] at H
  exact absurd H (by simp)
 rw [if_neg ci11] at H
 have ci11b0 : decide (t300 < 0) = false := decide_eq_false ci11
 clear ci11
 by_cases ci12 : t300 = t287
 rotate_left
 ·rw [if_neg ci12] at H
  exact absurd H (by simp)
 rw [if_pos ci12] at H
 have ci12b0 : (t300 == t287) = true := beq_iff_eq.mpr ci12
 have ci12b1 : (t300 != t287) = false := bne_eq_false_iff_eq.mpr ci12
 clear ci12
 have HB := Aside0.mk (Below.refl w.heap.size w)
 have HZ := Aside0.mk (Nat.le_refl w.heap.size)
 clear H
 go_enter Try.func5, Try.ntmps5
 go_wp2_with (first | (go_at_call 29; (refine (laws_szHartS.calls k _ _ l1 1048576 t254 _ ((Kd.C_below HR1.out HB.out)) (HC1.out) AE0.out).mono ?_); rintro e wx1 ⟨rfl, hb⟩; have n_ := Aside0.mk (show _ ∧ w.heap.size ≤ wx1.heap.size from ⟨HZ.out, hb.size⟩); clear HZ; have HZ := n_; clear n_; have n_ := Aside0.mk (below_step HB.out hb); clear HB; have HB := n_; clear n_ hb))
 go_wp2_with (first | (go_at_call 25; (refine (laws_toIntS.calls k _ _ l0 t255 _ ((Kd.C_below HR0.out HB.out)) (HC0.out) AE1.out).mono ?_); rintro e wx2 ⟨v256, rfl, ho0, hb⟩; obtain ⟨AHO257, cHO257, e_⟩ := Kd.R_slice ho0; subst e_; have HO257 := Aside0.mk (iv_O rfl ho0 HB.out.size); clear ho0; have n_ := Aside0.mk (show _ ∧ wx1.heap.size ≤ wx2.heap.size from ⟨HZ.out, hb.size⟩); clear HZ; have HZ := n_; clear n_; have n_ := Aside0.mk (below_step HB.out hb); clear HB; have HB := n_; clear n_ hb))
 go_wp2_with (first | (go_at_call 31; (refine (laws_toHartS.calls k _ _ l1 t258 _ ((Kd.C_below HR1.out HB.out)) (HC1.out) AE2.out).mono ?_); rintro e wx3 ⟨v259, rfl, ho0, hb⟩; obtain ⟨AHO260, cHO260, e_⟩ := Kd.S_slice ho0; subst e_; have n0_ := Aside0.mk (Kd.R_below HO257.out hb); clear HO257; have HO257 := n0_; clear n0_; have HO260 := Aside0.mk (iv_S ho0 HB.out.size); clear ho0; have n_ := Aside0.mk (show _ ∧ wx2.heap.size ≤ wx3.heap.size from ⟨HZ.out, hb.size⟩); clear HZ; have HZ := n_; clear n_; have n_ := Aside0.mk (below_step HB.out hb); clear HB; have HB := n_; clear n_ hb))
 go_wp2_with (first | (go_at_call 30; (refine (spec_SaveBytes.calls k _ _ t255 _ _ t258 t261 _ ((Kd.R_reads' HO257.out).2.2) ((Kd.R_reads' HO257.out).2.1) ((Kd.S_reads' HO260.out).2.2) ((Kd.S_reads' HO260.out).2.1) AE3.out).mono ?_); rintro e wx4 ⟨v262, rfl, ho0, hb⟩; obtain ⟨AHO263, cHO263, e_⟩ := Kd.R_slice ho0; subst e_; have n0_ := Aside0.mk (Kd.R_below HO257.out hb); have n1_ := Aside0.mk (Kd.S_below HO260.out hb); clear HO257; clear HO260; have HO257 := n0_; have HO260 := n1_; clear n0_; clear n1_; have HO263 := Aside0.mk (iv_O rfl ho0 HB.out.size); clear ho0; have n_ := Aside0.mk (show _ ∧ wx3.heap.size ≤ wx4.heap.size from ⟨HZ.out, hb.size⟩); clear HZ; have HZ := n_; clear n_; have n_ := Aside0.mk (below_step HB.out hb); clear HB; have HB := n_; clear n_ hb))
 go_wp2_with (first | (go_at_call 25; (refine (laws_toIntS.calls k _ _ l0 t264 _ ((Kd.C_below HR0.out HB.out)) (HC0.out) AE4.out).mono ?_); rintro e wx5 ⟨v265, rfl, ho0, hb⟩; obtain ⟨AHO266, cHO266, e_⟩ := Kd.R_slice ho0; subst e_; have n0_ := Aside0.mk (Kd.R_below HO257.out hb); have n1_ := Aside0.mk (Kd.S_below HO260.out hb); have n2_ := Aside0.mk (Kd.R_below HO263.out hb); clear HO257; clear HO260; clear HO263; have HO257 := n0_; have HO260 := n1_; have HO263 := n2_; clear n0_; clear n1_; clear n2_; have HO266 := Aside0.mk (iv_O rfl ho0 HB.out.size); clear ho0; have n_ := Aside0.mk (show _ ∧ wx4.heap.size ≤ wx5.heap.size from ⟨HZ.out, hb.size⟩); clear HZ; have HZ := n_; clear n_; have n_ := Aside0.mk (below_step HB.out hb); clear HB; have HB := n_; clear n_ hb))
 go_wp2_with (first | (go_at_call 31; (refine (laws_toHartS.calls k _ _ l1 t267 _ ((Kd.C_below HR1.out HB.out)) (HC1.out) AE5.out).mono ?_); rintro e wx6 ⟨v268, rfl, ho0, hb⟩; obtain ⟨AHO269, cHO269, e_⟩ := Kd.S_slice ho0; subst e_; have n0_ := Aside0.mk (Kd.R_below HO257.out hb); have n1_ := Aside0.mk (Kd.S_below HO260.out hb); have n2_ := Aside0.mk (Kd.R_below HO263.out hb); have n3_ := Aside0.mk (Kd.R_below HO266.out hb); clear HO257; clear HO260; clear HO263; clear HO266; have HO257 := n0_; have HO260 := n1_; have HO263 := n2_; have HO266 := n3_; clear n0_; clear n1_; clear n2_; clear n3_; have HO269 := Aside0.mk (iv_S ho0 HB.out.size); clear ho0; have n_ := Aside0.mk (show _ ∧ wx5.heap.size ≤ wx6.heap.size from ⟨HZ.out, hb.size⟩); clear HZ; have HZ := n_; clear n_; have n_ := Aside0.mk (below_step HB.out hb); clear HB; have HB := n_; clear n_ hb))
 go_wp2_with (first | (go_at_call 32; (refine (impl_SaveBytes.calls k _ _ t264 _ _ t267 t270 _ ((Kd.R_reads' HO266.out).2.2) ((Kd.R_reads' HO266.out).2.1) ((Kd.S_reads' HO269.out).2.2) ((Kd.S_reads' HO269.out).2.1) AE6.out).mono ?_); rintro e wx7 ⟨v271, rfl, ho0, hb⟩; obtain ⟨AHO272, cHO272, e_⟩ := Kd.R_slice ho0; subst e_; have n0_ := Aside0.mk (Kd.R_below HO257.out hb); have n1_ := Aside0.mk (Kd.S_below HO260.out hb); have n2_ := Aside0.mk (Kd.R_below HO263.out hb); have n3_ := Aside0.mk (Kd.R_below HO266.out hb); have n4_ := Aside0.mk (Kd.S_below HO269.out hb); clear HO257; clear HO260; clear HO263; clear HO266; clear HO269; have HO257 := n0_; have HO260 := n1_; have HO263 := n2_; have HO266 := n3_; have HO269 := n4_; clear n0_; clear n1_; clear n2_; clear n3_; clear n4_; have HO272 := Aside0.mk (iv_O rfl ho0 HB.out.size); clear ho0; have n_ := Aside0.mk (show _ ∧ wx6.heap.size ≤ wx7.heap.size from ⟨HZ.out, hb.size⟩); clear HZ; have HZ := n_; clear n_; have n_ := Aside0.mk (below_step HB.out hb); clear HB; have HB := n_; clear n_ hb))
 go_wp2_with (first | (go_at_call 33; (refine (laws_eqByteS.calls k _ _ t270 _ _ t261 _ _ ((Kd.R_reads' HO272.out).2.2) ((Kd.R_reads' HO272.out).2.1) ((Kd.R_reads' HO263.out).2.2) ((Kd.R_reads' HO263.out).2.1) AE7.out).mono ?_); rintro e wx8 ⟨rfl, hd_⟩; have hb := hd_.below; clear hd_; have n0_ := Aside0.mk (Kd.R_below HO257.out hb); have n1_ := Aside0.mk (Kd.S_below HO260.out hb); have n2_ := Aside0.mk (Kd.R_below HO263.out hb); have n3_ := Aside0.mk (Kd.R_below HO266.out hb); have n4_ := Aside0.mk (Kd.S_below HO269.out hb); have n5_ := Aside0.mk (Kd.R_below HO272.out hb); clear HO257; clear HO260; clear HO263; clear HO266; clear HO269; clear HO272; have HO257 := n0_; have HO260 := n1_; have HO263 := n2_; have HO266 := n3_; have HO269 := n4_; have HO272 := n5_; clear n0_; clear n1_; clear n2_; clear n3_; clear n4_; clear n5_; have n_ := Aside0.mk (show _ ∧ wx7.heap.size ≤ wx8.heap.size from ⟨HZ.out, hb.size⟩); clear HZ; have HZ := n_; clear n_; have n_ := Aside0.mk (below_step HB.out hb); clear HB; have HB := n_; clear n_ hb))
 go_wp2_with (first | (go_at_call 25; (refine (laws_toIntS.calls k _ _ l0 t274 _ ((Kd.C_below HR0.out HB.out)) (HC0.out) AE8.out).mono ?_); rintro e wx9 ⟨v275, rfl, ho0, hb⟩; obtain ⟨AHO276, cHO276, e_⟩ := Kd.R_slice ho0; subst e_; have n0_ := Aside0.mk (Kd.R_below HO257.out hb); have n1_ := Aside0.mk (Kd.S_below HO260.out hb); have n2_ := Aside0.mk (Kd.R_below HO263.out hb); have n3_ := Aside0.mk (Kd.R_below HO266.out hb); have n4_ := Aside0.mk (Kd.S_below HO269.out hb); have n5_ := Aside0.mk (Kd.R_below HO272.out hb); clear HO257; clear HO260; clear HO263; clear HO266; clear HO269; clear HO272; have HO257 := n0_; have HO260 := n1_; have HO263 := n2_; have HO266 := n3_; have HO269 := n4_; have HO272 := n5_; clear n0_; clear n1_; clear n2_; clear n3_; clear n4_; clear n5_; have HO276 := Aside0.mk (iv_O rfl ho0 HB.out.size); clear ho0; have n_ := Aside0.mk (show _ ∧ wx8.heap.size ≤ wx9.heap.size from ⟨HZ.out, hb.size⟩); clear HZ; have HZ := n_; clear n_; have n_ := Aside0.mk (below_step HB.out hb); clear HB; have HB := n_; clear n_ hb))
 go_wp2_with (first | (go_at_call 28; (refine (laws_eqIntS.calls k _ _ t264 _ _ t274 _ _ ((Kd.R_reads' HO266.out).2.2) ((Kd.R_reads' HO266.out).2.1) ((Kd.R_reads' HO276.out).2.2) ((Kd.R_reads' HO276.out).2.1) AE9.out).mono ?_); rintro e wx10 ⟨rfl, hd_⟩; have hb := hd_.below; clear hd_; have n0_ := Aside0.mk (Kd.R_below HO257.out hb); have n1_ := Aside0.mk (Kd.S_below HO260.out hb); have n2_ := Aside0.mk (Kd.R_below HO263.out hb); have n3_ := Aside0.mk (Kd.R_below HO266.out hb); have n4_ := Aside0.mk (Kd.S_below HO269.out hb); have n5_ := Aside0.mk (Kd.R_below HO272.out hb); have n6_ := Aside0.mk (Kd.R_below HO276.out hb); clear HO257; clear HO260; clear HO263; clear HO266; clear HO269; clear HO272; clear HO276; have HO257 := n0_; have HO260 := n1_; have HO263 := n2_; have HO266 := n3_; have HO269 := n4_; have HO272 := n5_; have HO276 := n6_; clear n0_; clear n1_; clear n2_; clear n3_; clear n4_; clear n5_; clear n6_; have n_ := Aside0.mk (show _ ∧ wx9.heap.size ≤ wx10.heap.size from ⟨HZ.out, hb.size⟩); clear HZ; have HZ := n_; clear n_; have n_ := Aside0.mk (below_step HB.out hb); clear HB; have HB := n_; clear n_ hb))
 go_wp2_with (first | (go_at_call 31; (refine (laws_toHartS.calls k _ _ l1 t278 _ ((Kd.C_below HR1.out HB.out)) (HC1.out) AE10.out).mono ?_); rintro e wx11 ⟨v279, rfl, ho0, hb⟩; obtain ⟨AHO280, cHO280, e_⟩ := Kd.S_slice ho0; subst e_; have n0_ := Aside0.mk (Kd.R_below HO257.out hb); have n1_ := Aside0.mk (Kd.S_below HO260.out hb); have n2_ := Aside0.mk (Kd.R_below HO263.out hb); have n3_ := Aside0.mk (Kd.R_below HO266.out hb); have n4_ := Aside0.mk (Kd.S_below HO269.out hb); have n5_ := Aside0.mk (Kd.R_below HO272.out hb); have n6_ := Aside0.mk (Kd.R_below HO276.out hb); clear HO257; clear HO260; clear HO263; clear HO266; clear HO269; clear HO272; clear HO276; have HO257 := n0_; have HO260 := n1_; have HO263 := n2_; have HO266 := n3_; have HO269 := n4_; have HO272 := n5_; have HO276 := n6_; clear n0_; clear n1_; clear n2_; clear n3_; clear n4_; clear n5_; clear n6_; have HO280 := Aside0.mk (iv_S ho0 HB.out.size); clear ho0; have n_ := Aside0.mk (show _ ∧ wx10.heap.size ≤ wx11.heap.size from ⟨HZ.out, hb.size⟩); clear HZ; have HZ := n_; clear n_; have n_ := Aside0.mk (below_step HB.out hb); clear HB; have HB := n_; clear n_ hb))
 go_wp2_with (first | (go_at_call 34; (refine (laws_eqHartS.calls k _ _ t267 _ _ t278 _ _ ((Kd.S_reads' HO269.out).2.2) ((Kd.S_reads' HO269.out).2.1) ((Kd.S_reads' HO280.out).2.2) ((Kd.S_reads' HO280.out).2.1) AE11.out).mono ?_); rintro e wx12 ⟨rfl, hb⟩; have n0_ := Aside0.mk (Kd.R_below HO257.out hb); have n1_ := Aside0.mk (Kd.S_below HO260.out hb); have n2_ := Aside0.mk (Kd.R_below HO263.out hb); have n3_ := Aside0.mk (Kd.R_below HO266.out hb); have n4_ := Aside0.mk (Kd.S_below HO269.out hb); have n5_ := Aside0.mk (Kd.R_below HO272.out hb); have n6_ := Aside0.mk (Kd.R_below HO276.out hb); have n7_ := Aside0.mk (Kd.S_below HO280.out hb); clear HO257; clear HO260; clear HO263; clear HO266; clear HO269; clear HO272; clear HO276; clear HO280; have HO257 := n0_; have HO260 := n1_; have HO263 := n2_; have HO266 := n3_; have HO269 := n4_; have HO272 := n5_; have HO276 := n6_; have HO280 := n7_; clear n0_; clear n1_; clear n2_; clear n3_; clear n4_; clear n5_; clear n6_; clear n7_; have n_ := Aside0.mk (show _ ∧ wx11.heap.size ≤ wx12.heap.size from ⟨HZ.out, hb.size⟩); clear HZ; have HZ := n_; clear n_; have n_ := Aside0.mk (below_step HB.out hb); clear HB; have HB := n_; clear n_ hb))
 go_wp2_with (first | (go_at_call 35; (refine (laws_markIntS.calls k _ (.slice AHO266 t264.length cHO266) t264 1 t282 t283 w _ HB.out (HO266.out) AE12.out).mono ?_); rintro e wx13 ⟨rfl, hy0, hb, hkp⟩; have n0_ := Aside0.mk (Kd.R_kept HO257.out hkp (fun k_ h1_ h2_ => (by have hz_ := HZ.out; have a_ := h1_.1; have b_ := h1_.2.1; have c_ := h2_.1; have d_ := h2_.2.1; clear h1_ h2_; omega))); have n1_ := Aside0.mk (Kd.S_kept HO260.out hkp (fun k_ h1_ h2_ => (by have hz_ := HZ.out; have a_ := h1_.1; have b_ := h1_.2.1; have c_ := h2_.1; have d_ := h2_.2.1; clear h1_ h2_; omega))); have n2_ := Aside0.mk (Kd.R_kept HO263.out hkp (fun k_ h1_ h2_ => (by have hz_ := HZ.out; have a_ := h1_.1; have b_ := h1_.2.1; have c_ := h2_.1; have d_ := h2_.2.1; clear h1_ h2_; omega))); have n3_ := Aside0.mk (Kd.S_kept HO269.out hkp (fun k_ h1_ h2_ => (by have hz_ := HZ.out; have a_ := h1_.1; have b_ := h1_.2.1; have c_ := h2_.1; have d_ := h2_.2.1; clear h1_ h2_; omega))); have n4_ := Aside0.mk (Kd.R_kept HO272.out hkp (fun k_ h1_ h2_ => (by have hz_ := HZ.out; have a_ := h1_.1; have b_ := h1_.2.1; have c_ := h2_.1; have d_ := h2_.2.1; clear h1_ h2_; omega))); have n5_ := Aside0.mk (Kd.R_kept HO276.out hkp (fun k_ h1_ h2_ => (by have hz_ := HZ.out; have a_ := h1_.1; have b_ := h1_.2.1; have c_ := h2_.1; have d_ := h2_.2.1; clear h1_ h2_; omega))); have n6_ := Aside0.mk (Kd.S_kept HO280.out hkp (fun k_ h1_ h2_ => (by have hz_ := HZ.out; have a_ := h1_.1; have b_ := h1_.2.1; have c_ := h2_.1; have d_ := h2_.2.1; clear h1_ h2_; omega))); clear HO257; clear HO260; clear HO263; clear HO269; clear HO272; clear HO276; clear HO280; have HO257 := n0_; have HO260 := n1_; have HO263 := n2_; have HO269 := n3_; have HO272 := n4_; have HO276 := n5_; have HO280 := n6_; clear n0_; clear n1_; clear n2_; clear n3_; clear n4_; clear n5_; clear n6_; have n_ := Aside0.mk (Kd.R_reok rfl hy0 (fun k_ e_ => HO266.out.1 k_ e_)); have hl_ := (Kd.R_reads' n_.out).1; rw [hl_] at n_ ⊢; clear hl_ HO266; have HO266 := n_; clear n_; have n_ := Aside0.mk (show _ ∧ wx12.heap.size ≤ wx13.heap.size from ⟨HZ.out, hkp.1⟩); clear HZ; have HZ := n_; clear n_; have n_ := Aside0.mk hb; clear HB; have HB := n_; clear n_ hb hkp))
 go_wp2_with (first | (go_at_call 36; (refine (laws_markHartS.calls k _ (.slice AHO269 t267.length cHO269) t267 t282 t284 t285 w _ HB.out (HO269.out) AE13.out).mono ?_); rintro e wx14 ⟨rfl, hy0, hb, hkp⟩; have n0_ := Aside0.mk (Kd.R_kept HO257.out hkp (fun k_ h1_ h2_ => (by have hz_ := HZ.out; have a_ := h1_.1; have b_ := h1_.2.1; have c_ := h2_.1; have d_ := h2_.2.1; clear h1_ h2_; omega))); have n1_ := Aside0.mk (Kd.S_kept HO260.out hkp (fun k_ h1_ h2_ => (by have hz_ := HZ.out; have a_ := h1_.1; have b_ := h1_.2.1; have c_ := h2_.1; have d_ := h2_.2.1; clear h1_ h2_; omega))); have n2_ := Aside0.mk (Kd.R_kept HO263.out hkp (fun k_ h1_ h2_ => (by have hz_ := HZ.out; have a_ := h1_.1; have b_ := h1_.2.1; have c_ := h2_.1; have d_ := h2_.2.1; clear h1_ h2_; omega))); have n3_ := Aside0.mk (Kd.R_kept HO266.out hkp (fun k_ h1_ h2_ => (by have hz_ := HZ.out; have a_ := h1_.1; have b_ := h1_.2.1; have c_ := h2_.1; have d_ := h2_.2.1; clear h1_ h2_; omega))); have n4_ := Aside0.mk (Kd.R_kept HO272.out hkp (fun k_ h1_ h2_ => (by have hz_ := HZ.out; have a_ := h1_.1; have b_ := h1_.2.1; have c_ := h2_.1; have d_ := h2_.2.1; clear h1_ h2_; omega))); have n5_ := Aside0.mk (Kd.R_kept HO276.out hkp (fun k_ h1_ h2_ => (by have hz_ := HZ.out; have a_ := h1_.1; have b_ := h1_.2.1; have c_ := h2_.1; have d_ := h2_.2.1; clear h1_ h2_; omega))); have n6_ := Aside0.mk (Kd.S_kept HO280.out hkp (fun k_ h1_ h2_ => (by have hz_ := HZ.out; have a_ := h1_.1; have b_ := h1_.2.1; have c_ := h2_.1; have d_ := h2_.2.1; clear h1_ h2_; omega))); clear HO257; clear HO260; clear HO263; clear HO266; clear HO272; clear HO276; clear HO280; have HO257 := n0_; have HO260 := n1_; have HO263 := n2_; have HO266 := n3_; have HO272 := n4_; have HO276 := n5_; have HO280 := n6_; clear n0_; clear n1_; clear n2_; clear n3_; clear n4_; clear n5_; clear n6_; have n_ := Aside0.mk (hy0); have hl_ := (Kd.S_reads' n_.out).1; rw [hl_] at n_ ⊢; clear hl_ HO269; have HO269 := n_; clear n_; have n_ := Aside0.mk (show _ ∧ wx13.heap.size ≤ wx14.heap.size from ⟨HZ.out, hkp.1⟩); clear HZ; have HZ := n_; clear n_; have n_ := Aside0.mk hb; clear HB; have HB := n_; clear n_ hb hkp))
 go_wp2_with (first | (go_at_call 33; (refine (laws_eqByteS.calls k _ _ t270 _ _ t261 _ _ ((Kd.R_reads' HO272.out).2.2) ((Kd.R_reads' HO272.out).2.1) ((Kd.R_reads' HO263.out).2.2) ((Kd.R_reads' HO263.out).2.1) AE14.out).mono ?_); rintro e wx15 ⟨rfl, hd_⟩; have hb := hd_.below; clear hd_; have n0_ := Aside0.mk (Kd.R_below HO257.out hb); have n1_ := Aside0.mk (Kd.S_below HO260.out hb); have n2_ := Aside0.mk (Kd.R_below HO263.out hb); have n3_ := Aside0.mk (Kd.R_below HO266.out hb); have n4_ := Aside0.mk (Kd.S_below HO269.out hb); have n5_ := Aside0.mk (Kd.R_below HO272.out hb); have n6_ := Aside0.mk (Kd.R_below HO276.out hb); have n7_ := Aside0.mk (Kd.S_below HO280.out hb); clear HO257; clear HO260; clear HO263; clear HO266; clear HO269; clear HO272; clear HO276; clear HO280; have HO257 := n0_; have HO260 := n1_; have HO263 := n2_; have HO266 := n3_; have HO269 := n4_; have HO272 := n5_; have HO276 := n6_; have HO280 := n7_; clear n0_; clear n1_; clear n2_; clear n3_; clear n4_; clear n5_; clear n6_; clear n7_; have n_ := Aside0.mk (show _ ∧ wx14.heap.size ≤ wx15.heap.size from ⟨HZ.out, hb.size⟩); clear HZ; have HZ := n_; clear n_; have n_ := Aside0.mk (below_step HB.out hb); clear HB; have HB := n_; clear n_ hb))
 go_wp2_with (first | (go_at_call 37; (refine (laws_markByteS.calls k _ (.slice AHO272 t270.length cHO272) t270 1 t287 t288 w _ HB.out (HO272.out) AE15.out).mono ?_); rintro e wx16 ⟨rfl, hy0, hb, hkp⟩; have n0_ := Aside0.mk (Kd.R_kept HO257.out hkp (fun k_ h1_ h2_ => (by have hz_ := HZ.out; have a_ := h1_.1; have b_ := h1_.2.1; have c_ := h2_.1; have d_ := h2_.2.1; clear h1_ h2_; omega))); have n1_ := Aside0.mk (Kd.S_kept HO260.out hkp (fun k_ h1_ h2_ => (by have hz_ := HZ.out; have a_ := h1_.1; have b_ := h1_.2.1; have c_ := h2_.1; have d_ := h2_.2.1; clear h1_ h2_; omega))); have n2_ := Aside0.mk (Kd.R_kept HO263.out hkp (fun k_ h1_ h2_ => (by have hz_ := HZ.out; have a_ := h1_.1; have b_ := h1_.2.1; have c_ := h2_.1; have d_ := h2_.2.1; clear h1_ h2_; omega))); have n3_ := Aside0.mk (Kd.R_kept HO266.out hkp (fun k_ h1_ h2_ => (by have hz_ := HZ.out; have a_ := h1_.1; have b_ := h1_.2.1; have c_ := h2_.1; have d_ := h2_.2.1; clear h1_ h2_; omega))); have n4_ := Aside0.mk (Kd.S_kept HO269.out hkp (fun k_ h1_ h2_ => (by have hz_ := HZ.out; have a_ := h1_.1; have b_ := h1_.2.1; have c_ := h2_.1; have d_ := h2_.2.1; clear h1_ h2_; omega))); have n5_ := Aside0.mk (Kd.R_kept HO276.out hkp (fun k_ h1_ h2_ => (by have hz_ := HZ.out; have a_ := h1_.1; have b_ := h1_.2.1; have c_ := h2_.1; have d_ := h2_.2.1; clear h1_ h2_; omega))); have n6_ := Aside0.mk (Kd.S_kept HO280.out hkp (fun k_ h1_ h2_ => (by have hz_ := HZ.out; have a_ := h1_.1; have b_ := h1_.2.1; have c_ := h2_.1; have d_ := h2_.2.1; clear h1_ h2_; omega))); clear HO257; clear HO260; clear HO263; clear HO266; clear HO269; clear HO276; clear HO280; have HO257 := n0_; have HO260 := n1_; have HO263 := n2_; have HO266 := n3_; have HO269 := n4_; have HO276 := n5_; have HO280 := n6_; clear n0_; clear n1_; clear n2_; clear n3_; clear n4_; clear n5_; clear n6_; have n_ := Aside0.mk (Kd.R_reok rfl hy0 (fun k_ e_ => HO272.out.1 k_ e_)); have hl_ := (Kd.R_reads' n_.out).1; rw [hl_] at n_ ⊢; clear hl_ HO272; have HO272 := n_; clear n_; have n_ := Aside0.mk (show _ ∧ wx15.heap.size ≤ wx16.heap.size from ⟨HZ.out, hkp.1⟩); clear HZ; have HZ := n_; clear n_; have n_ := Aside0.mk hb; clear HB; have HB := n_; clear n_ hb hkp))
 go_wp2_with (first | (go_at_call 38; (refine (laws_heldByteS.calls k _ _ t288 1 t289 _ ((Kd.R_reads' HO272.out).2.2) ((Kd.R_reads' HO272.out).2.1) AE16.out).mono ?_); rintro e wx17 ⟨rfl, hd_⟩; have hb := hd_.below; clear hd_; have n0_ := Aside0.mk (Kd.R_below HO257.out hb); have n1_ := Aside0.mk (Kd.S_below HO260.out hb); have n2_ := Aside0.mk (Kd.R_below HO263.out hb); have n3_ := Aside0.mk (Kd.R_below HO266.out hb); have n4_ := Aside0.mk (Kd.S_below HO269.out hb); have n5_ := Aside0.mk (Kd.R_below HO272.out hb); have n6_ := Aside0.mk (Kd.R_below HO276.out hb); have n7_ := Aside0.mk (Kd.S_below HO280.out hb); clear HO257; clear HO260; clear HO263; clear HO266; clear HO269; clear HO272; clear HO276; clear HO280; have HO257 := n0_; have HO260 := n1_; have HO263 := n2_; have HO266 := n3_; have HO269 := n4_; have HO272 := n5_; have HO276 := n6_; have HO280 := n7_; clear n0_; clear n1_; clear n2_; clear n3_; clear n4_; clear n5_; clear n6_; clear n7_; have n_ := Aside0.mk (show _ ∧ wx16.heap.size ≤ wx17.heap.size from ⟨HZ.out, hb.size⟩); clear HZ; have HZ := n_; clear n_; have n_ := Aside0.mk (below_step HB.out hb); clear HB; have HB := n_; clear n_ hb))
 go_wp2_with (first | (go_at_call 25; (refine (laws_toIntS.calls k _ _ l0 t290 _ ((Kd.C_below HR0.out HB.out)) (HC0.out) AE17.out).mono ?_); rintro e wx18 ⟨v291, rfl, ho0, hb⟩; obtain ⟨AHO292, cHO292, e_⟩ := Kd.R_slice ho0; subst e_; have n0_ := Aside0.mk (Kd.R_below HO257.out hb); have n1_ := Aside0.mk (Kd.S_below HO260.out hb); have n2_ := Aside0.mk (Kd.R_below HO263.out hb); have n3_ := Aside0.mk (Kd.R_below HO266.out hb); have n4_ := Aside0.mk (Kd.S_below HO269.out hb); have n5_ := Aside0.mk (Kd.R_below HO272.out hb); have n6_ := Aside0.mk (Kd.R_below HO276.out hb); have n7_ := Aside0.mk (Kd.S_below HO280.out hb); clear HO257; clear HO260; clear HO263; clear HO266; clear HO269; clear HO272; clear HO276; clear HO280; have HO257 := n0_; have HO260 := n1_; have HO263 := n2_; have HO266 := n3_; have HO269 := n4_; have HO272 := n5_; have HO276 := n6_; have HO280 := n7_; clear n0_; clear n1_; clear n2_; clear n3_; clear n4_; clear n5_; clear n6_; clear n7_; have HO292 := Aside0.mk (iv_O rfl ho0 HB.out.size); clear ho0; have n_ := Aside0.mk (show _ ∧ wx17.heap.size ≤ wx18.heap.size from ⟨HZ.out, hb.size⟩); clear HZ; have HZ := n_; clear n_; have n_ := Aside0.mk (below_step HB.out hb); clear HB; have HB := n_; clear n_ hb))
 go_wp2_with (first | (go_at_call 31; (refine (laws_toHartS.calls k _ _ l1 t293 _ ((Kd.C_below HR1.out HB.out)) (HC1.out) AE18.out).mono ?_); rintro e wx19 ⟨v294, rfl, ho0, hb⟩; obtain ⟨AHO295, cHO295, e_⟩ := Kd.S_slice ho0; subst e_; have n0_ := Aside0.mk (Kd.R_below HO257.out hb); have n1_ := Aside0.mk (Kd.S_below HO260.out hb); have n2_ := Aside0.mk (Kd.R_below HO263.out hb); have n3_ := Aside0.mk (Kd.R_below HO266.out hb); have n4_ := Aside0.mk (Kd.S_below HO269.out hb); have n5_ := Aside0.mk (Kd.R_below HO272.out hb); have n6_ := Aside0.mk (Kd.R_below HO276.out hb); have n7_ := Aside0.mk (Kd.S_below HO280.out hb); have n8_ := Aside0.mk (Kd.R_below HO292.out hb); clear HO257; clear HO260; clear HO263; clear HO266; clear HO269; clear HO272; clear HO276; clear HO280; clear HO292; have HO257 := n0_; have HO260 := n1_; have HO263 := n2_; have HO266 := n3_; have HO269 := n4_; have HO272 := n5_; have HO276 := n6_; have HO280 := n7_; have HO292 := n8_; clear n0_; clear n1_; clear n2_; clear n3_; clear n4_; clear n5_; clear n6_; clear n7_; clear n8_; have HO295 := Aside0.mk (iv_S ho0 HB.out.size); clear ho0; have n_ := Aside0.mk (show _ ∧ wx18.heap.size ≤ wx19.heap.size from ⟨HZ.out, hb.size⟩); clear HZ; have HZ := n_; clear n_; have n_ := Aside0.mk (below_step HB.out hb); clear HB; have HB := n_; clear n_ hb))
 go_wp2_with (first | (go_at_call 32; (refine (impl_SaveBytes.calls k _ _ t290 _ _ t293 t296 _ ((Kd.R_reads' HO292.out).2.2) ((Kd.R_reads' HO292.out).2.1) ((Kd.S_reads' HO295.out).2.2) ((Kd.S_reads' HO295.out).2.1) AE19.out).mono ?_); rintro e wx20 ⟨v297, rfl, ho0, hb⟩; obtain ⟨AHO298, cHO298, e_⟩ := Kd.R_slice ho0; subst e_; have n0_ := Aside0.mk (Kd.R_below HO257.out hb); have n1_ := Aside0.mk (Kd.S_below HO260.out hb); have n2_ := Aside0.mk (Kd.R_below HO263.out hb); have n3_ := Aside0.mk (Kd.R_below HO266.out hb); have n4_ := Aside0.mk (Kd.S_below HO269.out hb); have n5_ := Aside0.mk (Kd.R_below HO272.out hb); have n6_ := Aside0.mk (Kd.R_below HO276.out hb); have n7_ := Aside0.mk (Kd.S_below HO280.out hb); have n8_ := Aside0.mk (Kd.R_below HO292.out hb); have n9_ := Aside0.mk (Kd.S_below HO295.out hb); clear HO257; clear HO260; clear HO263; clear HO266; clear HO269; clear HO272; clear HO276; clear HO280; clear HO292; clear HO295; have HO257 := n0_; have HO260 := n1_; have HO263 := n2_; have HO266 := n3_; have HO269 := n4_; have HO272 := n5_; have HO276 := n6_; have HO280 := n7_; have HO292 := n8_; have HO295 := n9_; clear n0_; clear n1_; clear n2_; clear n3_; clear n4_; clear n5_; clear n6_; clear n7_; clear n8_; clear n9_; have HO298 := Aside0.mk (iv_O rfl ho0 HB.out.size); clear ho0; have n_ := Aside0.mk (show _ ∧ wx19.heap.size ≤ wx20.heap.size from ⟨HZ.out, hb.size⟩); clear HZ; have HZ := n_; clear n_; have n_ := Aside0.mk (below_step HB.out hb); clear HB; have HB := n_; clear n_ hb))
 go_wp2_with (first | (go_at_call 33; (refine (laws_eqByteS.calls k _ _ t296 _ _ t261 _ _ ((Kd.R_reads' HO298.out).2.2) ((Kd.R_reads' HO298.out).2.1) ((Kd.R_reads' HO263.out).2.2) ((Kd.R_reads' HO263.out).2.1) AE20.out).mono ?_); rintro e wx21 ⟨rfl, hd_⟩; have hb := hd_.below; clear hd_; have n0_ := Aside0.mk (Kd.R_below HO257.out hb); have n1_ := Aside0.mk (Kd.S_below HO260.out hb); have n2_ := Aside0.mk (Kd.R_below HO263.out hb); have n3_ := Aside0.mk (Kd.R_below HO266.out hb); have n4_ := Aside0.mk (Kd.S_below HO269.out hb); have n5_ := Aside0.mk (Kd.R_below HO272.out hb); have n6_ := Aside0.mk (Kd.R_below HO276.out hb); have n7_ := Aside0.mk (Kd.S_below HO280.out hb); have n8_ := Aside0.mk (Kd.R_below HO292.out hb); have n9_ := Aside0.mk (Kd.S_below HO295.out hb); have n10_ := Aside0.mk (Kd.R_below HO298.out hb); clear HO257; clear HO260; clear HO263; clear HO266; clear HO269; clear HO272; clear HO276; clear HO280; clear HO292; clear HO295; clear HO298; have HO257 := n0_; have HO260 := n1_; have HO263 := n2_; have HO266 := n3_; have HO269 := n4_; have HO272 := n5_; have HO276 := n6_; have HO280 := n7_; have HO292 := n8_; have HO295 := n9_; have HO298 := n10_; clear n0_; clear n1_; clear n2_; clear n3_; clear n4_; clear n5_; clear n6_; clear n7_; clear n8_; clear n9_; clear n10_; have n_ := Aside0.mk (show _ ∧ wx20.heap.size ≤ wx21.heap.size from ⟨HZ.out, hb.size⟩); clear HZ; have HZ := n_; clear n_; have n_ := Aside0.mk (below_step HB.out hb); clear HB; have HB := n_; clear n_ hb))
 go_wp2_with (first | (go_at_call 38; (refine (laws_heldByteS.calls k _ _ t288 1 t300 _ ((Kd.R_reads' HO272.out).2.2) ((Kd.R_reads' HO272.out).2.1) AE21.out).mono ?_); rintro e wx22 ⟨rfl, hd_⟩; have hb := hd_.below; clear hd_; have n0_ := Aside0.mk (Kd.R_below HO257.out hb); have n1_ := Aside0.mk (Kd.S_below HO260.out hb); have n2_ := Aside0.mk (Kd.R_below HO263.out hb); have n3_ := Aside0.mk (Kd.R_below HO266.out hb); have n4_ := Aside0.mk (Kd.S_below HO269.out hb); have n5_ := Aside0.mk (Kd.R_below HO272.out hb); have n6_ := Aside0.mk (Kd.R_below HO276.out hb); have n7_ := Aside0.mk (Kd.S_below HO280.out hb); have n8_ := Aside0.mk (Kd.R_below HO292.out hb); have n9_ := Aside0.mk (Kd.S_below HO295.out hb); have n10_ := Aside0.mk (Kd.R_below HO298.out hb); clear HO257; clear HO260; clear HO263; clear HO266; clear HO269; clear HO272; clear HO276; clear HO280; clear HO292; clear HO295; clear HO298; have HO257 := n0_; have HO260 := n1_; have HO263 := n2_; have HO266 := n3_; have HO269 := n4_; have HO272 := n5_; have HO276 := n6_; have HO280 := n7_; have HO292 := n8_; have HO295 := n9_; have HO298 := n10_; clear n0_; clear n1_; clear n2_; clear n3_; clear n4_; clear n5_; clear n6_; clear n7_; clear n8_; clear n9_; clear n10_; have n_ := Aside0.mk (show _ ∧ wx21.heap.size ≤ wx22.heap.size from ⟨HZ.out, hb.size⟩); clear HZ; have HZ := n_; clear n_; have n_ := Aside0.mk (below_step HB.out hb); clear HB; have HB := n_; clear n_ hb))
 go_ret
 exact ⟨rfl, HB.out⟩

/-- THE ONE PURE STATEMENT of laws_FnExactSaveBytes: yours. -/
def laws_FnExactSaveBytes.Pure : Prop := ∀ (l0 : List Int) (l1 : List (S87)), (l0.length ≤ maxLen ∧ ∀ y1_ ∈ l0, (Lit.int .i64 y1_).wf = true) → (l1.length ≤ maxLen ∧ ∀ y2_ ∈ l1, ((y2_.f0.length ≤ maxLen ∧ ∀ y3_ ∈ y2_.f0, (Lit.int .i64 y3_).wf = true) ∧ ((Lit.int .i64 y2_.f1).wf = true ∧ (Lit.int .i64 y2_.f2).wf = true))) → ∃ k, laws_FnExactSaveBytes.f k l0 l1 = some true
theorem laws_FnExactSaveBytes.walk (P : laws_FnExactSaveBytes.Pure) (A0 : Option Addr) (c0 : Nat) (l0 : List Int) (A1 : Option Addr) (c1 : Nat) (l1 : List (S87)) (w : World) (hr0 : Kd.C (Kd.int .i64) w A0 l0.length l0) (hc0 : l0.length ≤ c0) (hr1 : Kd.C k87 w A1 l1.length l1) (hc1 : l1.length ≤ c1) (g0 : (l0.length ≤ maxLen ∧ ∀ y1_ ∈ l0, (Lit.int .i64 y1_).wf = true)) (g1 : (l1.length ≤ maxLen ∧ ∀ y2_ ∈ l1, ((y2_.f0.length ≤ maxLen ∧ ∀ y3_ ∈ y2_.f0, (Lit.int .i64 y3_).wf = true) ∧ ((Lit.int .i64 y2_.f1).wf = true ∧ (Lit.int .i64 y2_.f2).wf = true)))) :
  Calls Try.prog 5 #[.slice A0 l0.length c0, .slice A1 l1.length c1] w fun e w' => e = .returned (.bool true) ∧ Below w.heap.size w w' := by
 obtain ⟨k, h⟩ := P l0 l1 g0 g1
 exact laws_FnExactSaveBytes.calls k A0 c0 l0 A1 c1 l1 true w hr0 hc0 hr1 hc1 rfl h

end Go.Proofs.Ytbbieaglfgipnaa.PFnExactSaveBytes
