-- made by wip/tools/myprint.py out of the seat's translation
import Derived.Test.YtnjdepmlpdjghaaPFnExactAlwaysx0
import Derived.Test.YtnjdepmlpdjghaaPFnExactAlwaysx8
namespace Go.Proofs.Ytnjdepmlpdjghaa.PFnExactAlways
open Go.RowKit Go.Proofs.YtnjdepmlpdjghaaW.PrintWords Go.Proofs.YtnjdepmlpdjghaaW.PrintLast Go.Proofs.YtnjdepmlpdjghaaW.PrintMore
attribute [local go_sem] max2_int min2_int max_two min_two max_three min_three max_four min_four   -- for this text's walks alone
set_option linter.unusedVariables false
set_option linter.unusedSimpArgs false
set_option maxHeartbeats 8000000
set_option maxRecDepth 100000
abbrev zq9_0 : Array Bool := #[false, false, false, false, false, false, false, false, false, false]
abbrev zq9_1 : Array Bool := #[true, false, false, false, false, false, false, false, false, false]
abbrev zq9_2 : Array Bool := #[true, true, false, false, false, false, false, false, false, false]
abbrev zq9_3 : Array Bool := #[true, true, true, false, false, false, false, false, false, false]
abbrev zq9_4 : Array Bool := #[true, true, true, false, true, false, false, false, false, false]
abbrev zq9_5 : Array Bool := #[true, true, true, false, true, true, false, false, false, false]
abbrev zq9_6 : Array Bool := #[true, true, true, false, true, true, true, false, false, false]
abbrev zq9_7 : Array Bool := #[true, true, true, true, true, true, true, false, false, false]
abbrev zq9_8 : Array Bool := #[true, true, true, true, true, true, true, true, false, false]
abbrev zq9_9 : Array Bool := #[true, true, true, true, true, true, true, true, true, false]
abbrev zq9_10 : Array Bool := #[true, true, true, true, true, true, true, true, true, true]

/-! ### laws_toHartS: function 23 -/
def laws_toHartS.l0 : Nat → List (S68) → List (S29) → Int → Option ((List (S29)))
 | 0, _, _, _ => none
 | k + 1, x0, x3, x4 => if x4 < (x0.length : Int) then (if 0 ≤ x4 then ((laws_toHart.f k ((rd_T68 x0 x4).f0) ((rd_T68 x0 x4).f1) ((rd_T68 x0 x4).f2)).bind fun bt273 => (if x4 < (x3.length : Int) then (laws_toHartS.l0 k x0 (x3.set (x4 : Int).toNat (⟨bt273.1, bt273.2.1, bt273.2.2⟩ : S29)) (wrap64 (x4 + 1))) else (none))) else (none)) else (some x3)
def laws_toHartS.f (k : Nat) (l0 : List (S68)) : Option ((List (S29))) := if 0 ≤ (l0.length : Int) then (if ((l0.length : Int) : Int).toNat ≤ 7036874417766 then (laws_toHartS.l0 k l0 (List.replicate ((l0.length : Int) : Int).toNat z29) 0) else (none)) else (none)
theorem laws_toHartS.mono_l : ∀ k, (∀ y0 y1 y2, LeO (laws_toHartS.l0 k y0 y1 y2) (laws_toHartS.l0 (k + 1) y0 y1 y2))
 | 0 => fun _ _ _ r h => by simp [laws_toHartS.l0] at h
 | k + 1 => by
  have ih0 := laws_toHartS.mono_l k
  ·intros
   unfold laws_toHartS.l0
   have mo0 := @laws_toHart.mono
   exact zL
theorem laws_toHartS.mono : ∀ a0 k, LeO (laws_toHartS.f k a0) (laws_toHartS.f (k + 1) a0) := by
 intro a0 k
 have ih0 := laws_toHartS.mono_l k
 unfold laws_toHartS.f
 have mo0 := @laws_toHart.mono
 exact zL
theorem laws_toHartS.calls (k : Nat) (A0 : Option Addr) (c0 : Nat) (l0 : List (S68)) (r : List (S29)) (w : World) (hr0 : Kd.C k68 w A0 l0.length l0) (hc0 : l0.length ≤ c0) (h : laws_toHartS.f k l0 = some r) :
  Calls Try.prog 23 #[.slice A0 l0.length c0] w fun e w' => ∃ v0_ : Value, e = .returned (v0_) ∧ Kd.S k29 29 w' w.heap.size (fun _ => True) v0_ r ∧ Below w.heap.size w w' := by
 have hu68 := Try.underlying68
 have hu29 := Try.underlying29
 have HR0 := zM hr0
 have HC0 := zM hc0
 clear hr0 hc0
 have HB := zM (Below.refl w.heap.size w)
 unfold laws_toHartS.f at h
 have H := h
 clear h
 by_cases c2 : 0 ≤ (l0.length : Int)
 rotate_left
 ·rw [if_neg c2] at H
  exact absurd H (by simp)
 rw [if_pos c2] at H
 have c2b0 := eq_true c2
 have c2b1 : decide (0 ≤ (l0.length : Int)) = true := decide_eq_true c2
 clear c2
 by_cases c3 : ((l0.length : Int) : Int).toNat ≤ 7036874417766
 rotate_left
 ·rw [if_neg c3] at H
  exact absurd H (by simp)
 rw [if_pos c3] at H
 have c3b0 := eq_true c3
 have c3b1 : decide (((l0.length : Int) : Int).toNat ≤ 7036874417766) = true := decide_eq_true c3
 clear c3
 obtain ⟨y269, hy269⟩ : ∃ y_ : List (S29), y_ = (List.replicate ((l0.length : Int) : Int).toNat z29) := ⟨_, rfl⟩
 replace H : (laws_toHartS.l0 k l0 y269 0) = some r := by first | (rw [hy269]; with_reducible exact H) | (have H2_ := (Option.bind_some _ _).symm.trans H; rw [hy269]; with_reducible exact H2_) | (have H2_ := (Option.bind_some _ _).symm.trans H; with_reducible exact H2_) | with_reducible exact H | (rw [hy269]; exact H) | exact H
 have Ny269 := zM hy269
 clear hy269
 have H' := zM H
 clear H
 go_enter Try.func23, Try.ntmps23
 go_wp2_with (first | ((with_reducible refine gate_dst (N := 7) rfl ?_); refine Kd.S_make k29 _ 29 rfl (N := 7) rfl 30 _ _ rfl (l0.length : Int) rfl rfl Try.underlying30 (.agg #[(.slice none 0 0), (.int .i64 0), (.int .i64 0)]) 40 info29 rfl (by decide) (by omega) z29 (ok := fun _ => True) (okp := fun _ => True) (k29_mkM _ _ _ z29 (Kd.R_nil _ _ _ _ _)) (fun _ hk => hk) trivial zA (Nat.le_trans (Nat.mul_le_mul_right _ (zA : (l0.length : Int).toNat ≤ 7036874417766)) (by omega)) (Below.refl _ _) (Nat.le_refl _) ?_; intro v270 w4 ho5 hb hg_ hnew_; clear hg_ hnew_; (first | rw [← Ny269.1] at ho5 | (simp only [Int.reduceToNat] at ho5; rw [← Ny269.1] at ho5)); have HO271 := zM (Kd.S_lower ho5 (below_size zB0)); replace HB := zM (below_step zB0 hb); clear hb ho5))
 go_loopg [4] k (fun kq v4 w' => ∃ (x3_1 : List (S29)) (x4_1 : Int), v4 = .int .i64 x4_1 ∧ Aside0 (laws_toHartS.l0 kq l0 x3_1 x4_1 = some r) ∧ Aside0 (kq ≤ k) ∧ Aside0 (Kd.S k29 29 w' w.heap.size (fun _ => True) v270 x3_1) ∧ Aside0 (Below w.heap.size w w'))
 case atStart => exact ⟨(y269), (0), zJJ, H', ⟨Nat.le_refl _⟩, ⟨zS HO271.1⟩, ⟨zB0⟩⟩
 case round =>
  clear H'
  try clear c2
  try clear c2b0
  try clear c2b1
  try clear p2
  try clear c3
  try clear c3b0
  try clear c3b1
  obtain ⟨x3_1, x4_1, rfl, HA, HK1, HO_3, HB⟩ := hrel
  cases gk with
  | zero => exact absurd HA.1 (by simp [laws_toHartS.l0])
  | succ k1 =>
   have H := HA.1
   clear HA
   simp only [laws_toHartS.l0] at H
   by_cases c6 : x4_1 < (l0.length : Int)
   rotate_left
   ·rw [if_neg c6] at H
    have c6b0 := decide_eq_false c6
    clear c6
    obtain rfl := Option.some.inj H
    go_wp2
    go_ret
    exact ⟨_, zE, zS HO_3.1, zB0⟩
   rw [if_pos c6] at H
   have c6b0 := decide_eq_true c6
   clear c6
   by_cases c7 : 0 ≤ x4_1
   rotate_left
   ·rw [if_neg c7] at H
    exact absurd H (by simp)
   rw [if_pos c7] at H
   have c7b0 := decide_eq_true c7
   clear c7
   replace H := zO H
   obtain ⟨⟨t273, t276, t277⟩, A8, H⟩ := H
   try dsimp only at H
   by_cases c9 : x4_1 < (x3_1.length : Int)
   rotate_left
   ·rw [if_neg c9] at H
    exact absurd H (by simp)
   rw [if_pos c9] at H
   have c9b0 := decide_eq_true c9
   clear c9
   obtain ⟨y278, hy278⟩ : ∃ y_ : List (S29), y_ = (x3_1.set (x4_1 : Int).toNat (⟨t273, t276, t277⟩ : S29)) := ⟨_, rfl⟩
   replace H : (laws_toHartS.l0 k1 l0 y278 (wrap64 (x4_1 + 1))) = some r := by first | (rw [hy278]; with_reducible exact H) | (have H2_ := (Option.bind_some _ _).symm.trans H; rw [hy278]; with_reducible exact H2_) | (have H2_ := (Option.bind_some _ _).symm.trans H; with_reducible exact H2_) | with_reducible exact H | (rw [hy278]; exact H) | exact H
   have Ny278 := zM hy278
   clear hy278
   have H' := zM H
   clear H
   have p272 : 0 ≤ (x4_1 : Int) := zA
   have q272 : x4_1 < (l0.length : Int) := zA
   obtain ⟨ad272, A272_0, c272_0, e272, hx272_0, hx272_1, hx272_2, hl272_0, hi272_0⟩ := at_T68 HR0.1 x4_1 p272 q272
   cases e272
   replace hx272_0 := (HB.1.cell (World.block_lt_of_cell? w _ hx272_0)).trans hx272_0
   replace hx272_1 := (HB.1.cell (World.block_lt_of_cell? w _ hx272_1)).trans hx272_1
   replace hx272_2 := (HB.1.cell (World.block_lt_of_cell? w _ hx272_2)).trans hx272_2
   have HR272_0 := zM hi272_0
   have HC272_0 := zM hl272_0
   clear hi272_0 hl272_0
   replace p272 := eq_true p272
   replace q272 := eq_true q272
   go_wp2_with (first | ((with_reducible refine gate_callee (f := 55) rfl ?_); refine goesL_ (some 20) rfl rfl Try.func55 (by kernel_rfl) rfl #[.agg #[.slice A272_0 ((rd_T68 l0 x4_1).f0).length c272_0, .int .i64 ((rd_T68 l0 x4_1).f1), .int .i64 ((rd_T68 l0 x4_1).f2)]] rfl zT ?_; (with_reducible refine (laws_toHart.calls k1 _ _ ((rd_T68 l0 x4_1).f0) ((rd_T68 l0 x4_1).f1) ((rd_T68 l0 x4_1).f2) t273 t276 t277 _ ?side1 ?side2 A8.1).mono ?_); (case side1 => exact zC (Kd.C_below HR272_0.1 HB.1)); (case side2 => exact HC272_0.1); rintro e w11 ⟨v274, rfl, ho0, hb⟩; refine ⟨_, rfl, ?_⟩; replace HO_3 := zM (Kd.S_elder' (zS HO_3.1) (Kd.R_base ho0) hb); have HO275 := zM (Kd.R_lower ho0 (below_size zB0)); replace HB := zM (below_step zB0 hb); clear hb ho0; have p10 : 0 ≤ (x4_1 : Int) := zA; have q10 : (x4_1 : Int) < ((x3_1.length : Int) : Int) := zA; obtain ⟨go10, co10, eo10, gb10, gl10, cl10, HG10⟩ := Kd.S_form HO_3.1 (by omega); (first | cases eo10 | (injection eo10 with ea_ en_ ec_; (first | subst ea_ | (injection ea_ with ea_; subst ea_)); subst ec_; clear en_)); have GB10 := zM gb10; have GG10 := zM HG10; clear gb10 gl10 HG10; obtain ⟨_, ce10, hcl10, hM10, hcc10, hfr10, _, _⟩ := Kd.S_elem HO_3.1 z29 (x4_1 : Int) p10 q10; obtain ⟨ve10_0, rfl, ge10_0⟩ := k29_openM hM10; have hx10_0 : w11.cell? ⟨go10, (x4_1 : Int).toNat * 3, none⟩ = some (ve10_0) := hcc10 0 _ rfl; have hx10_1 : w11.cell? ⟨go10, (x4_1 : Int).toNat * 3 + 1, none⟩ = some (.int .i64 ((rd_T29 x3_1 x4_1).f1)) := hcc10 1 _ rfl; have hx10_2 : w11.cell? ⟨go10, (x4_1 : Int).toNat * 3 + 2, none⟩ = some (.int .i64 ((rd_T29 x3_1 x4_1).f2)) := hcc10 2 _ rfl; have hf10_0 : w11.frozen? ⟨go10, (x4_1 : Int).toNat * 3, none⟩ = false := hfr10 0; have hf10_1 : w11.frozen? ⟨go10, (x4_1 : Int).toNat * 3 + 1, none⟩ = false := hfr10 1; have hf10_2 : w11.frozen? ⟨go10, (x4_1 : Int).toNat * 3 + 2, none⟩ = false := hfr10 2; clear hcl10 hcc10 hfr10 hM10; replace p10 := eq_true p10; replace q10 := eq_true q10; obtain ⟨Ao12, co12, eo12⟩ := Kd.R_slice HO275.1; subst eo12; have n_ := zM (Kd.S_mono (ok' := (fun k_ => some k_ ≠ (.slice Ao12 t273.length co12 : Value).ownBlock)) HO_3.1 (fun k_ hk => hk.2)); clear HO_3; have HO_3 := n_; clear n_; have HX13 := zM (show Kd.S k29 29 w11 w.heap.size (fun k_ => ((fun _ => True)) k_ ∧ ¬ ((fun k_ => some k_ = (.slice Ao12 t273.length co12 : Value).ownBlock)) k_) (.slice (some ⟨go10, 0, none⟩) x3_1.length co10) x3_1 from (by refine zrS ?_; exact Kd.S_mono HO_3.1 (fun k_ hk => ⟨trivial, fun e_ => hk e_⟩))); obtain ⟨oki13, ce13, hcl13, hM13, hcc13, hfr13, hoki13, hH13⟩ := Kd.S_elem HX13.out z29 (x4_1 : Int) zA (by have h_ : (x4_1 : Int) < ((x3_1.length : Int) : Int) := zA; first | exact h_ | (have e_ := (Kd.S_reads' HO_3.1).1; omega) | simpa using h_); obtain ⟨ve13_0, rfl, ge13_0⟩ := k29_openM hM13; have HP13 := Kd.S_seg hH13 zA (by have h_ : (x4_1 : Int) < ((x3_1.length : Int) : Int) := zA; first | exact h_ | (have e_ := (Kd.S_reads' HO_3.1).1; omega) | simpa using h_) (seg := [.slice Ao12 t273.length co12, .int .i64 t276, .int .i64 t277]) (j := 0) (show 3 ≤ 3 from by decide) (x' := (⟨t273, t276, t277⟩ : S29)) (k29_mkM _ _ _ (⟨t273, t276, t277⟩ : S29) (Kd.R_mono (Kd.R_tight rfl (Kd.R_mono (ok' := fun k_ => ((fun _ => True)) k_ ∧ k_ ≠ go10) (Kd.R_apart' (HO275.1) (Kd.S_typed HO_3.1) (by decide)) (fun k_ hk => ⟨trivial, fun e_ => (hk.2) (by rw [e_]; rfl)⟩))) (fun _ h_ => Or.inr (h_)))) (fun _ hk => hk) (fun k_ hk_ => ((Kd.R_mono (ok' := fun k_ => ((fun _ => True)) k_ ∧ k_ ≠ go10) (Kd.R_apart' (HO275.1) (Kd.S_typed HO_3.1) (by decide)) (fun k_ hk => ⟨trivial, fun e_ => (hk.2) (by rw [e_]; rfl)⟩))).1 k_ hk_.symm); have hx13_0 := hcc13 0 _ rfl; (try simp only [show (k29).sz = 3 from rfl, Nat.mul_one, Nat.add_zero] at hx13_0); have hf13_0 := hfr13 0; (try simp only [show (k29).sz = 3 from rfl, Nat.mul_one, Nat.add_zero] at hf13_0); have hx13_1 := hcc13 1 _ rfl; (try simp only [show (k29).sz = 3 from rfl, Nat.mul_one, Nat.add_zero] at hx13_1); have hf13_1 := hfr13 1; (try simp only [show (k29).sz = 3 from rfl, Nat.mul_one, Nat.add_zero] at hf13_1); have hx13_2 := hcc13 2 _ rfl; (try simp only [show (k29).sz = 3 from rfl, Nat.mul_one, Nat.add_zero] at hx13_2); have hf13_2 := hfr13 2; (try simp only [show (k29).sz = 3 from rfl, Nat.mul_one, Nat.add_zero] at hf13_2); clear hcl13 hcc13 hfr13 hM13 hoki13 hH13) | ((with_reducible refine gate_store (t := 29) (p := 21) rfl ?_); refine store_event (t := 29) (p := 21) (v := ?vo_w14) (w1 := (((w11.setCell ⟨go10, (x4_1 : Int).toNat * 3, none⟩ (.slice Ao12 t273.length co12)).setCell ⟨go10, (x4_1 : Int).toNat * 3 + 1, none⟩ (.int .i64 t276)).setCell ⟨go10, (x4_1 : Int).toNat * 3 + 2, none⟩ (.int .i64 t277))) ?hg ?ho ?hn ?hr ?_; (case ho => rfl); (case hg => rfl); (case hn => rfl); (case hr => exact zHH); intro w14 hw; have hg : w11.grownBy w14 (some go10) := (by rw [hw]; exact HP13.2); have hp_ : Kd.S k29 29 w14 w.heap.size (fun _ => True) (.slice (some ⟨go10, 0, none⟩) x3_1.length co10) y278 := (by rw [hw, Ny278.1]; exact HP13.1); clear HP13; replace HO_3 := zM hp_; replace HB := zM ((by rw [hw]; exact below_set (below_set (below_set (HB.1) GB10.1) GB10.1) GB10.1 : Below w.heap.size w w14)); clear HO275; clear hg hw hp_))
   go_roundg k1
   case measure => have := HK1.1; omega
   case rel => exact ⟨(y278), (wrap64 (x4_1 + 1)), zJJ, H', ⟨by have := HK1.1; omega⟩, ⟨zS HO_3.1⟩, ⟨zB0⟩⟩

/-! ### laws_eqIntS: function 26 -/
def laws_eqIntS.l0 : Nat → List Int → List Int → Int → Option (Bool)
 | 0, _, _, _ => none
 | k + 1, x0, x1, x5 => if x5 < (x0.length : Int) then (if 0 ≤ x5 then (if x5 < (x1.length : Int) then (if (rd x0 x5) = (rd x1 x5) then (laws_eqIntS.l0 k x0 x1 (wrap64 (x5 + 1))) else (some false)) else (none)) else (none)) else (some true)
def laws_eqIntS.f (k : Nat) (l0 : List Int) (l1 : List Int) : Option (Bool) := if (l0.length : Int) = (l1.length : Int) then (laws_eqIntS.l0 k l0 l1 0) else (some false)
theorem laws_eqIntS.mono_l : ∀ k, (∀ y0 y1 y2, LeO (laws_eqIntS.l0 k y0 y1 y2) (laws_eqIntS.l0 (k + 1) y0 y1 y2))
 | 0 => fun _ _ _ r h => by simp [laws_eqIntS.l0] at h
 | k + 1 => by
  have ih0 := laws_eqIntS.mono_l k
  ·intros
   unfold laws_eqIntS.l0
   exact zL
theorem laws_eqIntS.mono : ∀ a0 a1 k, LeO (laws_eqIntS.f k a0 a1) (laws_eqIntS.f (k + 1) a0 a1) := by
 intro a0 a1 k
 have ih0 := laws_eqIntS.mono_l k
 unfold laws_eqIntS.f
 exact zL
theorem laws_eqIntS.calls (k : Nat) (A0 : Option Addr) (c0 : Nat) (l0 : List Int) (A1 : Option Addr) (c1 : Nat) (l1 : List Int) (r : Bool) (w : World) (hr0 : Kd.C (Kd.int .i64) w A0 l0.length l0) (hc0 : l0.length ≤ c0) (hr1 : Kd.C (Kd.int .i64) w A1 l1.length l1) (hc1 : l1.length ≤ c1) (h : laws_eqIntS.f k l0 l1 = some r) :
  Calls Try.prog 26 #[.slice A0 l0.length c0, .slice A1 l1.length c1] w fun e w' => e = .returned (.bool r) ∧ Drawn0 w w' := by
 have HR0 := zM hr0
 have HC0 := zM hc0
 clear hr0 hc0
 have HR1 := zM hr1
 have HC1 := zM hc1
 clear hr1 hc1
 unfold laws_eqIntS.f at h
 have H := h
 clear h
 by_cases c3 : (l0.length : Int) = (l1.length : Int)
 rotate_left
 ·rw [if_neg c3] at H
  have c3b0 : ((l0.length : Int) == (l1.length : Int)) = false := beq_eq_false_iff_ne.mpr c3
  have c3b1 : ((l0.length : Int) != (l1.length : Int)) = true := bne_iff_ne.mpr c3
  have c3b2 : (l0.length == l1.length) = false := by first | simpa using c3 | (simp at c3 ⊢; omega)
  obtain rfl := Option.some.inj H
  go_enter Try.func26, Try.ntmps26
  go_wp2
  repeat (go_quiet (fail); try go_wp2)
  go_ret
  exact ⟨zJJ, zDD⟩
 rw [if_pos c3] at H
 have c3b0 : ((l0.length : Int) == (l1.length : Int)) = true := beq_iff_eq.mpr c3
 have c3b1 : ((l0.length : Int) != (l1.length : Int)) = false := bne_eq_false_iff_eq.mpr c3
 have c3b2 : (l0.length == l1.length) = true := by first | simpa using c3 | (simp at c3 ⊢; omega)
 clear c3
 have H' := zM H
 clear H
 go_enter Try.func26, Try.ntmps26
 go_wp2
 repeat (go_quiet (fail); try go_wp2)
 go_loopg [5] k (fun kq v5 w' => ∃ (x5_1 : Int), v5 = .int .i64 x5_1 ∧ Aside0 (laws_eqIntS.l0 kq l0 l1 x5_1 = some r) ∧ Aside0 (kq ≤ k) ∧ Drawn0 w w')
 case atStart => exact ⟨(0), zJJ, H', ⟨Nat.le_refl _⟩, zDD⟩
 case round =>
  clear H'
  try clear c1
  try clear c2
  try clear p2
  try clear c3
  try clear c3b0
  try clear c3b1
  try clear c3b2
  obtain ⟨x5_1, rfl, HA, HK1, ⟨m1, rfl⟩⟩ := hrel
  cases gk with
  | zero => exact absurd HA.1 (by simp [laws_eqIntS.l0])
  | succ k1 =>
   have H := HA.1
   clear HA
   simp only [laws_eqIntS.l0] at H
   by_cases c4 : x5_1 < (l0.length : Int)
   rotate_left
   ·rw [if_neg c4] at H
    have c4b0 := decide_eq_false c4
    clear c4
    obtain rfl := Option.some.inj H
    go_wp2
    repeat (go_quiet (fail); try go_wp2)
    go_ret
    exact ⟨zJJ, zDD⟩
   rw [if_pos c4] at H
   have c4b0 := decide_eq_true c4
   clear c4
   by_cases c5 : 0 ≤ x5_1
   rotate_left
   ·rw [if_neg c5] at H
    exact absurd H (by simp)
   rw [if_pos c5] at H
   have c5b0 := decide_eq_true c5
   clear c5
   by_cases c6 : x5_1 < (l1.length : Int)
   rotate_left
   ·rw [if_neg c6] at H
    exact absurd H (by simp)
   rw [if_pos c6] at H
   have c6b0 := decide_eq_true c6
   clear c6
   by_cases c7 : (rd l0 x5_1) = (rd l1 x5_1)
   rotate_left
   ·rw [if_neg c7] at H
    have c7b0 : ((rd l0 x5_1) == (rd l1 x5_1)) = false := beq_eq_false_iff_ne.mpr c7
    have c7b1 : ((rd l0 x5_1) != (rd l1 x5_1)) = true := bne_iff_ne.mpr c7
    obtain rfl := Option.some.inj H
    have p279 : 0 ≤ (x5_1 : Int) := zA
    have q279 : x5_1 < (l0.length : Int) := zA
    obtain ⟨ad279, e279, hx279_0⟩ := Kd.at_int HR0.1 x5_1 p279 q279
    cases e279
    replace p279 := eq_true p279
    replace q279 := eq_true q279
    have p280 : 0 ≤ (x5_1 : Int) := zA
    have q280 : x5_1 < (l1.length : Int) := zA
    obtain ⟨ad280, e280, hx280_0⟩ := Kd.at_int HR1.1 x5_1 p280 q280
    cases e280
    replace p280 := eq_true p280
    replace q280 := eq_true q280
    go_wp2
    repeat (go_quiet (fail); try go_wp2)
    go_ret
    exact ⟨zJJ, zDD⟩
   rw [if_pos c7] at H
   have c7b0 : ((rd l0 x5_1) == (rd l1 x5_1)) = true := beq_iff_eq.mpr c7
   have c7b1 : ((rd l0 x5_1) != (rd l1 x5_1)) = false := bne_eq_false_iff_eq.mpr c7
   clear c7
   have H' := zM H
   clear H
   have p279 : 0 ≤ (x5_1 : Int) := zA
   have q279 : x5_1 < (l0.length : Int) := zA
   obtain ⟨ad279, e279, hx279_0⟩ := Kd.at_int HR0.1 x5_1 p279 q279
   cases e279
   replace p279 := eq_true p279
   replace q279 := eq_true q279
   have p280 : 0 ≤ (x5_1 : Int) := zA
   have q280 : x5_1 < (l1.length : Int) := zA
   obtain ⟨ad280, e280, hx280_0⟩ := Kd.at_int HR1.1 x5_1 p280 q280
   cases e280
   replace p280 := eq_true p280
   replace q280 := eq_true q280
   go_wp2
   repeat (go_quiet (fail); try go_wp2)
   go_roundg k1
   case measure => have := HK1.1; omega
   case rel => exact ⟨(wrap64 (x5_1 + 1)), zJJ, H', ⟨by have := HK1.1; omega⟩, zDD⟩

/-! ### laws_eqHart: function 60 -/
def laws_eqHart.f (k : Nat) (l0_0 : List Int) (a0_1 : Int) (a0_2 : Int) (l1_0 : List Int) (a1_1 : Int) (a1_2 : Int) : Option (Bool) := (laws_eqIntS.f k l0_0 l1_0).bind fun t283 => (if t283 = true then (if a0_1 = a1_1 then (if a0_2 = a1_2 then (some true) else (some false)) else (some false)) else (some false))
theorem laws_eqHart.mono : ∀ a0 a1 a2 a3 a4 a5 k, LeO (laws_eqHart.f k a0 a1 a2 a3 a4 a5) (laws_eqHart.f (k + 1) a0 a1 a2 a3 a4 a5) := by
 intro a0 a1 a2 a3 a4 a5 k
 unfold laws_eqHart.f
 have mo0 := @laws_eqIntS.mono
 exact zL
theorem laws_eqHart.calls (k : Nat) (A0_0 : Option Addr) (c0_0 : Nat) (l0_0 : List Int) (a0_1 : Int) (a0_2 : Int) (A1_0 : Option Addr) (c1_0 : Nat) (l1_0 : List Int) (a1_1 : Int) (a1_2 : Int) (r : Bool) (w : World) (hr0_0 : Kd.C (Kd.int .i64) w A0_0 l0_0.length l0_0) (hc0_0 : l0_0.length ≤ c0_0) (hr1_0 : Kd.C (Kd.int .i64) w A1_0 l1_0.length l1_0) (hc1_0 : l1_0.length ≤ c1_0) (h : laws_eqHart.f k l0_0 a0_1 a0_2 l1_0 a1_1 a1_2 = some r) :
  Calls Try.prog 60 #[.agg #[.slice A0_0 l0_0.length c0_0, .int .i64 a0_1, .int .i64 a0_2], .agg #[.slice A1_0 l1_0.length c1_0, .int .i64 a1_1, .int .i64 a1_2]] w fun e w' => e = .returned (.bool r) ∧ Below w.heap.size w w' := by
 have hu29 := Try.underlying29
 have HR0_0 := zM hr0_0
 have HC0_0 := zM hc0_0
 clear hr0_0 hc0_0
 have HR1_0 := zM hr1_0
 have HC1_0 := zM hc1_0
 clear hr1_0 hc1_0
 have HB := zM (Below.refl w.heap.size w)
 unfold laws_eqHart.f at h
 have H := h
 clear h
 replace H := zO H
 obtain ⟨t283, A3, H⟩ := H
 by_cases c4 : t283 = true
 rotate_left
 ·replace c4 := Bool.eq_false_iff.mpr c4
  subst c4
  rw [if_neg zF] at H
  obtain rfl := Option.some.inj H
  go_enter Try.func60, Try.ntmps60
  go_wp2_with (first | ((with_reducible refine gate_dst (N := 2) rfl ?_); refine box_event ?hg (N := 2) ?hd (cs := #[.slice A0_0 l0_0.length c0_0, .int .i64 a0_1, .int .i64 a0_2]) (t := 29) ?hr ?_; (case hd => rfl); (case hg => rfl); (case hr => exact zHH); intro gb281 hg w22 hbox hb; have BK281 := zM hbox; have GW281 := zM (zW hg (below_size zB0)); have GE281 := zM (zW hg (below_size zB0)); replace HB := zM (below_step zB0 hb); clear hb hbox hg) | ((with_reducible refine gate_dst (N := 3) rfl ?_); refine box_event ?hg (N := 3) ?hd (cs := #[.slice A1_0 l1_0.length c1_0, .int .i64 a1_1, .int .i64 a1_2]) (t := 29) ?hr ?_; (case hd => rfl); (case hg => rfl); (case hr => exact zHH); intro gb282 hg w23 hbox hb; have BK282 := zM hbox; have GW282 := zM (zW hg (below_size zB29)); have GE282 := zM (zW hg (below_size zB29)); replace HB := zM (below_step zB29 hb); have NB281_282 := zM ((zn BK281.1 hg : gb281 ≠ gb282)); have NB282_281 := zM ((zm BK281.1 hg : gb282 ≠ gb281)); replace BK281 := zM (zb BK281.1 hb); clear hb hbox hg; have hnb24 := NB281_282.1; have hnc24 := NB282_281.1; have hcz25 := zc_3 (w := w23) BK281.1; have hcz26 := zc_3 (w := w23) BK282.1) | ((with_reducible refine gate_callee (f := 26) rfl ?_); refine goesL_ (some 9) rfl rfl Try.func26 (by kernel_rfl) rfl #[.slice A0_0 l0_0.length c0_0, .slice A1_0 l1_0.length c1_0] rfl zT ?_; (with_reducible refine (laws_eqIntS.calls k _ _ l0_0 _ _ l1_0 false _ ?side1 ?side2 ?side3 ?side4 A3.1).mono ?_); (case side1 => exact zC (Kd.C_below HR0_0.1 HB.1)); (case side2 => exact HC0_0.1); (case side3 => exact zC (Kd.C_below HR1_0.1 HB.1)); (case side4 => exact HC1_0.1); rintro e w' ⟨rfl, ⟨nd, rfl⟩⟩; refine ⟨_, rfl, ?_⟩))
  go_ret
  exact ⟨zE, zB30⟩
 subst c4
 rw [if_pos rfl] at H
 by_cases c5 : a0_1 = a1_1
 rotate_left
 ·rw [if_neg c5] at H
  have c5b0 : (a0_1 == a1_1) = false := beq_eq_false_iff_ne.mpr c5
  have c5b1 : (a0_1 != a1_1) = true := bne_iff_ne.mpr c5
  obtain rfl := Option.some.inj H
  go_enter Try.func60, Try.ntmps60
  go_wp2_with (first | ((with_reducible refine gate_dst (N := 2) rfl ?_); refine box_event ?hg (N := 2) ?hd (cs := #[.slice A0_0 l0_0.length c0_0, .int .i64 a0_1, .int .i64 a0_2]) (t := 29) ?hr ?_; (case hd => rfl); (case hg => rfl); (case hr => exact zHH); intro gb281 hg w17 hbox hb; have BK281 := zM hbox; have GW281 := zM (zW hg (below_size zB0)); have GE281 := zM (zW hg (below_size zB0)); replace HB := zM (below_step zB0 hb); clear hb hbox hg) | ((with_reducible refine gate_dst (N := 3) rfl ?_); refine box_event ?hg (N := 3) ?hd (cs := #[.slice A1_0 l1_0.length c1_0, .int .i64 a1_1, .int .i64 a1_2]) (t := 29) ?hr ?_; (case hd => rfl); (case hg => rfl); (case hr => exact zHH); intro gb282 hg w18 hbox hb; have BK282 := zM hbox; have GW282 := zM (zW hg (below_size zB29)); have GE282 := zM (zW hg (below_size zB29)); replace HB := zM (below_step zB29 hb); have NB281_282 := zM ((zn BK281.1 hg : gb281 ≠ gb282)); have NB282_281 := zM ((zm BK281.1 hg : gb282 ≠ gb281)); replace BK281 := zM (zb BK281.1 hb); clear hb hbox hg; have hnb19 := NB281_282.1; have hnc19 := NB282_281.1; have hcz20 := zc_3 (w := w18) BK281.1; have hcz21 := zc_3 (w := w18) BK282.1) | ((with_reducible refine gate_callee (f := 26) rfl ?_); refine goesL_ (some 9) rfl rfl Try.func26 (by kernel_rfl) rfl #[.slice A0_0 l0_0.length c0_0, .slice A1_0 l1_0.length c1_0] rfl zT ?_; (with_reducible refine (laws_eqIntS.calls k _ _ l0_0 _ _ l1_0 true _ ?side1 ?side2 ?side3 ?side4 A3.1).mono ?_); (case side1 => exact zC (Kd.C_below HR0_0.1 HB.1)); (case side2 => exact HC0_0.1); (case side3 => exact zC (Kd.C_below HR1_0.1 HB.1)); (case side4 => exact HC1_0.1); rintro e w' ⟨rfl, ⟨nd, rfl⟩⟩; refine ⟨_, rfl, ?_⟩))
  go_ret
  exact ⟨zE, zB30⟩
 rw [if_pos c5] at H
 have c5b0 : (a0_1 == a1_1) = true := beq_iff_eq.mpr c5
 have c5b1 : (a0_1 != a1_1) = false := bne_eq_false_iff_eq.mpr c5
 clear c5
 by_cases c6 : a0_2 = a1_2
 rotate_left
 ·rw [if_neg c6] at H
  have c6b0 : (a0_2 == a1_2) = false := beq_eq_false_iff_ne.mpr c6
  have c6b1 : (a0_2 != a1_2) = true := bne_iff_ne.mpr c6
  obtain rfl := Option.some.inj H
  go_enter Try.func60, Try.ntmps60
  go_wp2_with (first | ((with_reducible refine gate_dst (N := 2) rfl ?_); refine box_event ?hg (N := 2) ?hd (cs := #[.slice A0_0 l0_0.length c0_0, .int .i64 a0_1, .int .i64 a0_2]) (t := 29) ?hr ?_; (case hd => rfl); (case hg => rfl); (case hr => exact zHH); intro gb281 hg w12 hbox hb; have BK281 := zM hbox; have GW281 := zM (zW hg (below_size zB0)); have GE281 := zM (zW hg (below_size zB0)); replace HB := zM (below_step zB0 hb); clear hb hbox hg) | ((with_reducible refine gate_dst (N := 3) rfl ?_); refine box_event ?hg (N := 3) ?hd (cs := #[.slice A1_0 l1_0.length c1_0, .int .i64 a1_1, .int .i64 a1_2]) (t := 29) ?hr ?_; (case hd => rfl); (case hg => rfl); (case hr => exact zHH); intro gb282 hg w13 hbox hb; have BK282 := zM hbox; have GW282 := zM (zW hg (below_size zB29)); have GE282 := zM (zW hg (below_size zB29)); replace HB := zM (below_step zB29 hb); have NB281_282 := zM ((zn BK281.1 hg : gb281 ≠ gb282)); have NB282_281 := zM ((zm BK281.1 hg : gb282 ≠ gb281)); replace BK281 := zM (zb BK281.1 hb); clear hb hbox hg; have hnb14 := NB281_282.1; have hnc14 := NB282_281.1; have hcz15 := zc_3 (w := w13) BK281.1; have hcz16 := zc_3 (w := w13) BK282.1) | ((with_reducible refine gate_callee (f := 26) rfl ?_); refine goesL_ (some 9) rfl rfl Try.func26 (by kernel_rfl) rfl #[.slice A0_0 l0_0.length c0_0, .slice A1_0 l1_0.length c1_0] rfl zT ?_; (with_reducible refine (laws_eqIntS.calls k _ _ l0_0 _ _ l1_0 true _ ?side1 ?side2 ?side3 ?side4 A3.1).mono ?_); (case side1 => exact zC (Kd.C_below HR0_0.1 HB.1)); (case side2 => exact HC0_0.1); (case side3 => exact zC (Kd.C_below HR1_0.1 HB.1)); (case side4 => exact HC1_0.1); rintro e w' ⟨rfl, ⟨nd, rfl⟩⟩; refine ⟨_, rfl, ?_⟩))
  go_ret
  exact ⟨zE, zB30⟩
 rw [if_pos c6] at H
 have c6b0 : (a0_2 == a1_2) = true := beq_iff_eq.mpr c6
 have c6b1 : (a0_2 != a1_2) = false := bne_eq_false_iff_eq.mpr c6
 clear c6
 obtain rfl := Option.some.inj H
 go_enter Try.func60, Try.ntmps60
 go_wp2_with (first | ((with_reducible refine gate_dst (N := 2) rfl ?_); refine box_event ?hg (N := 2) ?hd (cs := #[.slice A0_0 l0_0.length c0_0, .int .i64 a0_1, .int .i64 a0_2]) (t := 29) ?hr ?_; (case hd => rfl); (case hg => rfl); (case hr => exact zHH); intro gb281 hg w7 hbox hb; have BK281 := zM hbox; have GW281 := zM (zW hg (below_size zB0)); have GE281 := zM (zW hg (below_size zB0)); replace HB := zM (below_step zB0 hb); clear hb hbox hg) | ((with_reducible refine gate_dst (N := 3) rfl ?_); refine box_event ?hg (N := 3) ?hd (cs := #[.slice A1_0 l1_0.length c1_0, .int .i64 a1_1, .int .i64 a1_2]) (t := 29) ?hr ?_; (case hd => rfl); (case hg => rfl); (case hr => exact zHH); intro gb282 hg w8 hbox hb; have BK282 := zM hbox; have GW282 := zM (zW hg (below_size zB29)); have GE282 := zM (zW hg (below_size zB29)); replace HB := zM (below_step zB29 hb); have NB281_282 := zM ((zn BK281.1 hg : gb281 ≠ gb282)); have NB282_281 := zM ((zm BK281.1 hg : gb282 ≠ gb281)); replace BK281 := zM (zb BK281.1 hb); clear hb hbox hg; have hnb9 := NB281_282.1; have hnc9 := NB282_281.1; have hcz10 := zc_3 (w := w8) BK281.1; have hcz11 := zc_3 (w := w8) BK282.1) | ((with_reducible refine gate_callee (f := 26) rfl ?_); refine goesL_ (some 9) rfl rfl Try.func26 (by kernel_rfl) rfl #[.slice A0_0 l0_0.length c0_0, .slice A1_0 l1_0.length c1_0] rfl zT ?_; (with_reducible refine (laws_eqIntS.calls k _ _ l0_0 _ _ l1_0 true _ ?side1 ?side2 ?side3 ?side4 A3.1).mono ?_); (case side1 => exact zC (Kd.C_below HR0_0.1 HB.1)); (case side2 => exact HC0_0.1); (case side3 => exact zC (Kd.C_below HR1_0.1 HB.1)); (case side4 => exact HC1_0.1); rintro e w' ⟨rfl, ⟨nd, rfl⟩⟩; refine ⟨_, rfl, ?_⟩))
 go_ret
 exact ⟨zE, zB30⟩

/-! ### laws_eqHartS: function 27 -/
def laws_eqHartS.l0 : Nat → List (S29) → List (S29) → Int → Option (Bool)
 | 0, _, _, _ => none
 | k + 1, x0, x1, x5 => if x5 < (x0.length : Int) then (if 0 ≤ x5 then (if x5 < (x1.length : Int) then ((laws_eqHart.f k ((rd_T29 x0 x5).f0) ((rd_T29 x0 x5).f1) ((rd_T29 x0 x5).f2) ((rd_T29 x1 x5).f0) ((rd_T29 x1 x5).f1) ((rd_T29 x1 x5).f2)).bind fun t286 => (if t286 = true then (laws_eqHartS.l0 k x0 x1 (wrap64 (x5 + 1))) else (some false))) else (none)) else (none)) else (some true)
def laws_eqHartS.f (k : Nat) (l0 : List (S29)) (l1 : List (S29)) : Option (Bool) := if (l0.length : Int) = (l1.length : Int) then (laws_eqHartS.l0 k l0 l1 0) else (some false)
theorem laws_eqHartS.mono_l : ∀ k, (∀ y0 y1 y2, LeO (laws_eqHartS.l0 k y0 y1 y2) (laws_eqHartS.l0 (k + 1) y0 y1 y2))
 | 0 => fun _ _ _ r h => by simp [laws_eqHartS.l0] at h
 | k + 1 => by
  have ih0 := laws_eqHartS.mono_l k
  ·intros
   unfold laws_eqHartS.l0
   have mo0 := @laws_eqHart.mono
   exact zL
theorem laws_eqHartS.mono : ∀ a0 a1 k, LeO (laws_eqHartS.f k a0 a1) (laws_eqHartS.f (k + 1) a0 a1) := by
 intro a0 a1 k
 have ih0 := laws_eqHartS.mono_l k
 unfold laws_eqHartS.f
 have mo0 := @laws_eqHart.mono
 exact zL
def laws_eqHartS.T6 : Bool × List (List Nat × List Nat) := (true, [([], []), ([], []), ([0, 1], [0, 1]), ([2], [2]), ([], []), ([], []), ([4, 5], [4, 5]), ([6], [6]), ([3, 7], [3, 7]), ([8], [8])])
def laws_eqHartS.B6 : List Nat := [0, 0, 3, 7, 0, 0, 48, 112, 255, 511]
theorem laws_eqHartS.tab6 : rtab .any (opsOf Try.f27 6) = laws_eqHartS.T6 := by kernel_rfl
theorem laws_eqHartS.bits6 : waitsOk laws_eqHartS.T6.2 laws_eqHartS.B6 = true := by kernel_rfl
theorem laws_eqHartS.calls (k : Nat) (A0 : Option Addr) (c0 : Nat) (l0 : List (S29)) (A1 : Option Addr) (c1 : Nat) (l1 : List (S29)) (r : Bool) (w : World) (hr0 : Kd.C k29 w A0 l0.length l0) (hc0 : l0.length ≤ c0) (hr1 : Kd.C k29 w A1 l1.length l1) (hc1 : l1.length ≤ c1) (h : laws_eqHartS.f k l0 l1 = some r) :
  Calls Try.prog 27 #[.slice A0 l0.length c0, .slice A1 l1.length c1] w fun e w' => e = .returned (.bool r) ∧ Below w.heap.size w w' := by
 have hu29 := Try.underlying29
 have HR0 := zM hr0
 have HC0 := zM hc0
 clear hr0 hc0
 have HR1 := zM hr1
 have HC1 := zM hc1
 clear hr1 hc1
 have HB := zM (Below.refl w.heap.size w)
 unfold laws_eqHartS.f at h
 have H := h
 clear h
 by_cases c3 : (l0.length : Int) = (l1.length : Int)
 rotate_left
 ·rw [if_neg c3] at H
  have c3b0 : ((l0.length : Int) == (l1.length : Int)) = false := beq_eq_false_iff_ne.mpr c3
  have c3b1 : ((l0.length : Int) != (l1.length : Int)) = true := bne_iff_ne.mpr c3
  have c3b2 : (l0.length == l1.length) = false := by first | simpa using c3 | (simp at c3 ⊢; omega)
  obtain rfl := Option.some.inj H
  go_enter Try.func27, Try.ntmps27
  go_wp2
  go_ret
  exact ⟨zE, zB0⟩
 rw [if_pos c3] at H
 have c3b0 : ((l0.length : Int) == (l1.length : Int)) = true := beq_iff_eq.mpr c3
 have c3b1 : ((l0.length : Int) != (l1.length : Int)) = false := bne_eq_false_iff_eq.mpr c3
 have c3b2 : (l0.length == l1.length) = true := by first | simpa using c3 | (simp at c3 ⊢; omega)
 clear c3
 have H' := zM H
 clear H
 go_enter Try.func27, Try.ntmps27
 go_wp2
 go_loopg [5] k (fun kq v5 w' => ∃ (x5_1 : Int), v5 = .int .i64 x5_1 ∧ Aside0 (laws_eqHartS.l0 kq l0 l1 x5_1 = some r) ∧ Aside0 (kq ≤ k) ∧ Aside0 (Below w.heap.size w w'))
 case atStart => exact ⟨(0), zJJ, H', ⟨Nat.le_refl _⟩, ⟨zB0⟩⟩
 case round =>
  clear H'
  try clear c1
  try clear c2
  try clear p2
  try clear c3
  try clear c3b0
  try clear c3b1
  try clear c3b2
  obtain ⟨x5_1, rfl, HA, HK1, HB⟩ := hrel
  cases gk with
  | zero => exact absurd HA.1 (by simp [laws_eqHartS.l0])
  | succ k1 =>
   have H := HA.1
   clear HA
   simp only [laws_eqHartS.l0] at H
   by_cases c4 : x5_1 < (l0.length : Int)
   rotate_left
   ·rw [if_neg c4] at H
    have c4b0 := decide_eq_false c4
    clear c4
    obtain rfl := Option.some.inj H
    go_wp2
    go_ret
    exact ⟨zE, zB0⟩
   rw [if_pos c4] at H
   have c4b0 := decide_eq_true c4
   clear c4
   by_cases c5 : 0 ≤ x5_1
   rotate_left
   ·rw [if_neg c5] at H
    exact absurd H (by simp)
   rw [if_pos c5] at H
   have c5b0 := decide_eq_true c5
   clear c5
   by_cases c6 : x5_1 < (l1.length : Int)
   rotate_left
   ·rw [if_neg c6] at H
    exact absurd H (by simp)
   rw [if_pos c6] at H
   have c6b0 := decide_eq_true c6
   clear c6
   replace H := zO H
   obtain ⟨t286, A7, H⟩ := H
   by_cases c8 : t286 = true
   rotate_left
   ·replace c8 := Bool.eq_false_iff.mpr c8
    subst c8
    rw [if_neg zF] at H
    obtain rfl := Option.some.inj H
    try go_wp2
    replace HB := zM (below_drew1 HB.1)
    have p284 : 0 ≤ (x5_1 : Int) := zA
    have q284 : x5_1 < (l0.length : Int) := zA
    obtain ⟨ad284, A284_0, c284_0, e284, hx284_0, hx284_1, hx284_2, hl284_0, hi284_0⟩ := at_T29 HR0.1 x5_1 p284 q284
    have hw284_2 := hx284_2
    have hw284_1 := hx284_1
    have hw284_0 := hx284_0
    cases e284
    replace hx284_0 := (HB.1.cell (World.block_lt_of_cell? w _ hx284_0)).trans hx284_0
    replace hx284_1 := (HB.1.cell (World.block_lt_of_cell? w _ hx284_1)).trans hx284_1
    replace hx284_2 := (HB.1.cell (World.block_lt_of_cell? w _ hx284_2)).trans hx284_2
    have HR284_0 := zM hi284_0
    have HC284_0 := zM hl284_0
    clear hi284_0 hl284_0
    replace p284 := eq_true p284
    replace q284 := eq_true q284
    have p285 : 0 ≤ (x5_1 : Int) := zA
    have q285 : x5_1 < (l1.length : Int) := zA
    obtain ⟨ad285, A285_0, c285_0, e285, hx285_0, hx285_1, hx285_2, hl285_0, hi285_0⟩ := at_T29 HR1.1 x5_1 p285 q285
    have hw285_2 := hx285_2
    have hw285_1 := hx285_1
    have hw285_0 := hx285_0
    cases e285
    replace hx285_0 := (HB.1.cell (World.block_lt_of_cell? w _ hx285_0)).trans hx285_0
    replace hx285_1 := (HB.1.cell (World.block_lt_of_cell? w _ hx285_1)).trans hx285_1
    replace hx285_2 := (HB.1.cell (World.block_lt_of_cell? w _ hx285_2)).trans hx285_2
    have HR285_0 := zM hi285_0
    have HC285_0 := zM hl285_0
    clear hi285_0 hl285_0
    replace p285 := eq_true p285
    replace q285 := eq_true q285
    refine start_ (n := 10) (S := fun w' => w'.cell? (ad284.add ((x5_1).toNat * 3)) = some (.slice A284_0 ((rd_T29 l0 x5_1).f0).length c284_0) ∧ w'.cell? ⟨(ad284.add ((x5_1).toNat * 3)).block, (ad284.add ((x5_1).toNat * 3)).off + 1, none⟩ = some (.int .i64 ((rd_T29 l0 x5_1).f1)) ∧ w'.cell? ⟨(ad284.add ((x5_1).toNat * 3)).block, (ad284.add ((x5_1).toNat * 3)).off + 2, none⟩ = some (.int .i64 ((rd_T29 l0 x5_1).f2)) ∧ w'.cell? (ad285.add ((x5_1).toNat * 3)) = some (.slice A285_0 ((rd_T29 l1 x5_1).f0).length c285_0) ∧ w'.cell? ⟨(ad285.add ((x5_1).toNat * 3)).block, (ad285.add ((x5_1).toNat * 3)).off + 1, none⟩ = some (.int .i64 ((rd_T29 l1 x5_1).f1)) ∧ w'.cell? ⟨(ad285.add ((x5_1).toNat * 3)).block, (ad285.add ((x5_1).toNat * 3)).off + 2, none⟩ = some (.int .i64 ((rd_T29 l1 x5_1).f2))) (ds := []) zq9_0 (by kernel_rfl) rfl rfl ⟨((HB.1.cell (World.block_lt_of_cell? w _ hw284_0)).trans hw284_0), ((HB.1.cell (World.block_lt_of_cell? w _ hw284_1)).trans hw284_1), ((HB.1.cell (World.block_lt_of_cell? w _ hw284_2)).trans hw284_2), ((HB.1.cell (World.block_lt_of_cell? w _ hw285_0)).trans hw285_0), ((HB.1.cell (World.block_lt_of_cell? w _ hw285_1)).trans hw285_1), ((HB.1.cell (World.block_lt_of_cell? w _ hw285_2)).trans hw285_2)⟩ (fun hHeld => ?_); refine with_tabW laws_eqHartS.tab6 laws_eqHartS.bits6 (fun HT_ HW_ => ?_)
    generalize wr.drew = w11 at HB HR284_0 HR285_0 hx284_0 hx284_1 hx284_2 hx285_0 hx285_1 hx285_2 hHeld ⊢
    refine pure_ (i := 0) (N := some 17) (v := ?_) (a' := ?_) zq9_1 rfl rfl (any_of HT_.1 (by kernel_rfl)) (fun _ _ _ h => h) (Or.inl ⟨by rfl, ?_⟩) ?_ ?_
    rotate_left
    ·intro w'
     go_simp
     with_reducible rfl
    rotate_left
    ·exact zV
    refine pure_ (i := 1) (N := some 18) (v := ?_) (a' := ?_) zq9_2 rfl rfl (any_of HT_.1 (by kernel_rfl)) (fun _ _ _ h => h) (Or.inl ⟨by rfl, ?_⟩) ?_ ?_
    rotate_left
    ·intro w'
     go_simp
     with_reducible rfl
    rotate_left
    ·exact zV
    refine pure_ (i := 2) (N := some 19) (v := ?_) (a' := ?_) zq9_3 rfl rfl (any_of HT_.1 (by kernel_rfl)) (fun _ _ _ h => h) (Or.inl ⟨by rfl, ?_⟩) ?_ ?_
    rotate_left
    ·intro w'
     go_simp
     with_reducible rfl
    rotate_left
    ·exact zV
    refine pure_ (i := 4) (N := some 21) (v := ?_) (a' := ?_) zq9_4 rfl rfl (any_of HT_.1 (by kernel_rfl)) (fun _ _ _ h => h) (Or.inl ⟨by rfl, ?_⟩) ?_ ?_
    rotate_left
    ·intro w'
     go_simp
     with_reducible rfl
    rotate_left
    ·exact zV
    refine pure_ (i := 5) (N := some 22) (v := ?_) (a' := ?_) zq9_5 rfl rfl (any_of HT_.1 (by kernel_rfl)) (fun _ _ _ h => h) (Or.inl ⟨by rfl, ?_⟩) ?_ ?_
    rotate_left
    ·intro w'
     go_simp
     with_reducible rfl
    rotate_left
    ·exact zV
    refine pure_ (i := 6) (N := some 23) (v := ?_) (a' := ?_) zq9_6 rfl rfl (any_of HT_.1 (by kernel_rfl)) (fun _ _ _ h => h) (Or.inl ⟨by rfl, ?_⟩) ?_ ?_
    rotate_left
    ·intro w'
     go_simp
     with_reducible rfl
    rotate_left
    ·exact zV
    refine take_ (i := 3) (N := some 20) (v := ?_) (a' := ?_) zq9_7 rfl rfl (take_ofW HT_.1 HW_.1 (by kernel_rfl)) (fun _ _ _ h => h) (Or.inl ⟨by rfl, ?_⟩) hHeld ?_ ?_
    rotate_left
    ·rintro w' ⟨s0, s1, s2, s3, s4, s5⟩
     go_simp
     with_reducible rfl
    rotate_left
    ·exact zV
    refine take_ (i := 7) (N := some 24) (v := ?_) (a' := ?_) zq9_8 rfl rfl (take_ofW HT_.1 HW_.1 (by kernel_rfl)) (fun _ _ _ h => h) (Or.inl ⟨by rfl, ?_⟩) hHeld ?_ ?_
    rotate_left
    ·rintro w' ⟨s0, s1, s2, s3, s4, s5⟩
     go_simp
     with_reducible rfl
    rotate_left
    ·exact zV
    refine one_ (i := 8) (N := some 25) zq9_9 rfl rfl (one_of HT_.1 (by kernel_rfl)) (by decide) (fun K hK => ?_)
    refine goes_ Try.func60 (by kernel_rfl) rfl #[.agg #[.slice A284_0 ((rd_T29 l0 x5_1).f0).length c284_0, .int .i64 ((rd_T29 l0 x5_1).f1), .int .i64 ((rd_T29 l0 x5_1).f2)], .agg #[.slice A285_0 ((rd_T29 l1 x5_1).f0).length c285_0, .int .i64 ((rd_T29 l1 x5_1).f1), .int .i64 ((rd_T29 l1 x5_1).f2)]] (by rfl) rfl rfl zT ?_
    with_reducible refine (laws_eqHart.calls k1 _ _ ((rd_T29 l0 x5_1).f0) ((rd_T29 l0 x5_1).f1) ((rd_T29 l0 x5_1).f2) _ _ ((rd_T29 l1 x5_1).f0) ((rd_T29 l1 x5_1).f1) ((rd_T29 l1 x5_1).f2) false _ ?side1 ?side2 ?side3 ?side4 A7.1).mono ?_
    (case side1 => exact zC (Kd.C_below HR284_0.1 HB.1))
    (case side2 => exact HC284_0.1)
    (case side3 => exact zC (Kd.C_below HR285_0.1 HB.1))
    (case side4 => exact HC285_0.1)
    rintro e w12 ⟨rfl, hb⟩
    refine ⟨_, rfl, ?_⟩
    replace HB := zM (below_step zB0 hb)
    (try clear hb)
    (try clear hb2)
    (try clear hk)
    (try clear hi)
    refine hK.out _ _ ⟨((HB.1.cell (World.block_lt_of_cell? w _ hw284_0)).trans hw284_0), ((HB.1.cell (World.block_lt_of_cell? w _ hw284_1)).trans hw284_1), ((HB.1.cell (World.block_lt_of_cell? w _ hw284_2)).trans hw284_2), ((HB.1.cell (World.block_lt_of_cell? w _ hw285_0)).trans hw285_0), ((HB.1.cell (World.block_lt_of_cell? w _ hw285_1)).trans hw285_1), ((HB.1.cell (World.block_lt_of_cell? w _ hw285_2)).trans hw285_2)⟩ (fun hHeld => ?_)
    clear hK K
    refine norm_ (a' := ?_) ?_ ?_
    rotate_left
    ·show Act.put _ (some 25) _ = _
     simp only [Act.put, List.setIfInBounds_toArray, List.set_cons_zero, List.set_cons_succ, i64_w, i32_w]
     rfl
    refine pure_ (i := 9) (N := some 26) (v := ?_) (a' := ?_) zq9_10 rfl rfl (any_of HT_.1 (by kernel_rfl)) (fun _ _ _ h => h) (Or.inl ⟨by rfl, ?_⟩) ?_ ?_
    rotate_left
    ·intro w'
     go_simp
     with_reducible rfl
    rotate_left
    ·exact zV
    refine done_ (done_of HT_.1 (by kernel_rfl)) ?_
    try go_wp2
    go_ret
    exact ⟨zE, zB0⟩
   subst c8
   rw [if_pos rfl] at H
   have H' := zM H
   clear H
   try go_wp2
   replace HB := zM (below_drew1 HB.1)
   have p284 : 0 ≤ (x5_1 : Int) := zA
   have q284 : x5_1 < (l0.length : Int) := zA
   obtain ⟨ad284, A284_0, c284_0, e284, hx284_0, hx284_1, hx284_2, hl284_0, hi284_0⟩ := at_T29 HR0.1 x5_1 p284 q284
   have hw284_2 := hx284_2
   have hw284_1 := hx284_1
   have hw284_0 := hx284_0
   cases e284
   replace hx284_0 := (HB.1.cell (World.block_lt_of_cell? w _ hx284_0)).trans hx284_0
   replace hx284_1 := (HB.1.cell (World.block_lt_of_cell? w _ hx284_1)).trans hx284_1
   replace hx284_2 := (HB.1.cell (World.block_lt_of_cell? w _ hx284_2)).trans hx284_2
   have HR284_0 := zM hi284_0
   have HC284_0 := zM hl284_0
   clear hi284_0 hl284_0
   replace p284 := eq_true p284
   replace q284 := eq_true q284
   have p285 : 0 ≤ (x5_1 : Int) := zA
   have q285 : x5_1 < (l1.length : Int) := zA
   obtain ⟨ad285, A285_0, c285_0, e285, hx285_0, hx285_1, hx285_2, hl285_0, hi285_0⟩ := at_T29 HR1.1 x5_1 p285 q285
   have hw285_2 := hx285_2
   have hw285_1 := hx285_1
   have hw285_0 := hx285_0
   cases e285
   replace hx285_0 := (HB.1.cell (World.block_lt_of_cell? w _ hx285_0)).trans hx285_0
   replace hx285_1 := (HB.1.cell (World.block_lt_of_cell? w _ hx285_1)).trans hx285_1
   replace hx285_2 := (HB.1.cell (World.block_lt_of_cell? w _ hx285_2)).trans hx285_2
   have HR285_0 := zM hi285_0
   have HC285_0 := zM hl285_0
   clear hi285_0 hl285_0
   replace p285 := eq_true p285
   replace q285 := eq_true q285
   refine start_ (n := 10) (S := fun w' => w'.cell? (ad284.add ((x5_1).toNat * 3)) = some (.slice A284_0 ((rd_T29 l0 x5_1).f0).length c284_0) ∧ w'.cell? ⟨(ad284.add ((x5_1).toNat * 3)).block, (ad284.add ((x5_1).toNat * 3)).off + 1, none⟩ = some (.int .i64 ((rd_T29 l0 x5_1).f1)) ∧ w'.cell? ⟨(ad284.add ((x5_1).toNat * 3)).block, (ad284.add ((x5_1).toNat * 3)).off + 2, none⟩ = some (.int .i64 ((rd_T29 l0 x5_1).f2)) ∧ w'.cell? (ad285.add ((x5_1).toNat * 3)) = some (.slice A285_0 ((rd_T29 l1 x5_1).f0).length c285_0) ∧ w'.cell? ⟨(ad285.add ((x5_1).toNat * 3)).block, (ad285.add ((x5_1).toNat * 3)).off + 1, none⟩ = some (.int .i64 ((rd_T29 l1 x5_1).f1)) ∧ w'.cell? ⟨(ad285.add ((x5_1).toNat * 3)).block, (ad285.add ((x5_1).toNat * 3)).off + 2, none⟩ = some (.int .i64 ((rd_T29 l1 x5_1).f2))) (ds := []) zq9_0 (by kernel_rfl) rfl rfl ⟨((HB.1.cell (World.block_lt_of_cell? w _ hw284_0)).trans hw284_0), ((HB.1.cell (World.block_lt_of_cell? w _ hw284_1)).trans hw284_1), ((HB.1.cell (World.block_lt_of_cell? w _ hw284_2)).trans hw284_2), ((HB.1.cell (World.block_lt_of_cell? w _ hw285_0)).trans hw285_0), ((HB.1.cell (World.block_lt_of_cell? w _ hw285_1)).trans hw285_1), ((HB.1.cell (World.block_lt_of_cell? w _ hw285_2)).trans hw285_2)⟩ (fun hHeld => ?_); refine with_tabW laws_eqHartS.tab6 laws_eqHartS.bits6 (fun HT_ HW_ => ?_)
   generalize wr.drew = w9 at HB HR284_0 HR285_0 hx284_0 hx284_1 hx284_2 hx285_0 hx285_1 hx285_2 hHeld ⊢
   refine pure_ (i := 0) (N := some 17) (v := ?_) (a' := ?_) zq9_1 rfl rfl (any_of HT_.1 (by kernel_rfl)) (fun _ _ _ h => h) (Or.inl ⟨by rfl, ?_⟩) ?_ ?_
   rotate_left
   ·intro w'
    go_simp
    with_reducible rfl
   rotate_left
   ·exact zV
   refine pure_ (i := 1) (N := some 18) (v := ?_) (a' := ?_) zq9_2 rfl rfl (any_of HT_.1 (by kernel_rfl)) (fun _ _ _ h => h) (Or.inl ⟨by rfl, ?_⟩) ?_ ?_
   rotate_left
   ·intro w'
    go_simp
    with_reducible rfl
   rotate_left
   ·exact zV
   refine pure_ (i := 2) (N := some 19) (v := ?_) (a' := ?_) zq9_3 rfl rfl (any_of HT_.1 (by kernel_rfl)) (fun _ _ _ h => h) (Or.inl ⟨by rfl, ?_⟩) ?_ ?_
   rotate_left
   ·intro w'
    go_simp
    with_reducible rfl
   rotate_left
   ·exact zV
   refine pure_ (i := 4) (N := some 21) (v := ?_) (a' := ?_) zq9_4 rfl rfl (any_of HT_.1 (by kernel_rfl)) (fun _ _ _ h => h) (Or.inl ⟨by rfl, ?_⟩) ?_ ?_
   rotate_left
   ·intro w'
    go_simp
    with_reducible rfl
   rotate_left
   ·exact zV
   refine pure_ (i := 5) (N := some 22) (v := ?_) (a' := ?_) zq9_5 rfl rfl (any_of HT_.1 (by kernel_rfl)) (fun _ _ _ h => h) (Or.inl ⟨by rfl, ?_⟩) ?_ ?_
   rotate_left
   ·intro w'
    go_simp
    with_reducible rfl
   rotate_left
   ·exact zV
   refine pure_ (i := 6) (N := some 23) (v := ?_) (a' := ?_) zq9_6 rfl rfl (any_of HT_.1 (by kernel_rfl)) (fun _ _ _ h => h) (Or.inl ⟨by rfl, ?_⟩) ?_ ?_
   rotate_left
   ·intro w'
    go_simp
    with_reducible rfl
   rotate_left
   ·exact zV
   refine take_ (i := 3) (N := some 20) (v := ?_) (a' := ?_) zq9_7 rfl rfl (take_ofW HT_.1 HW_.1 (by kernel_rfl)) (fun _ _ _ h => h) (Or.inl ⟨by rfl, ?_⟩) hHeld ?_ ?_
   rotate_left
   ·rintro w' ⟨s0, s1, s2, s3, s4, s5⟩
    go_simp
    with_reducible rfl
   rotate_left
   ·exact zV
   refine take_ (i := 7) (N := some 24) (v := ?_) (a' := ?_) zq9_8 rfl rfl (take_ofW HT_.1 HW_.1 (by kernel_rfl)) (fun _ _ _ h => h) (Or.inl ⟨by rfl, ?_⟩) hHeld ?_ ?_
   rotate_left
   ·rintro w' ⟨s0, s1, s2, s3, s4, s5⟩
    go_simp
    with_reducible rfl
   rotate_left
   ·exact zV
   refine one_ (i := 8) (N := some 25) zq9_9 rfl rfl (one_of HT_.1 (by kernel_rfl)) (by decide) (fun K hK => ?_)
   refine goes_ Try.func60 (by kernel_rfl) rfl #[.agg #[.slice A284_0 ((rd_T29 l0 x5_1).f0).length c284_0, .int .i64 ((rd_T29 l0 x5_1).f1), .int .i64 ((rd_T29 l0 x5_1).f2)], .agg #[.slice A285_0 ((rd_T29 l1 x5_1).f0).length c285_0, .int .i64 ((rd_T29 l1 x5_1).f1), .int .i64 ((rd_T29 l1 x5_1).f2)]] (by rfl) rfl rfl zT ?_
   with_reducible refine (laws_eqHart.calls k1 _ _ ((rd_T29 l0 x5_1).f0) ((rd_T29 l0 x5_1).f1) ((rd_T29 l0 x5_1).f2) _ _ ((rd_T29 l1 x5_1).f0) ((rd_T29 l1 x5_1).f1) ((rd_T29 l1 x5_1).f2) true _ ?side1 ?side2 ?side3 ?side4 A7.1).mono ?_
   (case side1 => exact zC (Kd.C_below HR284_0.1 HB.1))
   (case side2 => exact HC284_0.1)
   (case side3 => exact zC (Kd.C_below HR285_0.1 HB.1))
   (case side4 => exact HC285_0.1)
   rintro e w10 ⟨rfl, hb⟩
   refine ⟨_, rfl, ?_⟩
   replace HB := zM (below_step zB0 hb)
   (try clear hb)
   (try clear hb2)
   (try clear hk)
   (try clear hi)
   refine hK.out _ _ ⟨((HB.1.cell (World.block_lt_of_cell? w _ hw284_0)).trans hw284_0), ((HB.1.cell (World.block_lt_of_cell? w _ hw284_1)).trans hw284_1), ((HB.1.cell (World.block_lt_of_cell? w _ hw284_2)).trans hw284_2), ((HB.1.cell (World.block_lt_of_cell? w _ hw285_0)).trans hw285_0), ((HB.1.cell (World.block_lt_of_cell? w _ hw285_1)).trans hw285_1), ((HB.1.cell (World.block_lt_of_cell? w _ hw285_2)).trans hw285_2)⟩ (fun hHeld => ?_)
   clear hK K
   refine norm_ (a' := ?_) ?_ ?_
   rotate_left
   ·show Act.put _ (some 25) _ = _
    simp only [Act.put, List.setIfInBounds_toArray, List.set_cons_zero, List.set_cons_succ, i64_w, i32_w]
    rfl
   refine pure_ (i := 9) (N := some 26) (v := ?_) (a' := ?_) zq9_10 rfl rfl (any_of HT_.1 (by kernel_rfl)) (fun _ _ _ h => h) (Or.inl ⟨by rfl, ?_⟩) ?_ ?_
   rotate_left
   ·intro w'
    go_simp
    with_reducible rfl
   rotate_left
   ·exact zV
   refine done_ (done_of HT_.1 (by kernel_rfl)) ?_
   try go_wp2
   go_roundg k1
   case measure => have := HK1.1; omega
   case rel => exact ⟨(wrap64 (x5_1 + 1)), zJJ, H', ⟨by have := HK1.1; omega⟩, ⟨zB0⟩⟩

/-! ### spec_l1In: function 49 -/
def spec_l1In.f (a0 : Int) (a1 : Int) (a2 : Int) : Option (Bool) := if a0 ≥ a1 then (some (decide (a0 ≤ a2))) else (some false)
theorem spec_l1In.calls (a0 : Int) (a1 : Int) (a2 : Int) (r : Bool) (w : World) (h : spec_l1In.f a0 a1 a2 = some r) :
  Calls Try.prog 49 #[.int .i64 a0, .int .i64 a1, .int .i64 a2] w fun e w' => e = .returned (.bool r) ∧ Drawn0 w w' := by
 unfold spec_l1In.f at h
 have H := h
 clear h
 by_cases c4 : a0 ≥ a1
 ·rw [if_pos c4] at H
  have c4b0 := decide_eq_true c4
  clear c4
  obtain rfl := Option.some.inj H
  go_enter Try.func49, Try.ntmps49
  go_wp2
  go_ret
  exact ⟨zJJ, zDD⟩
 rw [if_neg c4] at H
 have c4b0 := decide_eq_false c4
 clear c4
 obtain rfl := Option.some.inj H
 go_enter Try.func49, Try.ntmps49
 go_wp2
 go_ret
 exact ⟨zJJ, zDD⟩

end Go.Proofs.Ytnjdepmlpdjghaa.PFnExactAlways
