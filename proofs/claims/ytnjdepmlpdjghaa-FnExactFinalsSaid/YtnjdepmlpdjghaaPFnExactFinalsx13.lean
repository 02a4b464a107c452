-- made by wip/tools/myprint.py out of the seat's translation
import Derived.Test.YtnjdepmlpdjghaaPFnExactFinalsx0
import Derived.Test.YtnjdepmlpdjghaaPFnExactFinalsx8
import Derived.Test.YtnjdepmlpdjghaaPFnExactFinalsx12
namespace Go.Proofs.Ytnjdepmlpdjghaa.PFnExactFinals
open Go.RowKit Go.Proofs.YtnjdepmlpdjghaaW.PrintWords Go.Proofs.YtnjdepmlpdjghaaW.PrintLast Go.Proofs.YtnjdepmlpdjghaaW.PrintMore
attribute [local go_sem] max2_int min2_int max_two min_two max_three min_three max_four min_four   -- for this text's walks alone
set_option linter.unusedVariables false
set_option linter.unusedSimpArgs false
set_option maxHeartbeats 8000000
set_option maxRecDepth 100000

/-! ### spec_Finals: function 18 -/
mutual
def spec_Finals.j1 : Nat → List Bool → Option (List Int)
 | 0, _ => none
 | k + 1, x9 => spec_Finals.l1 k x9 (([] : List Int)) 0
def spec_Finals.l1 : Nat → List Bool → List Int → Int → Option (List Int)
 | 0, _, _, _ => none
 | k + 1, x9, x12, x13 => if x13 < (x9.length : Int) then (if 0 ≤ x13 then (if rdOf false x9 x13 = true then (if x12.length < 17592186044416 then (spec_Finals.l1 k x9 (x12 ++ [x13]) (wrap64 (x13 + 1))) else (none)) else (spec_Finals.l1 k x9 x12 (wrap64 (x13 + 1)))) else (none)) else (some x12)
def spec_Finals.l0 : Nat → Int → List Bool → List (List Int) → Int → Option (List Int)
 | 0, _, _, _, _ => none
 | k + 1, x3, x9, x10, x11 => if x11 < (x10.length : Int) then ((spec_l1In.f x3 0 23).bind fun t391 => (if t391 = true then (if 0 ≤ x11 then (if 0 ≤ x3 then (if x3 < ((rd_L2 x10 x11).length : Int) then (if 0 ≤ (rd (rd_L2 x10 x11) x3) then (if (rd (rd_L2 x10 x11) x3) < (x9.length : Int) then (spec_Finals.l0 k x3 (x9.set ((rd (rd_L2 x10 x11) x3) : Int).toNat true) x10 (wrap64 (x11 + 1))) else (none)) else (none)) else (none)) else (none)) else (none)) else (spec_Finals.j1 k x9))) else (spec_Finals.j1 k x9)
end
def spec_Finals.f (k : Nat) (l0 : List Int) (l1 : List (S29)) (a2 : Int) (a3 : Int) : Option (List Int) := (spec_Ends2.f k l0 l1 a2).bind fun t388 => (spec_Finals.l0 k a3 (List.replicate 65536 false) t388 0)
theorem spec_Finals.mono_l : ∀ k, (∀ y0, LeO (spec_Finals.j1 k y0) (spec_Finals.j1 (k + 1) y0)) ∧ (∀ y0 y1 y2, LeO (spec_Finals.l1 k y0 y1 y2) (spec_Finals.l1 (k + 1) y0 y1 y2)) ∧ (∀ y0 y1 y2 y3, LeO (spec_Finals.l0 k y0 y1 y2 y3) (spec_Finals.l0 (k + 1) y0 y1 y2 y3))
 | 0 => ⟨fun _ r h => by simp [spec_Finals.j1] at h, fun _ _ _ r h => by simp [spec_Finals.l1] at h, fun _ _ _ _ r h => by simp [spec_Finals.l0] at h⟩
 | k + 1 => by
  obtain ⟨ih0, ih1, ih2⟩ := spec_Finals.mono_l k
  refine ⟨?_, ?_, ?_⟩
  ·intros
   unfold spec_Finals.j1
   have mo0 := @spec_Ends2.mono
   exact zL
  ·intros
   unfold spec_Finals.l1
   have mo0 := @spec_Ends2.mono
   exact zL
  ·intros
   unfold spec_Finals.l0
   have mo0 := @spec_Ends2.mono
   exact zL
theorem spec_Finals.mono : ∀ a0 a1 a2 a3 k, LeO (spec_Finals.f k a0 a1 a2 a3) (spec_Finals.f (k + 1) a0 a1 a2 a3) := by
 intro a0 a1 a2 a3 k
 obtain ⟨ih0, ih1, ih2⟩ := spec_Finals.mono_l k
 unfold spec_Finals.f
 have mo0 := @spec_Ends2.mono
 exact zL
theorem spec_Finals.calls (k : Nat) (A0 : Option Addr) (c0 : Nat) (l0 : List Int) (A1 : Option Addr) (c1 : Nat) (l1 : List (S29)) (a2 : Int) (a3 : Int) (r : List Int) (w : World) (hr0 : Kd.C (Kd.int .i64) w A0 l0.length l0) (hc0 : l0.length ≤ c0) (hr1 : Kd.C k29 w A1 l1.length l1) (hc1 : l1.length ≤ c1) (h : spec_Finals.f k l0 l1 a2 a3 = some r) :
  Calls Try.prog 18 #[.slice A0 l0.length c0, .slice A1 l1.length c1, .int .i64 a2, .int .i64 a3] w fun e w' => ∃ v0_ : Value, e = .returned (v0_) ∧ Kd.R (Kd.int .i64) 3 w' w.heap.size (fun _ => True) v0_ r ∧ Below w.heap.size w w' := by
 have HR0 := zM hr0
 have HC0 := zM hc0
 clear hr0 hc0
 have HR1 := zM hr1
 have HC1 := zM hc1
 clear hr1 hc1
 have HB := zM (Below.refl w.heap.size w)
 unfold spec_Finals.f at h
 have H := h
 clear h
 obtain ⟨y385, hy385⟩ : ∃ y_ : List Bool, y_ = (List.replicate 65536 false) := ⟨_, rfl⟩
 replace H : ((spec_Ends2.f k l0 l1 a2).bind fun t388 => (spec_Finals.l0 k a3 y385 t388 0)) = some r := by first | (rw [hy385]; with_reducible exact H) | (have H2_ := (Option.bind_some _ _).symm.trans H; rw [hy385]; with_reducible exact H2_) | (have H2_ := (Option.bind_some _ _).symm.trans H; with_reducible exact H2_) | with_reducible exact H | (rw [hy385]; exact H) | exact H
 have Ny385 := zM hy385
 clear hy385
 replace H := zO H
 obtain ⟨t388, A5, H⟩ := H
 have HC6 := zM H
 clear H
 go_enter Try.func18, Try.ntmps18
 go_upto_block 0 with (first | ((with_reducible refine gate_dst (N := 14) rfl ?_); refine Kd.R_make Kd.bool _ 4 rfl (N := 14) rfl 66 _ _ rfl 65536 rfl rfl Try.underlying66 (.bool false) 1 info4 rfl (by decide) (by omega) false (ok := fun _ => True) (okp := fun _ => True) rfl (fun _ hk => hk) trivial (by omega) (by omega) (Below.refl _ _) (Nat.le_refl _) ?_; intro v386 w7 ho8 hb hg_ hnew_; clear hg_ hnew_; (first | rw [← Ny385.1] at ho8 | (simp only [Int.reduceToNat] at ho8; rw [← Ny385.1] at ho8)); have HO387 := zM (Kd.R_lower ho8 (below_size zB0)); replace HB := zM (below_step zB0 hb); clear hb ho8) | ((with_reducible refine gate_callee (f := 21) rfl ?_); refine goesL_ (some 18) rfl rfl Try.func21 (by kernel_rfl) rfl #[.slice A0 l0.length c0, .slice A1 l1.length c1, .int .i64 a2] rfl zT ?_; (with_reducible refine (spec_Ends2.calls k _ _ l0 _ _ l1 a2 t388 _ ?side1 ?side2 ?side3 ?side4 A5.1).mono ?_); (case side1 => exact zC (Kd.C_below HR0.1 HB.1)); (case side2 => exact HC0.1); (case side3 => exact zC (Kd.C_below HR1.1 HB.1)); (case side4 => exact HC1.1); rintro e w9 ⟨v389, rfl, ho0, hb⟩; refine ⟨_, rfl, ?_⟩; replace HO387 := zM (Kd.R_below (zR HO387.1) hb); have HO390 := zM (Kd.S_lower ho0 (below_size zB0)); replace HB := zM (below_step zB0 hb); clear hb ho0))
 (try simp only [Act.put, List.setIfInBounds_toArray, List.set_cons_zero, List.set_cons_succ])
 go_cut [] (fun wc => ∃ (kq : Nat) (x9_5 : List Bool), Aside0 (spec_Finals.j1 kq x9_5 = some r) ∧ Aside0 (kq ≤ k) ∧ Aside0 (Kd.R Kd.bool 4 wc w.heap.size (fun _ => True) v386 x9_5) ∧ Aside0 (Below w.heap.size w wc))
 case first =>
  have H := HC6.1
  clear HC6
  have H' := zM H
  clear H
  go_wp2
  go_loopg [11] k (fun kq v11 w' => ∃ (x9_1 : List Bool) (x11_1 : Int), v11 = .int .i64 x11_1 ∧ Aside0 (spec_Finals.l0 kq a3 x9_1 t388 x11_1 = some r) ∧ Aside0 (kq ≤ k) ∧ Aside0 (Kd.R Kd.bool 4 w' w.heap.size (fun _ => True) v386 x9_1) ∧ Aside0 (Kd.S (Kd.slice 3 (Kd.int .i64)) 24 w' w.heap.size (fun _ => True) v389 t388) ∧ Aside0 (Below w.heap.size w w'))
  case atStart => exact ⟨(y385), (0), zJJ, H', ⟨Nat.le_refl _⟩, ⟨zR HO387.1⟩, ⟨zS HO390.1⟩, ⟨zB0⟩⟩
  case round =>
   clear H'
   try clear c1
   try clear c2
   try clear p2
   obtain ⟨x9_1, x11_1, rfl, HA, HK1, HO_9, HO_10, HB⟩ := hrel
   cases gk with
   | zero => exact absurd HA.1 (by simp [spec_Finals.l0])
   | succ k1 =>
    have H := HA.1
    clear HA
    simp only [spec_Finals.l0] at H
    by_cases c10 : x11_1 < (t388.length : Int)
    rotate_left
    ·rw [if_neg c10] at H
     have c10b0 := decide_eq_false c10
     clear c10
     (first | rw [c10b0] | (simp only [i64_w, i32_w]; rw [c10b0]) | skip)
     have H' := zM H
     clear H
     obtain ⟨Ao23, co23, eo23⟩ := Kd.S_slice HO_10.1
     subst eo23
     go_wp2
     go_meet
     case rel => exact ⟨_, (x9_1), H', ⟨by have := HK1.1; first | omega | exact Nat.le_refl _⟩, ⟨zR HO_9.1⟩, ⟨zB0⟩⟩
    rw [if_pos c10] at H
    have c10b0 := decide_eq_true c10
    clear c10
    (first | rw [c10b0] | (simp only [i64_w, i32_w]; rw [c10b0]) | skip)
    replace H := zO H
    obtain ⟨t391, A11, H⟩ := H
    by_cases c12 : t391 = true
    rotate_left
    ·replace c12 := Bool.eq_false_iff.mpr c12
     subst c12
     rw [if_neg zF] at H
     have H' := zM H
     clear H
     obtain ⟨Ao22, co22, eo22⟩ := Kd.S_slice HO_10.1
     subst eo22
     go_wp2_with (first | (go_at_call 49; (with_reducible refine (spec_l1In.calls a3 0 23 false _ A11.1).mono ?_); rintro e w' ⟨rfl, ⟨nd, rfl⟩⟩))
     go_meet
     case rel => exact ⟨_, (x9_1), H', ⟨by have := HK1.1; first | omega | exact Nat.le_refl _⟩, ⟨zR HO_9.1⟩, ⟨zB0⟩⟩
    subst c12
    rw [if_pos rfl] at H
    by_cases c13 : 0 ≤ x11_1
    rotate_left
    ·rw [if_neg c13] at H
     exact absurd H (by simp)
    rw [if_pos c13] at H
    have c13b0 := decide_eq_true c13
    clear c13
    by_cases c14 : 0 ≤ a3
    rotate_left
    ·rw [if_neg c14] at H
     exact absurd H (by simp)
    rw [if_pos c14] at H
    have c14b0 := decide_eq_true c14
    clear c14
    by_cases c15 : a3 < ((rd_L2 t388 x11_1).length : Int)
    rotate_left
    ·rw [if_neg c15] at H
     exact absurd H (by simp)
    rw [if_pos c15] at H
    have c15b0 := decide_eq_true c15
    clear c15
    by_cases c16 : 0 ≤ (rd (rd_L2 t388 x11_1) a3)
    rotate_left
    ·rw [if_neg c16] at H
     exact absurd H (by simp)
    rw [if_pos c16] at H
    have c16b0 := decide_eq_true c16
    clear c16
    by_cases c17 : (rd (rd_L2 t388 x11_1) a3) < (x9_1.length : Int)
    rotate_left
    ·rw [if_neg c17] at H
     exact absurd H (by simp)
    rw [if_pos c17] at H
    have c17b0 := decide_eq_true c17
    clear c17
    obtain ⟨y394, hy394⟩ : ∃ y_ : List Bool, y_ = (x9_1.set ((rd (rd_L2 t388 x11_1) a3) : Int).toNat true) := ⟨_, rfl⟩
    replace H : (spec_Finals.l0 k1 a3 y394 t388 (wrap64 (x11_1 + 1))) = some r := by first | (rw [hy394]; with_reducible exact H) | (have H2_ := (Option.bind_some _ _).symm.trans H; rw [hy394]; with_reducible exact H2_) | (have H2_ := (Option.bind_some _ _).symm.trans H; with_reducible exact H2_) | with_reducible exact H | (rw [hy394]; exact H) | exact H
    have Ny394 := zM hy394
    clear hy394
    have H' := zM H
    clear H
    obtain ⟨Ao19, co19, eo19⟩ := Kd.S_slice HO_10.1
    subst eo19
    go_wp2_with (first | (go_at_call 49; (with_reducible refine (spec_l1In.calls a3 0 23 true _ A11.1).mono ?_); rintro e w' ⟨rfl, ⟨nd, rfl⟩⟩; (try (rw [drewN_self wr]; generalize hq_ : World.drewN wr _ = wr; have n0_ : Aside0 (Kd.S (Kd.slice 3 (Kd.int .i64)) 24 wr w.heap.size (fun _ => True) (.slice Ao19 t388.length co19) t388) := ⟨by rw [← hq_]; exact (zS HO_10.1)⟩; have n1_ : Aside0 (Kd.R Kd.bool 4 wr w.heap.size (fun _ => True) v386 x9_1) := ⟨by rw [← hq_]; exact (zR HO_9.1)⟩; have n2_ : Aside0 (Below w.heap.size w wr) := ⟨by rw [← hq_]; exact zB0⟩; clear HO_10 HO_9 HB hq_; have HO_10 := n0_; have HO_9 := n1_; have HB := n2_; clear n0_ n1_ n2_)); have p392 : 0 ≤ (x11_1 : Int) := zA; have q392 : x11_1 < (t388.length : Int) := zA; obtain ⟨ad392, A392_0, c392_0, e392, hx392_0, hl392_0, hi392_0⟩ := at_L2 (Kd.S_reads' HO_10.1).2.2 x11_1 p392 q392; cases e392; obtain ⟨ce392, hce392, hMe392, hcc392⟩ := Kd.S_get HO_10.1 [] x11_1 p392 (by first | exact q392 | exact zA | (have e_ := (Kd.S_reads' HO_10.1).1; omega)); obtain ⟨ve392_0, rfl, ge392_0⟩ := hMe392; have hv392_0 := hcc392 0 _ rfl; rw [Nat.add_zero, show ((Kd.slice 3 (Kd.int .i64))).sz = 1 from rfl, Nat.mul_one] at hv392_0; replace hv392_0 := Option.some.inj (hv392_0.symm.trans hx392_0); rw [hv392_0] at ge392_0; have HL392_0 := zM (show Kd.R (Kd.int .i64) 3 _ _ _ _ (rd_L2 t388 x11_1) from ge392_0); clear hv392_0 ge392_0; clear hcc392 hce392; have HR392_0 := zM hi392_0; have HC392_0 := zM hl392_0; clear hi392_0 hl392_0; replace p392 := eq_true p392; replace q392 := eq_true q392; have p393 : 0 ≤ (a3 : Int) := zA; have q393 : a3 < ((rd_L2 t388 x11_1).length : Int) := zA; obtain ⟨ad393, e393, hx393_0⟩ := Kd.at_int (zC HR392_0.1) a3 p393 q393; cases e393; replace p393 := eq_true p393; replace q393 := eq_true q393; have p18 : 0 ≤ ((rd (rd_L2 t388 x11_1) a3) : Int) := zA; have q18 : ((rd (rd_L2 t388 x11_1) a3) : Int) < ((x9_1.length : Int) : Int) := zA; obtain ⟨go18, co18, eo18, gb18, gl18, cl18, HG18⟩ := Kd.R_form HO_9.1 (by omega); (first | cases eo18 | (injection eo18 with ea_ en_ ec_; (first | subst ea_ | (injection ea_ with ea_; subst ea_)); subst ec_; clear en_)); have GB18 := zM gb18; have GG18 := zM HG18; clear gb18 gl18 HG18; obtain ⟨hx18_0, hf18_0⟩ := Kd.R_celln false HO_9.1 ((rd (rd_L2 t388 x11_1) a3) : Int) p18 q18; replace p18 := eq_true p18; replace q18 := eq_true q18; obtain ⟨hy20_, hz20_⟩ := Kd.R_celln false HO_9.1 ((rd (rd_L2 t388 x11_1) a3) : Int) zA zA; have HP20 := Kd.R_putg HO_9.1 ((rd (rd_L2 t388 x11_1) a3) : Int) true) | ((with_reducible refine gate_store (t := 4) (p := 37) rfl ?_); refine store_event (t := 4) (p := 37) (v := ?vo_w21) (w1 := (wr.setCell ⟨go18, ((rd (rd_L2 t388 x11_1) a3) : Int).toNat, none⟩ (.bool true))) ?hg ?ho ?hn ?hr ?_; (case ho => rfl); (case hg => rfl); (case hn => rfl); (case hr => exact zHH); intro w21 hw; have hg : wr.grownBy w21 (some go18) := (by rw [hw]; exact HP20.2); have hp_ : Kd.R Kd.bool 4 w21 w.heap.size (fun _ => True) (.slice (some ⟨go18, 0, none⟩) x9_1.length co18) y394 := (by rw [hw, Ny394.1]; exact HP20.1); clear HP20; have n0_ := zM hp_; have n1_ := zM (Kd.S_over' (v := (.slice (some ⟨go18, 0, none⟩) x9_1.length co18)) (zS HO_10.1) (Kd.R_typed HO_9.1) (by decide) hg); have n2_ := zM (Kd.R_over' (v := (.slice (some ⟨go18, 0, none⟩) x9_1.length co18)) (zR HL392_0.1) (Kd.R_typed HO_9.1) (by decide) hg); have n3_ := zM ((by rw [hw]; exact below_set (HB.1) GB18.1 : Below w.heap.size w w21)); clear HO_9; clear HO_10; clear HL392_0; clear HB; have HO_9 := n0_; have HO_10 := n1_; have HL392_0 := n2_; have HB := n3_; clear n0_ n1_ n2_ n3_; clear hg hw hp_))
    go_roundg k1
    case measure => have := HK1.1; omega
    case rel => exact ⟨(y394), (wrap64 (x11_1 + 1)), zJJ, H', ⟨by have := HK1.1; omega⟩, ⟨zR HO_9.1⟩, ⟨zS HO_10.1⟩, ⟨zB0⟩⟩
 case rest =>
  clear HC6
  try clear c1
  try clear p1
  try clear q1
  try clear hx1
  try clear c2
  try clear p2
  try clear c3
  try clear p3
  try clear q3
  try clear hx3
  try clear p6
  try clear c10
  try clear c10b0
  try clear c12
  try clear c13
  try clear c13b0
  try clear c14
  try clear c14b0
  try clear c15
  try clear c15b0
  try clear c16
  try clear c16b0
  try clear c17
  try clear c17b0
  try clear c18
  try clear p18
  try clear q18
  try clear hx18
  try clear hf18
  try clear c21
  try clear hx18_0
  try clear hx392_0
  try clear hx393_0
  try clear p18
  try clear p2
  try clear p392
  try clear p393
  try clear q18
  try clear q392
  try clear q393
  obtain ⟨kq, x9_5, HA, HJ5, HO_9, HB⟩ := hcut
  cases kq with
  | zero => exact absurd HA.1 (by simp [spec_Finals.j1])
  | succ kj5 =>
   have H := HA.1
   clear HA
   simp only [spec_Finals.j1] at H
   obtain ⟨y395, hy395⟩ : ∃ y_ : List Int, y_ = (([] : List Int)) := ⟨_, rfl⟩
   replace H : (spec_Finals.l1 kj5 x9_5 y395 0) = some r := by first | (rw [hy395]; with_reducible exact H) | (have H2_ := (Option.bind_some _ _).symm.trans H; rw [hy395]; with_reducible exact H2_) | (have H2_ := (Option.bind_some _ _).symm.trans H; with_reducible exact H2_) | with_reducible exact H | (rw [hy395]; exact H) | exact H
   have Ny395 := zM hy395
   clear hy395
   have H' := zM H
   clear H
   go_wp2_with (first | ((with_reducible refine gate_dst (N := 38) rfl ?_); refine Kd.R_lit (Kd.int .i64) _ 3 ?hg (N := 38) ?hd (xs := ([] : List Int)) (inner := []) (ok := fun _ => True) (okp := fun _ => True) ?hr ?hp (fun _ hk => hk) trivial (Below.refl _ _) (Nat.le_refl _) (by simp) ?_; (case hd => rfl); (case hg => rfl); (case hr => exact zHH); (case hp => exact (Reps.none _ _)); intro v396 w24 ho25 hb hg_ hnew_; clear hg_ hnew_; (first | rw [← Ny395.1] at ho25 | (simp only [Int.reduceToNat] at ho25; rw [← Ny395.1] at ho25)); replace HO_9 := zM (Kd.R_below (zR HO_9.1) hb); have HO397 := zM (Kd.R_lower ho25 (below_size zB0)); replace HB := zM (below_step zB0 hb); clear hb ho25))
   go_loopg [12, 13] kj5 (fun kq v12 v13 w' => ∃ (x12_2 : List Int) (x13_2 : Int), v13 = .int .i64 x13_2 ∧ Aside0 (spec_Finals.l1 kq x9_5 x12_2 x13_2 = some r) ∧ Aside0 (kq ≤ kj5) ∧ Aside0 (Kd.R Kd.bool 4 w' w.heap.size (fun _ => True) v386 x9_5) ∧ Aside0 (Kd.R (Kd.int .i64) 3 w' w.heap.size (fun _ => True) v12 x12_2) ∧ Aside0 (Below w.heap.size w w'))
   case atStart => exact ⟨(y395), (0), zJJ, H', ⟨Nat.le_refl _⟩, ⟨zR HO_9.1⟩, ⟨zR HO397.1⟩, ⟨zB0⟩⟩
   case round =>
    clear H'
    try clear c1
    try clear p1
    try clear q1
    try clear hx1
    try clear c2
    try clear p2
    try clear c3
    try clear p3
    try clear q3
    try clear hx3
    try clear p6
    try clear c10
    try clear c10b0
    try clear c12
    try clear c13
    try clear c13b0
    try clear c14
    try clear c14b0
    try clear c15
    try clear c15b0
    try clear c16
    try clear c16b0
    try clear c17
    try clear c17b0
    try clear c18
    try clear p18
    try clear q18
    try clear hx18
    try clear hf18
    try clear c21
    try clear hx18_0
    try clear hx392_0
    try clear hx393_0
    try clear p1
    try clear p18
    try clear p2
    try clear p3
    try clear p392
    try clear p393
    try clear p6
    try clear q1
    try clear q18
    try clear q3
    try clear q392
    try clear q393
    obtain ⟨x12_2, x13_2, rfl, HA, HK2, HO_9, HO_12, HB⟩ := hrel
    cases gk with
    | zero => exact absurd HA.1 (by simp [spec_Finals.l1])
    | succ k2 =>
     have H := HA.1
     clear HA
     simp only [spec_Finals.l1] at H
     by_cases c26 : x13_2 < (x9_5.length : Int)
     rotate_left
     ·rw [if_neg c26] at H
      have c26b0 := decide_eq_false c26
      clear c26
      obtain rfl := Option.some.inj H
      obtain ⟨Ao34, co34, eo34⟩ := Kd.R_slice HO_9.1
      subst eo34
      go_wp2
      go_ret
      exact ⟨_, zE, zR HO_12.1, zB0⟩
     rw [if_pos c26] at H
     have c26b0 := decide_eq_true c26
     clear c26
     by_cases c27 : 0 ≤ x13_2
     rotate_left
     ·rw [if_neg c27] at H
      exact absurd H (by simp)
     rw [if_pos c27] at H
     have c27b0 := decide_eq_true c27
     clear c27
     obtain ⟨bq28, hbq28⟩ : ∃ b_ : Bool, b_ = (rdOf false x9_5 x13_2) := ⟨_, rfl⟩
     replace H : (if bq28 = true then (if x12_2.length < 17592186044416 then (spec_Finals.l1 k2 x9_5 (x12_2 ++ [x13_2]) (wrap64 (x13_2 + 1))) else (none)) else (spec_Finals.l1 k2 x9_5 x12_2 (wrap64 (x13_2 + 1)))) = some r := by rw [← hbq28] at H; exact H
     have Nbq28 := zM hbq28
     clear hbq28
     by_cases c29 : bq28 = true
     rotate_left
     ·replace c29 := Bool.eq_false_iff.mpr c29
      subst c29
      rw [if_neg zF] at H
      have H' := zM H
      clear H
      obtain ⟨Ao33, co33, eo33⟩ := Kd.R_slice HO_9.1
      subst eo33
      have p398 : 0 ≤ (x13_2 : Int) := zA
      have q398 : x13_2 < (x9_5.length : Int) := zA
      obtain ⟨ad398, e398, hx398_0⟩ := Kd.at_bool (Kd.R_reads' HO_9.1).2.2 x13_2 p398 q398
      (try rw [← Nbq28.out] at hx398_0)
      cases e398
      replace p398 := eq_true p398
      replace q398 := eq_true q398
      go_wp2
      go_roundg k2
      case measure => have := HJ5.1; have := HK2.1; omega
      case rel => exact ⟨(x12_2), (wrap64 (x13_2 + 1)), zJJ, H', ⟨by have := HJ5.1; have := HK2.1; omega⟩, ⟨zR HO_9.1⟩, ⟨zR HO_12.1⟩, ⟨zB0⟩⟩
     subst c29
     rw [if_pos rfl] at H
     by_cases c30 : x12_2.length < 17592186044416
     rotate_left
     ·rw [if_neg c30] at H
      exact absurd H (by simp)
     rw [if_pos c30] at H
     have LMc30 := zM c30
     clear c30
     obtain ⟨y399, hy399⟩ : ∃ y_ : List Int, y_ = (x12_2 ++ [x13_2]) := ⟨_, rfl⟩
     replace H : (spec_Finals.l1 k2 x9_5 y399 (wrap64 (x13_2 + 1))) = some r := by first | (rw [hy399]; with_reducible exact H) | (have H2_ := (Option.bind_some _ _).symm.trans H; rw [hy399]; with_reducible exact H2_) | (have H2_ := (Option.bind_some _ _).symm.trans H; with_reducible exact H2_) | with_reducible exact H | (rw [hy399]; exact H) | exact H
     have Ny399 := zM hy399
     clear hy399
     have H' := zM H
     clear H
     obtain ⟨Ao31, co31, eo31⟩ := Kd.R_slice HO_9.1
     subst eo31
     have p398 : 0 ≤ (x13_2 : Int) := zA
     have q398 : x13_2 < (x9_5.length : Int) := zA
     obtain ⟨ad398, e398, hx398_0⟩ := Kd.at_bool (Kd.R_reads' HO_9.1).2.2 x13_2 p398 q398
     (try rw [← Nbq28.out] at hx398_0)
     cases e398
     replace p398 := eq_true p398
     replace q398 := eq_true q398
     go_wp2_with (first | ((with_reducible refine gate_builtin (b := .append) (xs := #[.tmp 49, .tmp 51]) rfl ?_); at_builtin; refine Kd.R_append (Kd.int .i64) (w0 := w) w.heap.size rfl (.tmp 49) (.tmp 51) 24 3 (.int .i64 0) 8 rfl Try.underlying24 info3 rfl (by decide) (by omega) u12 x12_2 x13_2 [.int .i64 x13_2] (fun _ => True) (fun _ => False) rfl rfl ?aP (fun _ hk => hk.elim) ?aF ?aO ?aB ?aS ?aL ?_; (case aP => exact rfl); (case aB => exact zB0); (case aF => exact (fun _ _ => trivial)); (case aO => exact (zR HO_12.1)); (case aS => exact (below_size zB0)); (case aL => have := LMc30.out; omega); intro v400 w32 ho hb hg hat; rw [← Ny399.1] at ho; replace HO_9 := zM (Kd.R_over' (zR HO_9.1) (Kd.R_typed (zR HO_12.1)) (by decide) hg); replace HB := zM hb; have HO401 := zM ho; clear HO_12; clear ho hb hg hat))
     go_roundg k2
     case measure => have := HJ5.1; have := HK2.1; omega
     case rel => exact ⟨(y399), (wrap64 (x13_2 + 1)), zJJ, H', ⟨by have := HJ5.1; have := HK2.1; omega⟩, ⟨zR HO_9.1⟩, ⟨zR HO401.1⟩, ⟨zB0⟩⟩

/-! ### laws_szIntS: function 76 -/
def laws_szIntS.f (l0 : List Int) (a1 : Int) : Option (Int) := if (wrap64 (a1 - (l0.length : Int))) < 0 then (some (-1)) else (some (wrap64 (a1 - (l0.length : Int))))
theorem laws_szIntS.calls (A0 : Option Addr) (c0 : Nat) (l0 : List Int) (a1 : Int) (r : Int) (w : World) (hr0 : Kd.C (Kd.int .i64) w A0 l0.length l0) (hc0 : l0.length ≤ c0) (h : laws_szIntS.f l0 a1 = some r) :
  Calls Try.prog 76 #[.slice A0 l0.length c0, .int .i64 a1] w fun e w' => e = .returned (.int .i64 r) ∧ Drawn0 w w' := by
 have HR0 := zM hr0
 have HC0 := zM hc0
 clear hr0 hc0
 unfold laws_szIntS.f at h
 have H := h
 clear h
 by_cases c3 : (wrap64 (a1 - (l0.length : Int))) < 0
 ·rw [if_pos c3] at H
  have c3b0 := decide_eq_true c3
  clear c3
  obtain rfl := Option.some.inj H
  go_enter Try.func76, Try.ntmps76
  go_wp2
  go_ret
  exact ⟨zJJ, zDD⟩
 rw [if_neg c3] at H
 have c3b0 := decide_eq_false c3
 clear c3
 obtain rfl := Option.some.inj H
 go_enter Try.func76, Try.ntmps76
 go_wp2
 go_ret
 exact ⟨zJJ, zDD⟩

/-! ### laws_szHart: function 51 -/
def laws_szHart.f (l0_0 : List Int) (a0_1 : Int) (a0_2 : Int) (a1 : Int) : Option (Int) := (laws_szIntS.f l0_0 a1).bind fun t403 => (if t403 < 0 then (some (-1)) else (some t403))
theorem laws_szHart.calls (A0_0 : Option Addr) (c0_0 : Nat) (l0_0 : List Int) (a0_1 : Int) (a0_2 : Int) (a1 : Int) (r : Int) (w : World) (hr0_0 : Kd.C (Kd.int .i64) w A0_0 l0_0.length l0_0) (hc0_0 : l0_0.length ≤ c0_0) (h : laws_szHart.f l0_0 a0_1 a0_2 a1 = some r) :
  Calls Try.prog 51 #[.agg #[.slice A0_0 l0_0.length c0_0, .int .i64 a0_1, .int .i64 a0_2], .int .i64 a1] w fun e w' => e = .returned (.int .i64 r) ∧ Below w.heap.size w w' := by
 have hu68 := Try.underlying68
 have HR0_0 := zM hr0_0
 have HC0_0 := zM hc0_0
 clear hr0_0 hc0_0
 have HB := zM (Below.refl w.heap.size w)
 unfold laws_szHart.f at h
 have H := h
 clear h
 replace H := zO H
 obtain ⟨t403, A3, H⟩ := H
 by_cases c4 : t403 < 0
 ·rw [if_pos c4] at H
  have c4b0 := decide_eq_true c4
  clear c4
  obtain rfl := Option.some.inj H
  go_enter Try.func51, Try.ntmps51
  go_wp2_with (first | ((with_reducible refine gate_dst (N := 2) rfl ?_); refine box_event ?hg (N := 2) ?hd (cs := #[.slice A0_0 l0_0.length c0_0, .int .i64 a0_1, .int .i64 a0_2]) (t := 68) ?hr ?_; (case hd => rfl); (case hg => rfl); (case hr => exact zHH); intro gb402 hg w5 hbox hb; have BK402 := zM hbox; have GW402 := zM (zW hg (below_size zB0)); have GE402 := zM (zW hg (below_size zB0)); replace HB := zM (below_step zB0 hb); clear hb hbox hg; have hcz6 := zc_3 (w := w5) BK402.1) | ((with_reducible refine gate_callee (f := 76) rfl ?_); refine goesL_ (some 8) rfl rfl Try.func76 (by kernel_rfl) rfl #[.slice A0_0 l0_0.length c0_0, .int .i64 a1] rfl zT ?_; (with_reducible refine (laws_szIntS.calls _ _ l0_0 a1 t403 _ ?side1 ?side2 A3.1).mono ?_); (case side1 => exact zC (Kd.C_below HR0_0.1 HB.1)); (case side2 => exact HC0_0.1); rintro e w' ⟨rfl, ⟨nd, rfl⟩⟩; refine ⟨_, rfl, ?_⟩))
  go_ret
  exact ⟨zE, zB44⟩
 rw [if_neg c4] at H
 have c4b0 := decide_eq_false c4
 clear c4
 obtain rfl := Option.some.inj H
 go_enter Try.func51, Try.ntmps51
 go_wp2_with (first | ((with_reducible refine gate_dst (N := 2) rfl ?_); refine box_event ?hg (N := 2) ?hd (cs := #[.slice A0_0 l0_0.length c0_0, .int .i64 a0_1, .int .i64 a0_2]) (t := 68) ?hr ?_; (case hd => rfl); (case hg => rfl); (case hr => exact zHH); intro gb402 hg w7 hbox hb; have BK402 := zM hbox; have GW402 := zM (zW hg (below_size zB0)); have GE402 := zM (zW hg (below_size zB0)); replace HB := zM (below_step zB0 hb); clear hb hbox hg; have hcz8 := zc_3 (w := w7) BK402.1) | ((with_reducible refine gate_callee (f := 76) rfl ?_); refine goesL_ (some 8) rfl rfl Try.func76 (by kernel_rfl) rfl #[.slice A0_0 l0_0.length c0_0, .int .i64 a1] rfl zT ?_; (with_reducible refine (laws_szIntS.calls _ _ l0_0 a1 t403 _ ?side1 ?side2 A3.1).mono ?_); (case side1 => exact zC (Kd.C_below HR0_0.1 HB.1)); (case side2 => exact HC0_0.1); rintro e w' ⟨rfl, ⟨nd, rfl⟩⟩; refine ⟨_, rfl, ?_⟩))
 go_ret
 exact ⟨zE, zB44⟩

/-! ### laws_szHartS: function 20 -/
def laws_szHartS.l0 : Nat → List (S68) → Int → Int → Option (Int)
 | 0, _, _, _ => none
 | k + 1, x0, x1, x5 => if x5 < (x0.length : Int) then (if 0 ≤ x5 then ((laws_szHart.f ((rd_T68 x0 x5).f0) ((rd_T68 x0 x5).f1) ((rd_T68 x0 x5).f2) x1).bind fun t405 => (if t405 < 0 then (some (-1)) else (laws_szHartS.l0 k x0 t405 (wrap64 (x5 + 1))))) else (none)) else (some x1)
def laws_szHartS.f (k : Nat) (l0 : List (S68)) (a1 : Int) : Option (Int) := if (wrap64 (a1 - (l0.length : Int))) < 0 then (some (-1)) else (laws_szHartS.l0 k l0 (wrap64 (a1 - (l0.length : Int))) 0)
theorem laws_szHartS.mono_l : ∀ k, (∀ y0 y1 y2, LeO (laws_szHartS.l0 k y0 y1 y2) (laws_szHartS.l0 (k + 1) y0 y1 y2))
 | 0 => fun _ _ _ r h => by simp [laws_szHartS.l0] at h
 | k + 1 => by
  have ih0 := laws_szHartS.mono_l k
  ·intros
   unfold laws_szHartS.l0
   exact zL
theorem laws_szHartS.mono : ∀ a0 a1 k, LeO (laws_szHartS.f k a0 a1) (laws_szHartS.f (k + 1) a0 a1) := by
 intro a0 a1 k
 have ih0 := laws_szHartS.mono_l k
 unfold laws_szHartS.f
 exact zL
theorem laws_szHartS.calls (k : Nat) (A0 : Option Addr) (c0 : Nat) (l0 : List (S68)) (a1 : Int) (r : Int) (w : World) (hr0 : Kd.C k68 w A0 l0.length l0) (hc0 : l0.length ≤ c0) (h : laws_szHartS.f k l0 a1 = some r) :
  Calls Try.prog 20 #[.slice A0 l0.length c0, .int .i64 a1] w fun e w' => e = .returned (.int .i64 r) ∧ Below w.heap.size w w' := by
 have hu68 := Try.underlying68
 have HR0 := zM hr0
 have HC0 := zM hc0
 clear hr0 hc0
 have HB := zM (Below.refl w.heap.size w)
 unfold laws_szHartS.f at h
 have H := h
 clear h
 by_cases c3 : (wrap64 (a1 - (l0.length : Int))) < 0
 ·rw [if_pos c3] at H
  have c3b0 := decide_eq_true c3
  clear c3
  obtain rfl := Option.some.inj H
  go_enter Try.func20, Try.ntmps20
  go_wp2
  go_ret
  exact ⟨zE, zB0⟩
 rw [if_neg c3] at H
 have c3b0 := decide_eq_false c3
 clear c3
 have H' := zM H
 clear H
 go_enter Try.func20, Try.ntmps20
 go_wp2
 go_loopg [1, 5] k (fun kq v1 v5 w' => ∃ (x1_1 : Int) (x5_1 : Int), v1 = .int .i64 x1_1 ∧ v5 = .int .i64 x5_1 ∧ Aside0 (laws_szHartS.l0 kq l0 x1_1 x5_1 = some r) ∧ Aside0 (kq ≤ k) ∧ Aside0 (Below w.heap.size w w'))
 case atStart => exact ⟨(wrap64 (a1 - (l0.length : Int))), (0), zJJ, zJJ, H', ⟨Nat.le_refl _⟩, ⟨zB0⟩⟩
 case round =>
  clear H'
  try clear c2
  try clear p2
  try clear c3
  try clear c3b0
  obtain ⟨x1_1, x5_1, rfl, rfl, HA, HK1, HB⟩ := hrel
  cases gk with
  | zero => exact absurd HA.1 (by simp [laws_szHartS.l0])
  | succ k1 =>
   have H := HA.1
   clear HA
   simp only [laws_szHartS.l0] at H
   by_cases c4 : x5_1 < (l0.length : Int)
   rotate_left
   ·rw [if_neg c4] at H
    have c4b0 := decide_eq_false c4
    clear c4
    obtain rfl := Option.some.inj H
    go_wp2
    go_ret
    exact ⟨zE, zB0⟩
   rw [if_pos c4] at H
   have c4b0 := decide_eq_true c4
   clear c4
   by_cases c5 : 0 ≤ x5_1
   rotate_left
   ·rw [if_neg c5] at H
    exact absurd H (by simp)
   rw [if_pos c5] at H
   have c5b0 := decide_eq_true c5
   clear c5
   replace H := zO H
   obtain ⟨t405, A6, H⟩ := H
   by_cases c7 : t405 < 0
   ·rw [if_pos c7] at H
    have c7b0 := decide_eq_true c7
    clear c7
    obtain rfl := Option.some.inj H
    have p404 : 0 ≤ (x5_1 : Int) := zA
    have q404 : x5_1 < (l0.length : Int) := zA
    obtain ⟨ad404, A404_0, c404_0, e404, hx404_0, hx404_1, hx404_2, hl404_0, hi404_0⟩ := at_T68 HR0.1 x5_1 p404 q404
    cases e404
    replace hx404_0 := (HB.1.cell (World.block_lt_of_cell? w _ hx404_0)).trans hx404_0
    replace hx404_1 := (HB.1.cell (World.block_lt_of_cell? w _ hx404_1)).trans hx404_1
    replace hx404_2 := (HB.1.cell (World.block_lt_of_cell? w _ hx404_2)).trans hx404_2
    have HR404_0 := zM hi404_0
    have HC404_0 := zM hl404_0
    clear hi404_0 hl404_0
    replace p404 := eq_true p404
    replace q404 := eq_true q404
    go_wp2_with (first | ((with_reducible refine gate_callee (f := 51) rfl ?_); refine goesL_ (some 23) rfl rfl Try.func51 (by kernel_rfl) rfl #[.agg #[.slice A404_0 ((rd_T68 l0 x5_1).f0).length c404_0, .int .i64 ((rd_T68 l0 x5_1).f1), .int .i64 ((rd_T68 l0 x5_1).f2)], .int .i64 x1_1] rfl zT ?_; (with_reducible refine (laws_szHart.calls _ _ ((rd_T68 l0 x5_1).f0) ((rd_T68 l0 x5_1).f1) ((rd_T68 l0 x5_1).f2) x1_1 t405 _ ?side1 ?side2 A6.1).mono ?_); (case side1 => exact zC (Kd.C_below HR404_0.1 HB.1)); (case side2 => exact HC404_0.1); rintro e w8 ⟨rfl, hb⟩; refine ⟨_, rfl, ?_⟩; replace HB := zM (below_step zB0 hb); clear hb))
    go_ret
    exact ⟨zE, zB0⟩
   rw [if_neg c7] at H
   have c7b0 := decide_eq_false c7
   clear c7
   have H' := zM H
   clear H
   have p404 : 0 ≤ (x5_1 : Int) := zA
   have q404 : x5_1 < (l0.length : Int) := zA
   obtain ⟨ad404, A404_0, c404_0, e404, hx404_0, hx404_1, hx404_2, hl404_0, hi404_0⟩ := at_T68 HR0.1 x5_1 p404 q404
   cases e404
   replace hx404_0 := (HB.1.cell (World.block_lt_of_cell? w _ hx404_0)).trans hx404_0
   replace hx404_1 := (HB.1.cell (World.block_lt_of_cell? w _ hx404_1)).trans hx404_1
   replace hx404_2 := (HB.1.cell (World.block_lt_of_cell? w _ hx404_2)).trans hx404_2
   have HR404_0 := zM hi404_0
   have HC404_0 := zM hl404_0
   clear hi404_0 hl404_0
   replace p404 := eq_true p404
   replace q404 := eq_true q404
   go_wp2_with (first | ((with_reducible refine gate_callee (f := 51) rfl ?_); refine goesL_ (some 23) rfl rfl Try.func51 (by kernel_rfl) rfl #[.agg #[.slice A404_0 ((rd_T68 l0 x5_1).f0).length c404_0, .int .i64 ((rd_T68 l0 x5_1).f1), .int .i64 ((rd_T68 l0 x5_1).f2)], .int .i64 x1_1] rfl zT ?_; (with_reducible refine (laws_szHart.calls _ _ ((rd_T68 l0 x5_1).f0) ((rd_T68 l0 x5_1).f1) ((rd_T68 l0 x5_1).f2) x1_1 t405 _ ?side1 ?side2 A6.1).mono ?_); (case side1 => exact zC (Kd.C_below HR404_0.1 HB.1)); (case side2 => exact HC404_0.1); rintro e w9 ⟨rfl, hb⟩; refine ⟨_, rfl, ?_⟩; replace HB := zM (below_step zB0 hb); clear hb))
   go_roundg k1
   case measure => have := HK1.1; omega
   case rel => exact ⟨(t405), (wrap64 (x5_1 + 1)), zJJ, zJJ, H', ⟨by have := HK1.1; omega⟩, ⟨zB0⟩⟩

/-! ### laws_toIntS: function 22 -/
def laws_toIntS.l0 : Nat → List Int → List Int → Int → Option (List Int)
 | 0, _, _, _ => none
 | k + 1, x0, x3, x4 => if x4 < (x0.length : Int) then (if 0 ≤ x4 then (if x4 < (x3.length : Int) then (laws_toIntS.l0 k x0 (x3.set (x4 : Int).toNat (rd x0 x4)) (wrap64 (x4 + 1))) else (none)) else (none)) else (some x3)
def laws_toIntS.f (k : Nat) (l0 : List Int) : Option (List Int) := if 0 ≤ (l0.length : Int) then (if ((l0.length : Int) : Int).toNat ≤ 35184372088832 then (laws_toIntS.l0 k l0 (List.replicate ((l0.length : Int) : Int).toNat 0) 0) else (none)) else (none)
theorem laws_toIntS.mono_l : ∀ k, (∀ y0 y1 y2, LeO (laws_toIntS.l0 k y0 y1 y2) (laws_toIntS.l0 (k + 1) y0 y1 y2))
 | 0 => fun _ _ _ r h => by simp [laws_toIntS.l0] at h
 | k + 1 => by
  have ih0 := laws_toIntS.mono_l k
  ·intros
   unfold laws_toIntS.l0
   exact zL
theorem laws_toIntS.mono : ∀ a0 k, LeO (laws_toIntS.f k a0) (laws_toIntS.f (k + 1) a0) := by
 intro a0 k
 have ih0 := laws_toIntS.mono_l k
 unfold laws_toIntS.f
 exact zL
theorem laws_toIntS.calls (k : Nat) (A0 : Option Addr) (c0 : Nat) (l0 : List Int) (r : List Int) (w : World) (hr0 : Kd.C (Kd.int .i64) w A0 l0.length l0) (hc0 : l0.length ≤ c0) (h : laws_toIntS.f k l0 = some r) :
  Calls Try.prog 22 #[.slice A0 l0.length c0] w fun e w' => ∃ v0_ : Value, e = .returned (v0_) ∧ Kd.R (Kd.int .i64) 3 w' w.heap.size (fun _ => True) v0_ r ∧ Below w.heap.size w w' := by
 have HR0 := zM hr0
 have HC0 := zM hc0
 clear hr0 hc0
 have HB := zM (Below.refl w.heap.size w)
 unfold laws_toIntS.f at h
 have H := h
 clear h
 by_cases c2 : 0 ≤ (l0.length : Int)
 rotate_left
 ·rw [if_neg c2] at H
  exact absurd H (by simp)
 rw [if_pos c2] at H
 have c2b0 := eq_true c2
 have c2b1 : decide (0 ≤ (l0.length : Int)) = true := decide_eq_true c2
 clear c2
 by_cases c3 : ((l0.length : Int) : Int).toNat ≤ 35184372088832
 rotate_left
 ·rw [if_neg c3] at H
  exact absurd H (by simp)
 rw [if_pos c3] at H
 have c3b0 := eq_true c3
 have c3b1 : decide (((l0.length : Int) : Int).toNat ≤ 35184372088832) = true := decide_eq_true c3
 clear c3
 obtain ⟨y406, hy406⟩ : ∃ y_ : List Int, y_ = (List.replicate ((l0.length : Int) : Int).toNat 0) := ⟨_, rfl⟩
 replace H : (laws_toIntS.l0 k l0 y406 0) = some r := by first | (rw [hy406]; with_reducible exact H) | (have H2_ := (Option.bind_some _ _).symm.trans H; rw [hy406]; with_reducible exact H2_) | (have H2_ := (Option.bind_some _ _).symm.trans H; with_reducible exact H2_) | with_reducible exact H | (rw [hy406]; exact H) | exact H
 have Ny406 := zM hy406
 clear hy406
 have H' := zM H
 clear H
 go_enter Try.func22, Try.ntmps22
 go_wp2_with (first | ((with_reducible refine gate_dst (N := 7) rfl ?_); refine Kd.R_make (Kd.int .i64) _ 3 rfl (N := 7) rfl 24 _ _ rfl (l0.length : Int) rfl rfl Try.underlying24 (.int .i64 0) 8 info3 rfl (by decide) (by omega) 0 (ok := fun _ => True) (okp := fun _ => True) rfl (fun _ hk => hk) trivial zA (Nat.le_trans (Nat.mul_le_mul_right _ (zA : (l0.length : Int).toNat ≤ 35184372088832)) (by omega)) (Below.refl _ _) (Nat.le_refl _) ?_; intro v407 w4 ho5 hb hg_ hnew_; clear hg_ hnew_; (first | rw [← Ny406.1] at ho5 | (simp only [Int.reduceToNat] at ho5; rw [← Ny406.1] at ho5)); have HO408 := zM (Kd.R_lower ho5 (below_size zB0)); replace HB := zM (below_step zB0 hb); clear hb ho5))
 go_loopg [4] k (fun kq v4 w' => ∃ (x3_1 : List Int) (x4_1 : Int), v4 = .int .i64 x4_1 ∧ Aside0 (laws_toIntS.l0 kq l0 x3_1 x4_1 = some r) ∧ Aside0 (kq ≤ k) ∧ Aside0 (Kd.R (Kd.int .i64) 3 w' w.heap.size (fun _ => True) v407 x3_1) ∧ Aside0 (Below w.heap.size w w'))
 case atStart => exact ⟨(y406), (0), zJJ, H', ⟨Nat.le_refl _⟩, ⟨zR HO408.1⟩, ⟨zB0⟩⟩
 case round =>
  clear H'
  try clear c2
  try clear c2b0
  try clear c2b1
  try clear p2
  try clear c3
  try clear c3b0
  try clear c3b1
  obtain ⟨x3_1, x4_1, rfl, HA, HK1, HO_3, HB⟩ := hrel
  cases gk with
  | zero => exact absurd HA.1 (by simp [laws_toIntS.l0])
  | succ k1 =>
   have H := HA.1
   clear HA
   simp only [laws_toIntS.l0] at H
   by_cases c6 : x4_1 < (l0.length : Int)
   rotate_left
   ·rw [if_neg c6] at H
    have c6b0 := decide_eq_false c6
    clear c6
    obtain rfl := Option.some.inj H
    go_wp2
    go_ret
    exact ⟨_, zE, zR HO_3.1, zB0⟩
   rw [if_pos c6] at H
   have c6b0 := decide_eq_true c6
   clear c6
   by_cases c7 : 0 ≤ x4_1
   rotate_left
   ·rw [if_neg c7] at H
    exact absurd H (by simp)
   rw [if_pos c7] at H
   have c7b0 := decide_eq_true c7
   clear c7
   by_cases c8 : x4_1 < (x3_1.length : Int)
   rotate_left
   ·rw [if_neg c8] at H
    exact absurd H (by simp)
   rw [if_pos c8] at H
   have c8b0 := decide_eq_true c8
   clear c8
   obtain ⟨y410, hy410⟩ : ∃ y_ : List Int, y_ = (x3_1.set (x4_1 : Int).toNat (rd l0 x4_1)) := ⟨_, rfl⟩
   replace H : (laws_toIntS.l0 k1 l0 y410 (wrap64 (x4_1 + 1))) = some r := by first | (rw [hy410]; with_reducible exact H) | (have H2_ := (Option.bind_some _ _).symm.trans H; rw [hy410]; with_reducible exact H2_) | (have H2_ := (Option.bind_some _ _).symm.trans H; with_reducible exact H2_) | with_reducible exact H | (rw [hy410]; exact H) | exact H
   have Ny410 := zM hy410
   clear hy410
   have H' := zM H
   clear H
   have p409 : 0 ≤ (x4_1 : Int) := zA
   have q409 : x4_1 < (l0.length : Int) := zA
   obtain ⟨ad409, e409, hx409_0⟩ := Kd.at_int HR0.1 x4_1 p409 q409
   cases e409
   replace hx409_0 := (HB.1.cell (World.block_lt_of_cell? w _ hx409_0)).trans hx409_0
   replace p409 := eq_true p409
   replace q409 := eq_true q409
   have p9 : 0 ≤ (x4_1 : Int) := zA
   have q9 : (x4_1 : Int) < ((x3_1.length : Int) : Int) := zA
   obtain ⟨go9, co9, eo9, gb9, gl9, cl9, HG9⟩ := Kd.R_form HO_3.1 (by omega)
   (first | cases eo9 | (injection eo9 with ea_ en_ ec_; (first | subst ea_ | (injection ea_ with ea_; subst ea_)); subst ec_; clear en_))
   have GB9 := zM gb9
   have GG9 := zM HG9
   clear gb9 gl9 HG9
   obtain ⟨hx9_0, hf9_0⟩ := Kd.R_celln 0 HO_3.1 (x4_1 : Int) p9 q9
   replace p9 := eq_true p9
   replace q9 := eq_true q9
   have HP10 := Kd.R_putg HO_3.1 (x4_1 : Int) (rd l0 x4_1)
   go_wp2_with (first | ((with_reducible refine gate_store (t := 3) (p := 20) rfl ?_); refine store_event (t := 3) (p := 20) (v := ?vo_w11) (w1 := (wr.setCell ⟨go9, (x4_1 : Int).toNat, none⟩ (.int .i64 (rd l0 x4_1)))) ?hg ?ho ?hn ?hr ?_; (case ho => rfl); (case hg => rfl); (case hn => rfl); (case hr => exact zHH); intro w11 hw; have hg : wr.grownBy w11 (some go9) := (by rw [hw]; exact HP10.2); have hp_ : Kd.R (Kd.int .i64) 3 w11 w.heap.size (fun _ => True) (.slice (some ⟨go9, 0, none⟩) x3_1.length co9) y410 := (by rw [hw, Ny410.1]; exact HP10.1); clear HP10; replace HO_3 := zM hp_; replace HB := zM ((by rw [hw]; exact below_set (HB.1) GB9.1 : Below w.heap.size w w11)); clear hg hw hp_))
   go_roundg k1
   case measure => have := HK1.1; omega
   case rel => exact ⟨(y410), (wrap64 (x4_1 + 1)), zJJ, H', ⟨by have := HK1.1; omega⟩, ⟨zR HO_3.1⟩, ⟨zB0⟩⟩

/-! ### laws_toHart: function 55 -/
def laws_toHart.f (k : Nat) (l0_0 : List Int) (a0_1 : Int) (a0_2 : Int) : Option (List Int × Int × Int) := (laws_toIntS.f k l0_0).bind fun t414 => (some (t414, a0_1, a0_2))
theorem laws_toHart.mono : ∀ a0 a1 a2 k, LeO (laws_toHart.f k a0 a1 a2) (laws_toHart.f (k + 1) a0 a1 a2) := by
 intro a0 a1 a2 k
 unfold laws_toHart.f
 have mo0 := @laws_toIntS.mono
 exact zL
theorem laws_toHart.calls (k : Nat) (A0_0 : Option Addr) (c0_0 : Nat) (l0_0 : List Int) (a0_1 : Int) (a0_2 : Int) (r1 : List Int) (r2 : Int) (r3 : Int) (w : World) (hr0_0 : Kd.C (Kd.int .i64) w A0_0 l0_0.length l0_0) (hc0_0 : l0_0.length ≤ c0_0) (h : laws_toHart.f k l0_0 a0_1 a0_2 = some (r1, r2, r3)) :
  Calls Try.prog 55 #[.agg #[.slice A0_0 l0_0.length c0_0, .int .i64 a0_1, .int .i64 a0_2]] w fun e w' => ∃ v0_ : Value, e = .returned (.agg #[v0_, .int .i64 r2, .int .i64 r3]) ∧ Kd.R (Kd.int .i64) 3 w' w.heap.size (fun _ => True) v0_ r1 ∧ Below w.heap.size w w' := by
 have hu68 := Try.underlying68
 have hu29 := Try.underlying29
 have HR0_0 := zM hr0_0
 have HC0_0 := zM hc0_0
 clear hr0_0 hc0_0
 have HB := zM (Below.refl w.heap.size w)
 unfold laws_toHart.f at h
 have H := h
 clear h
 replace H := zO H
 obtain ⟨t414, A2, H⟩ := H
 simp only [Option.some.injEq, Prod.mk.injEq] at H
 obtain ⟨rfl, rfl, rfl⟩ := H
 go_enter Try.func55, Try.ntmps55
 go_wp2_with (first | ((with_reducible refine gate_dst (N := 1) rfl ?_); refine box_event ?hg (N := 1) ?hd (cs := #[.slice A0_0 l0_0.length c0_0, .int .i64 a0_1, .int .i64 a0_2]) (t := 68) ?hr ?_; (case hd => rfl); (case hg => rfl); (case hr => exact zHH); intro gb411 hg w3 hbox hb; have BK411 := zM hbox; have GW411 := zM (zW hg (below_size zB0)); have GE411 := zM (zW hg (below_size zB0)); replace HB := zM (below_step zB0 hb); clear hb hbox hg) | ((with_reducible refine gate_dst (N := 2) rfl ?_); refine box_event ?hg (N := 2) ?hd (cs := #[.slice none 0 0, .int .i64 0, .int .i64 0]) (t := 29) ?hr ?_; (case hd => rfl); (case hg => rfl); (case hr => exact zHH); intro gb412 hg w4 hbox hb; have BK412 := zM hbox; have GW412 := zM (zW hg (below_size zB45)); have GE412 := zM (zW hg (below_size zB45)); replace HB := zM (below_step zB45 hb); have NB411_412 := zM ((zn BK411.1 hg : gb411 ≠ gb412)); have NB412_411 := zM ((zm BK411.1 hg : gb412 ≠ gb411)); replace BK411 := zM (zb BK411.1 hb); clear hb hbox hg) | ((with_reducible refine gate_dst (N := 3) rfl ?_); refine box_event ?hg (N := 3) ?hd (cs := #[.slice none 0 0, .int .i64 0, .int .i64 0]) (t := 29) ?hr ?_; (case hd => rfl); (case hg => rfl); (case hr => exact zHH); intro gb413 hg w5 hbox hb; have BK413 := zM hbox; have GW413 := zM (zW hg (below_size zB46)); have GE413 := zM (zW hg (below_size zB46)); replace HB := zM (below_step zB46 hb); have NB411_413 := zM ((zn BK411.1 hg : gb411 ≠ gb413)); have NB413_411 := zM ((zm BK411.1 hg : gb413 ≠ gb411)); replace BK411 := zM (zb BK411.1 hb); have NB412_413 := zM ((zn BK412.1 hg : gb412 ≠ gb413)); have NB413_412 := zM ((zm BK412.1 hg : gb413 ≠ gb412)); replace BK412 := zM (zb BK412.1 hb); clear hb hbox hg; have hnb6 := NB411_412.1; have hnc6 := NB412_411.1; have hnb7 := NB411_413.1; have hnc7 := NB413_411.1; have hcz8 := zc_3 (w := w5) BK411.1) | ((with_reducible refine gate_callee (f := 22) rfl ?_); refine goesL_ (some 6) rfl rfl Try.func22 (by kernel_rfl) rfl #[.slice A0_0 l0_0.length c0_0] rfl zT ?_; (with_reducible refine (laws_toIntS.calls k _ _ l0_0 t414 _ ?side1 ?side2 A2.1).mono ?_); (case side1 => exact zC (Kd.C_below HR0_0.1 HB.1)); (case side2 => exact HC0_0.1); rintro e w9 ⟨v415, rfl, ho0, hb⟩; refine ⟨_, rfl, ?_⟩; have HO416 := zM (Kd.R_lower ho0 (below_size zB47)); replace BK411 := zM (zb BK411.1 hb); replace BK412 := zM (zb BK412.1 hb); replace BK413 := zM (zb BK413.1 hb); replace HB := zM (below_step zB47 hb); clear hb ho0; obtain ⟨Ao10, co10, eo10⟩ := Kd.R_slice HO416.1; subst eo10; have hnb11 := NB413_412.1; have hnc11 := NB412_413.1; have hcz12 := zc_3 (w := w9) BK413.1; have hcz13 := zc_3 (w := w9) BK411.1; have hcz14 := zc_3 (w := w9) BK412.1))
 refine bodyPost_ret (results_cell_row rfl _ _ gb412 29 #[.slice Ao10 t414.length co10, .int .i64 a0_1, .int .i64 a0_2] (0, 0) _ rfl (by refine zP ?_; refine blk_put (cs := #[.slice Ao10 t414.length co10, .int .i64 a0_1, .int .i64 0]) ?_ 2 _ rfl; refine zP ?_; refine blk_put (cs := #[.slice Ao10 t414.length co10, .int .i64 0, .int .i64 0]) ?_ 1 _ rfl; refine zP ?_; refine blk_put (cs := #[.slice none 0 0, .int .i64 0, .int .i64 0]) ?_ 0 _ rfl; refine zP ?_; refine blk_far ?_ NB412_413.1 _; refine zP ?_; refine blk_far ?_ NB412_413.1 _; refine zP ?_; refine blk_far ?_ NB412_413.1 _; refine zP ?_; exact BK412.1) Try.underlying29 rfl (by kernel_rfl)) rfl ?_
 exact ⟨_, zE, by refine zrR ?_; exact Kd.R_mono (Kd.R_far (p := ⟨gb412, 2, none⟩) (Kd.R_far (p := ⟨gb412, 1, none⟩) (Kd.R_far (p := ⟨gb412, 0, none⟩) (Kd.R_far (p := ⟨gb413, 2, none⟩) (Kd.R_far (p := ⟨gb413, 1, none⟩) (Kd.R_far (p := ⟨gb413, 0, none⟩) (Kd.R_types (Kd.R_types HO416.1 BK413.1 (by decide)) BK412.1 (by decide)) (fun _ hk => hk.1.2) (.slice Ao10 t414.length co10)) (fun _ hk => hk.1.2) (.int .i64 a0_1)) (fun _ hk => hk.1.2) (.int .i64 a0_2)) (fun _ hk => hk.2) (.slice Ao10 t414.length co10)) (fun _ hk => hk.2) (.int .i64 a0_1)) (fun _ hk => hk.2) (.int .i64 a0_2)) (fun _ hk => trivial), zB47⟩

end Go.Proofs.Ytnjdepmlpdjghaa.PFnExactFinals
