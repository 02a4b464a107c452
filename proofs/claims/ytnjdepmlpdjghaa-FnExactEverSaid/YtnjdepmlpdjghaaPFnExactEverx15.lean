-- made by wip/tools/myprint.py out of the seat's translation
import Derived.Test.YtnjdepmlpdjghaaPFnExactEverx0
import Derived.Test.YtnjdepmlpdjghaaPFnExactEverx8
import Derived.Test.YtnjdepmlpdjghaaPFnExactEverx9
import Derived.Test.YtnjdepmlpdjghaaPFnExactEverx10
import Derived.Test.YtnjdepmlpdjghaaPFnExactEverx14
namespace Go.Proofs.Ytnjdepmlpdjghaa.PFnExactEver
open Go.RowKit Go.Proofs.YtnjdepmlpdjghaaW.PrintWords Go.Proofs.YtnjdepmlpdjghaaW.PrintLast Go.Proofs.YtnjdepmlpdjghaaW.PrintMore
attribute [local go_sem] max2_int min2_int max_two min_two max_three min_three max_four min_four   -- for this text's walks alone
set_option linter.unusedVariables false
set_option linter.unusedSimpArgs false
set_option maxHeartbeats 8000000
set_option maxRecDepth 100000

/-! ### spec_Finals: function 18 -/
mutual
def spec_Finals.j1 : Nat → List Bool → Option (List Int)
 | 0, _ => none
 | k + 1, x9 => spec_Finals.l1 k x9 (([] : List Int)) 0
def spec_Finals.l1 : Nat → List Bool → List Int → Int → Option (List Int)
 | 0, _, _, _ => none
 | k + 1, x9, x12, x13 => if x13 < (x9.length : Int) then (if 0 ≤ x13 then (if rdOf false x9 x13 = true then (if x12.length < 17592186044416 then (spec_Finals.l1 k x9 (x12 ++ [x13]) (wrap64 (x13 + 1))) else (none)) else (spec_Finals.l1 k x9 x12 (wrap64 (x13 + 1)))) else (none)) else (some x12)
def spec_Finals.l0 : Nat → Int → List Bool → List (List Int) → Int → Option (List Int)
 | 0, _, _, _, _ => none
 | k + 1, x3, x9, x10, x11 => if x11 < (x10.length : Int) then ((spec_l1In.f x3 0 23).bind fun t430 => (if t430 = true then (if 0 ≤ x11 then (if 0 ≤ x3 then (if x3 < ((rd_L2 x10 x11).length : Int) then (if 0 ≤ (rd (rd_L2 x10 x11) x3) then (if (rd (rd_L2 x10 x11) x3) < (x9.length : Int) then (spec_Finals.l0 k x3 (x9.set ((rd (rd_L2 x10 x11) x3) : Int).toNat true) x10 (wrap64 (x11 + 1))) else (none)) else (none)) else (none)) else (none)) else (none)) else (spec_Finals.j1 k x9))) else (spec_Finals.j1 k x9)
end
def spec_Finals.f (k : Nat) (l0 : List Int) (l1 : List (S29)) (a2 : Int) (a3 : Int) : Option (List Int) := (spec_Ends2.f k l0 l1 a2).bind fun t427 => (spec_Finals.l0 k a3 (List.replicate 65536 false) t427 0)
theorem spec_Finals.mono_l : ∀ k, (∀ y0, LeO (spec_Finals.j1 k y0) (spec_Finals.j1 (k + 1) y0)) ∧ (∀ y0 y1 y2, LeO (spec_Finals.l1 k y0 y1 y2) (spec_Finals.l1 (k + 1) y0 y1 y2)) ∧ (∀ y0 y1 y2 y3, LeO (spec_Finals.l0 k y0 y1 y2 y3) (spec_Finals.l0 (k + 1) y0 y1 y2 y3))
 | 0 => ⟨fun _ r h => by simp [spec_Finals.j1] at h, fun _ _ _ r h => by simp [spec_Finals.l1] at h, fun _ _ _ _ r h => by simp [spec_Finals.l0] at h⟩
 | k + 1 => by
  obtain ⟨ih0, ih1, ih2⟩ := spec_Finals.mono_l k
  refine ⟨?_, ?_, ?_⟩
  ·intros
   unfold spec_Finals.j1
   have mo0 := @spec_Ends2.mono
   exact zL
  ·intros
   unfold spec_Finals.l1
   have mo0 := @spec_Ends2.mono
   exact zL
  ·intros
   unfold spec_Finals.l0
   have mo0 := @spec_Ends2.mono
   exact zL
theorem spec_Finals.mono : ∀ a0 a1 a2 a3 k, LeO (spec_Finals.f k a0 a1 a2 a3) (spec_Finals.f (k + 1) a0 a1 a2 a3) := by
 intro a0 a1 a2 a3 k
 obtain ⟨ih0, ih1, ih2⟩ := spec_Finals.mono_l k
 unfold spec_Finals.f
 have mo0 := @spec_Ends2.mono
 exact zL
theorem spec_Finals.calls (k : Nat) (A0 : Option Addr) (c0 : Nat) (l0 : List Int) (A1 : Option Addr) (c1 : Nat) (l1 : List (S29)) (a2 : Int) (a3 : Int) (r : List Int) (w : World) (hr0 : Kd.C (Kd.int .i64) w A0 l0.length l0) (hc0 : l0.length ≤ c0) (hr1 : Kd.C k29 w A1 l1.length l1) (hc1 : l1.length ≤ c1) (h : spec_Finals.f k l0 l1 a2 a3 = some r) :
  Calls Try.prog 18 #[.slice A0 l0.length c0, .slice A1 l1.length c1, .int .i64 a2, .int .i64 a3] w fun e w' => ∃ v0_ : Value, e = .returned (v0_) ∧ Kd.R (Kd.int .i64) 3 w' w.heap.size (fun _ => True) v0_ r ∧ Below w.heap.size w w' := by
 have HR0 := zM hr0
 have HC0 := zM hc0
 clear hr0 hc0
 have HR1 := zM hr1
 have HC1 := zM hc1
 clear hr1 hc1
 have HB := zM (Below.refl w.heap.size w)
 unfold spec_Finals.f at h
 have H := h
 clear h
 obtain ⟨y424, hy424⟩ : ∃ y_ : List Bool, y_ = (List.replicate 65536 false) := ⟨_, rfl⟩
 replace H : ((spec_Ends2.f k l0 l1 a2).bind fun t427 => (spec_Finals.l0 k a3 y424 t427 0)) = some r := by first | (rw [hy424]; with_reducible exact H) | (have H2_ := (Option.bind_some _ _).symm.trans H; rw [hy424]; with_reducible exact H2_) | (have H2_ := (Option.bind_some _ _).symm.trans H; with_reducible exact H2_) | with_reducible exact H | (rw [hy424]; exact H) | exact H
 have Ny424 := zM hy424
 clear hy424
 replace H := zO H
 obtain ⟨t427, A5, H⟩ := H
 have HC6 := zM H
 clear H
 go_enter Try.func18, Try.ntmps18
 go_upto_block 0 with (first | ((with_reducible refine gate_dst (N := 14) rfl ?_); refine Kd.R_make Kd.bool _ 4 rfl (N := 14) rfl 66 _ _ rfl 65536 rfl rfl Try.underlying66 (.bool false) 1 info4 rfl (by decide) (by omega) false (ok := fun _ => True) (okp := fun _ => True) rfl (fun _ hk => hk) trivial (by omega) (by omega) (Below.refl _ _) (Nat.le_refl _) ?_; intro v425 w7 ho8 hb hg_ hnew_; clear hg_ hnew_; (first | rw [← Ny424.1] at ho8 | (simp only [Int.reduceToNat] at ho8; rw [← Ny424.1] at ho8)); have HO426 := zM (Kd.R_lower ho8 (below_size zB0)); replace HB := zM (below_step zB0 hb); clear hb ho8) | ((with_reducible refine gate_callee (f := 21) rfl ?_); refine goesL_ (some 18) rfl rfl Try.func21 (by kernel_rfl) rfl #[.slice A0 l0.length c0, .slice A1 l1.length c1, .int .i64 a2] rfl zT ?_; (with_reducible refine (spec_Ends2.calls k _ _ l0 _ _ l1 a2 t427 _ ?side1 ?side2 ?side3 ?side4 A5.1).mono ?_); (case side1 => exact zC (Kd.C_below HR0.1 HB.1)); (case side2 => exact HC0.1); (case side3 => exact zC (Kd.C_below HR1.1 HB.1)); (case side4 => exact HC1.1); rintro e w9 ⟨v428, rfl, ho0, hb⟩; refine ⟨_, rfl, ?_⟩; replace HO426 := zM (Kd.R_below (zR HO426.1) hb); have HO429 := zM (Kd.S_lower ho0 (below_size zB0)); replace HB := zM (below_step zB0 hb); clear hb ho0))
 (try simp only [Act.put, List.setIfInBounds_toArray, List.set_cons_zero, List.set_cons_succ])
 go_cut [] (fun wc => ∃ (kq : Nat) (x9_5 : List Bool), Aside0 (spec_Finals.j1 kq x9_5 = some r) ∧ Aside0 (kq ≤ k) ∧ Aside0 (Kd.R Kd.bool 4 wc w.heap.size (fun _ => True) v425 x9_5) ∧ Aside0 (Below w.heap.size w wc))
 case first =>
  have H := HC6.1
  clear HC6
  have H' := zM H
  clear H
  go_wp2
  go_loopg [11] k (fun kq v11 w' => ∃ (x9_1 : List Bool) (x11_1 : Int), v11 = .int .i64 x11_1 ∧ Aside0 (spec_Finals.l0 kq a3 x9_1 t427 x11_1 = some r) ∧ Aside0 (kq ≤ k) ∧ Aside0 (Kd.R Kd.bool 4 w' w.heap.size (fun _ => True) v425 x9_1) ∧ Aside0 (Kd.S (Kd.slice 3 (Kd.int .i64)) 24 w' w.heap.size (fun _ => True) v428 t427) ∧ Aside0 (Below w.heap.size w w'))
  case atStart => exact ⟨(y424), (0), zJJ, H', ⟨Nat.le_refl _⟩, ⟨zR HO426.1⟩, ⟨zS HO429.1⟩, ⟨zB0⟩⟩
  case round =>
   clear H'
   try clear c1
   try clear c2
   try clear p2
   obtain ⟨x9_1, x11_1, rfl, HA, HK1, HO_9, HO_10, HB⟩ := hrel
   cases gk with
   | zero => exact absurd HA.1 (by simp [spec_Finals.l0])
   | succ k1 =>
    have H := HA.1
    clear HA
    simp only [spec_Finals.l0] at H
    by_cases c10 : x11_1 < (t427.length : Int)
    rotate_left
    ·rw [if_neg c10] at H
     have c10b0 := decide_eq_false c10
     clear c10
     (first | rw [c10b0] | (simp only [i64_w, i32_w]; rw [c10b0]) | skip)
     have H' := zM H
     clear H
     obtain ⟨Ao23, co23, eo23⟩ := Kd.S_slice HO_10.1
     subst eo23
     go_wp2
     go_meet
     case rel => exact ⟨_, (x9_1), H', ⟨by have := HK1.1; first | omega | exact Nat.le_refl _⟩, ⟨zR HO_9.1⟩, ⟨zB0⟩⟩
    rw [if_pos c10] at H
    have c10b0 := decide_eq_true c10
    clear c10
    (first | rw [c10b0] | (simp only [i64_w, i32_w]; rw [c10b0]) | skip)
    replace H := zO H
    obtain ⟨t430, A11, H⟩ := H
    by_cases c12 : t430 = true
    rotate_left
    ·replace c12 := Bool.eq_false_iff.mpr c12
     subst c12
     rw [if_neg zF] at H
     have H' := zM H
     clear H
     obtain ⟨Ao22, co22, eo22⟩ := Kd.S_slice HO_10.1
     subst eo22
     go_wp2_with (first | (go_at_call 49; (with_reducible refine (spec_l1In.calls a3 0 23 false _ A11.1).mono ?_); rintro e w' ⟨rfl, ⟨nd, rfl⟩⟩))
     go_meet
     case rel => exact ⟨_, (x9_1), H', ⟨by have := HK1.1; first | omega | exact Nat.le_refl _⟩, ⟨zR HO_9.1⟩, ⟨zB0⟩⟩
    subst c12
    rw [if_pos rfl] at H
    by_cases c13 : 0 ≤ x11_1
    rotate_left
    ·rw [if_neg c13] at H
     exact absurd H (by simp)
    rw [if_pos c13] at H
    have c13b0 := decide_eq_true c13
    clear c13
    by_cases c14 : 0 ≤ a3
    rotate_left
    ·rw [if_neg c14] at H
     exact absurd H (by simp)
    rw [if_pos c14] at H
    have c14b0 := decide_eq_true c14
    clear c14
    by_cases c15 : a3 < ((rd_L2 t427 x11_1).length : Int)
    rotate_left
    ·rw [if_neg c15] at H
     exact absurd H (by simp)
    rw [if_pos c15] at H
    have c15b0 := decide_eq_true c15
    clear c15
    by_cases c16 : 0 ≤ (rd (rd_L2 t427 x11_1) a3)
    rotate_left
    ·rw [if_neg c16] at H
     exact absurd H (by simp)
    rw [if_pos c16] at H
    have c16b0 := decide_eq_true c16
    clear c16
    by_cases c17 : (rd (rd_L2 t427 x11_1) a3) < (x9_1.length : Int)
    rotate_left
    ·rw [if_neg c17] at H
     exact absurd H (by simp)
    rw [if_pos c17] at H
    have c17b0 := decide_eq_true c17
    clear c17
    obtain ⟨y433, hy433⟩ : ∃ y_ : List Bool, y_ = (x9_1.set ((rd (rd_L2 t427 x11_1) a3) : Int).toNat true) := ⟨_, rfl⟩
    replace H : (spec_Finals.l0 k1 a3 y433 t427 (wrap64 (x11_1 + 1))) = some r := by first | (rw [hy433]; with_reducible exact H) | (have H2_ := (Option.bind_some _ _).symm.trans H; rw [hy433]; with_reducible exact H2_) | (have H2_ := (Option.bind_some _ _).symm.trans H; with_reducible exact H2_) | with_reducible exact H | (rw [hy433]; exact H) | exact H
    have Ny433 := zM hy433
    clear hy433
    have H' := zM H
    clear H
    obtain ⟨Ao19, co19, eo19⟩ := Kd.S_slice HO_10.1
    subst eo19
    go_wp2_with (first | (go_at_call 49; (with_reducible refine (spec_l1In.calls a3 0 23 true _ A11.1).mono ?_); rintro e w' ⟨rfl, ⟨nd, rfl⟩⟩; (try (rw [drewN_self wr]; generalize hq_ : World.drewN wr _ = wr; have n0_ : Aside0 (Kd.S (Kd.slice 3 (Kd.int .i64)) 24 wr w.heap.size (fun _ => True) (.slice Ao19 t427.length co19) t427) := ⟨by rw [← hq_]; exact (zS HO_10.1)⟩; have n1_ : Aside0 (Kd.R Kd.bool 4 wr w.heap.size (fun _ => True) v425 x9_1) := ⟨by rw [← hq_]; exact (zR HO_9.1)⟩; have n2_ : Aside0 (Below w.heap.size w wr) := ⟨by rw [← hq_]; exact zB0⟩; clear HO_10 HO_9 HB hq_; have HO_10 := n0_; have HO_9 := n1_; have HB := n2_; clear n0_ n1_ n2_)); have p431 : 0 ≤ (x11_1 : Int) := zA; have q431 : x11_1 < (t427.length : Int) := zA; obtain ⟨ad431, A431_0, c431_0, e431, hx431_0, hl431_0, hi431_0⟩ := at_L2 (Kd.S_reads' HO_10.1).2.2 x11_1 p431 q431; cases e431; obtain ⟨ce431, hce431, hMe431, hcc431⟩ := Kd.S_get HO_10.1 [] x11_1 p431 (by first | exact q431 | exact zA | (have e_ := (Kd.S_reads' HO_10.1).1; omega)); obtain ⟨ve431_0, rfl, ge431_0⟩ := hMe431; have hv431_0 := hcc431 0 _ rfl; rw [Nat.add_zero, show ((Kd.slice 3 (Kd.int .i64))).sz = 1 from rfl, Nat.mul_one] at hv431_0; replace hv431_0 := Option.some.inj (hv431_0.symm.trans hx431_0); rw [hv431_0] at ge431_0; have HL431_0 := zM (show Kd.R (Kd.int .i64) 3 _ _ _ _ (rd_L2 t427 x11_1) from ge431_0); clear hv431_0 ge431_0; clear hcc431 hce431; have HR431_0 := zM hi431_0; have HC431_0 := zM hl431_0; clear hi431_0 hl431_0; replace p431 := eq_true p431; replace q431 := eq_true q431; have p432 : 0 ≤ (a3 : Int) := zA; have q432 : a3 < ((rd_L2 t427 x11_1).length : Int) := zA; obtain ⟨ad432, e432, hx432_0⟩ := Kd.at_int (zC HR431_0.1) a3 p432 q432; cases e432; replace p432 := eq_true p432; replace q432 := eq_true q432; have p18 : 0 ≤ ((rd (rd_L2 t427 x11_1) a3) : Int) := zA; have q18 : ((rd (rd_L2 t427 x11_1) a3) : Int) < ((x9_1.length : Int) : Int) := zA; obtain ⟨go18, co18, eo18, gb18, gl18, cl18, HG18⟩ := Kd.R_form HO_9.1 (by omega); (first | cases eo18 | (injection eo18 with ea_ en_ ec_; (first | subst ea_ | (injection ea_ with ea_; subst ea_)); subst ec_; clear en_)); have GB18 := zM gb18; have GG18 := zM HG18; clear gb18 gl18 HG18; obtain ⟨hx18_0, hf18_0⟩ := Kd.R_celln false HO_9.1 ((rd (rd_L2 t427 x11_1) a3) : Int) p18 q18; replace p18 := eq_true p18; replace q18 := eq_true q18; obtain ⟨hy20_, hz20_⟩ := Kd.R_celln false HO_9.1 ((rd (rd_L2 t427 x11_1) a3) : Int) zA zA; have HP20 := Kd.R_putg HO_9.1 ((rd (rd_L2 t427 x11_1) a3) : Int) true) | ((with_reducible refine gate_store (t := 4) (p := 37) rfl ?_); refine store_event (t := 4) (p := 37) (v := ?vo_w21) (w1 := (wr.setCell ⟨go18, ((rd (rd_L2 t427 x11_1) a3) : Int).toNat, none⟩ (.bool true))) ?hg ?ho ?hn ?hr ?_; (case ho => rfl); (case hg => rfl); (case hn => rfl); (case hr => exact zHH); intro w21 hw; have hg : wr.grownBy w21 (some go18) := (by rw [hw]; exact HP20.2); have hp_ : Kd.R Kd.bool 4 w21 w.heap.size (fun _ => True) (.slice (some ⟨go18, 0, none⟩) x9_1.length co18) y433 := (by rw [hw, Ny433.1]; exact HP20.1); clear HP20; have n0_ := zM hp_; have n1_ := zM (Kd.S_over' (v := (.slice (some ⟨go18, 0, none⟩) x9_1.length co18)) (zS HO_10.1) (Kd.R_typed HO_9.1) (by decide) hg); have n2_ := zM (Kd.R_over' (v := (.slice (some ⟨go18, 0, none⟩) x9_1.length co18)) (zR HL431_0.1) (Kd.R_typed HO_9.1) (by decide) hg); have n3_ := zM ((by rw [hw]; exact below_set (HB.1) GB18.1 : Below w.heap.size w w21)); clear HO_9; clear HO_10; clear HL431_0; clear HB; have HO_9 := n0_; have HO_10 := n1_; have HL431_0 := n2_; have HB := n3_; clear n0_ n1_ n2_ n3_; clear hg hw hp_))
    go_roundg k1
    case measure => have := HK1.1; omega
    case rel => exact ⟨(y433), (wrap64 (x11_1 + 1)), zJJ, H', ⟨by have := HK1.1; omega⟩, ⟨zR HO_9.1⟩, ⟨zS HO_10.1⟩, ⟨zB0⟩⟩
 case rest =>
  clear HC6
  try clear c1
  try clear p1
  try clear q1
  try clear hx1
  try clear c2
  try clear p2
  try clear c4
  try clear p4
  try clear q4
  try clear hx4
  try clear p6
  try clear c10
  try clear c10b0
  try clear c12
  try clear c13
  try clear c13b0
  try clear c14
  try clear c14b0
  try clear c15
  try clear c15b0
  try clear c16
  try clear c16b0
  try clear c17
  try clear c17b0
  try clear c18
  try clear p18
  try clear q18
  try clear hx18
  try clear hf18
  try clear c21
  try clear hx18_0
  try clear hx431_0
  try clear hx432_0
  try clear p18
  try clear p2
  try clear p431
  try clear p432
  try clear q18
  try clear q431
  try clear q432
  obtain ⟨kq, x9_5, HA, HJ5, HO_9, HB⟩ := hcut
  cases kq with
  | zero => exact absurd HA.1 (by simp [spec_Finals.j1])
  | succ kj5 =>
   have H := HA.1
   clear HA
   simp only [spec_Finals.j1] at H
   obtain ⟨y434, hy434⟩ : ∃ y_ : List Int, y_ = (([] : List Int)) := ⟨_, rfl⟩
   replace H : (spec_Finals.l1 kj5 x9_5 y434 0) = some r := by first | (rw [hy434]; with_reducible exact H) | (have H2_ := (Option.bind_some _ _).symm.trans H; rw [hy434]; with_reducible exact H2_) | (have H2_ := (Option.bind_some _ _).symm.trans H; with_reducible exact H2_) | with_reducible exact H | (rw [hy434]; exact H) | exact H
   have Ny434 := zM hy434
   clear hy434
   have H' := zM H
   clear H
   go_wp2_with (first | ((with_reducible refine gate_dst (N := 38) rfl ?_); refine Kd.R_lit (Kd.int .i64) _ 3 ?hg (N := 38) ?hd (xs := ([] : List Int)) (inner := []) (ok := fun _ => True) (okp := fun _ => True) ?hr ?hp (fun _ hk => hk) trivial (Below.refl _ _) (Nat.le_refl _) (by simp) ?_; (case hd => rfl); (case hg => rfl); (case hr => exact zHH); (case hp => exact (Reps.none _ _)); intro v435 w24 ho25 hb hg_ hnew_; clear hg_ hnew_; (first | rw [← Ny434.1] at ho25 | (simp only [Int.reduceToNat] at ho25; rw [← Ny434.1] at ho25)); replace HO_9 := zM (Kd.R_below (zR HO_9.1) hb); have HO436 := zM (Kd.R_lower ho25 (below_size zB0)); replace HB := zM (below_step zB0 hb); clear hb ho25))
   go_loopg [12, 13] kj5 (fun kq v12 v13 w' => ∃ (x12_2 : List Int) (x13_2 : Int), v13 = .int .i64 x13_2 ∧ Aside0 (spec_Finals.l1 kq x9_5 x12_2 x13_2 = some r) ∧ Aside0 (kq ≤ kj5) ∧ Aside0 (Kd.R Kd.bool 4 w' w.heap.size (fun _ => True) v425 x9_5) ∧ Aside0 (Kd.R (Kd.int .i64) 3 w' w.heap.size (fun _ => True) v12 x12_2) ∧ Aside0 (Below w.heap.size w w'))
   case atStart => exact ⟨(y434), (0), zJJ, H', ⟨Nat.le_refl _⟩, ⟨zR HO_9.1⟩, ⟨zR HO436.1⟩, ⟨zB0⟩⟩
   case round =>
    clear H'
    try clear c1
    try clear p1
    try clear q1
    try clear hx1
    try clear c2
    try clear p2
    try clear c4
    try clear p4
    try clear q4
    try clear hx4
    try clear p6
    try clear c10
    try clear c10b0
    try clear c12
    try clear c13
    try clear c13b0
    try clear c14
    try clear c14b0
    try clear c15
    try clear c15b0
    try clear c16
    try clear c16b0
    try clear c17
    try clear c17b0
    try clear c18
    try clear p18
    try clear q18
    try clear hx18
    try clear hf18
    try clear c21
    try clear hx18_0
    try clear hx431_0
    try clear hx432_0
    try clear p1
    try clear p18
    try clear p2
    try clear p4
    try clear p431
    try clear p432
    try clear p6
    try clear q1
    try clear q18
    try clear q4
    try clear q431
    try clear q432
    obtain ⟨x12_2, x13_2, rfl, HA, HK2, HO_9, HO_12, HB⟩ := hrel
    cases gk with
    | zero => exact absurd HA.1 (by simp [spec_Finals.l1])
    | succ k2 =>
     have H := HA.1
     clear HA
     simp only [spec_Finals.l1] at H
     by_cases c26 : x13_2 < (x9_5.length : Int)
     rotate_left
     ·rw [if_neg c26] at H
      have c26b0 := decide_eq_false c26
      clear c26
      obtain rfl := Option.some.inj H
      obtain ⟨Ao34, co34, eo34⟩ := Kd.R_slice HO_9.1
      subst eo34
      go_wp2
      go_ret
      exact ⟨_, zE, zR HO_12.1, zB0⟩
     rw [if_pos c26] at H
     have c26b0 := decide_eq_true c26
     clear c26
     by_cases c27 : 0 ≤ x13_2
     rotate_left
     ·rw [if_neg c27] at H
      exact absurd H (by simp)
     rw [if_pos c27] at H
     have c27b0 := decide_eq_true c27
     clear c27
     obtain ⟨bq28, hbq28⟩ : ∃ b_ : Bool, b_ = (rdOf false x9_5 x13_2) := ⟨_, rfl⟩
     replace H : (if bq28 = true then (if x12_2.length < 17592186044416 then (spec_Finals.l1 k2 x9_5 (x12_2 ++ [x13_2]) (wrap64 (x13_2 + 1))) else (none)) else (spec_Finals.l1 k2 x9_5 x12_2 (wrap64 (x13_2 + 1)))) = some r := by rw [← hbq28] at H; exact H
     have Nbq28 := zM hbq28
     clear hbq28
     by_cases c29 : bq28 = true
     rotate_left
     ·replace c29 := Bool.eq_false_iff.mpr c29
      subst c29
      rw [if_neg zF] at H
      have H' := zM H
      clear H
      obtain ⟨Ao33, co33, eo33⟩ := Kd.R_slice HO_9.1
      subst eo33
      have p437 : 0 ≤ (x13_2 : Int) := zA
      have q437 : x13_2 < (x9_5.length : Int) := zA
      obtain ⟨ad437, e437, hx437_0⟩ := Kd.at_bool (Kd.R_reads' HO_9.1).2.2 x13_2 p437 q437
      (try rw [← Nbq28.out] at hx437_0)
      cases e437
      replace p437 := eq_true p437
      replace q437 := eq_true q437
      go_wp2
      go_roundg k2
      case measure => have := HJ5.1; have := HK2.1; omega
      case rel => exact ⟨(x12_2), (wrap64 (x13_2 + 1)), zJJ, H', ⟨by have := HJ5.1; have := HK2.1; omega⟩, ⟨zR HO_9.1⟩, ⟨zR HO_12.1⟩, ⟨zB0⟩⟩
     subst c29
     rw [if_pos rfl] at H
     by_cases c30 : x12_2.length < 17592186044416
     rotate_left
     ·rw [if_neg c30] at H
      exact absurd H (by simp)
     rw [if_pos c30] at H
     have LMc30 := zM c30
     clear c30
     obtain ⟨y438, hy438⟩ : ∃ y_ : List Int, y_ = (x12_2 ++ [x13_2]) := ⟨_, rfl⟩
     replace H : (spec_Finals.l1 k2 x9_5 y438 (wrap64 (x13_2 + 1))) = some r := by first | (rw [hy438]; with_reducible exact H) | (have H2_ := (Option.bind_some _ _).symm.trans H; rw [hy438]; with_reducible exact H2_) | (have H2_ := (Option.bind_some _ _).symm.trans H; with_reducible exact H2_) | with_reducible exact H | (rw [hy438]; exact H) | exact H
     have Ny438 := zM hy438
     clear hy438
     have H' := zM H
     clear H
     obtain ⟨Ao31, co31, eo31⟩ := Kd.R_slice HO_9.1
     subst eo31
     have p437 : 0 ≤ (x13_2 : Int) := zA
     have q437 : x13_2 < (x9_5.length : Int) := zA
     obtain ⟨ad437, e437, hx437_0⟩ := Kd.at_bool (Kd.R_reads' HO_9.1).2.2 x13_2 p437 q437
     (try rw [← Nbq28.out] at hx437_0)
     cases e437
     replace p437 := eq_true p437
     replace q437 := eq_true q437
     go_wp2_with (first | ((with_reducible refine gate_builtin (b := .append) (xs := #[.tmp 49, .tmp 51]) rfl ?_); at_builtin; refine Kd.R_append (Kd.int .i64) (w0 := w) w.heap.size rfl (.tmp 49) (.tmp 51) 24 3 (.int .i64 0) 8 rfl Try.underlying24 info3 rfl (by decide) (by omega) u12 x12_2 x13_2 [.int .i64 x13_2] (fun _ => True) (fun _ => False) rfl rfl ?aP (fun _ hk => hk.elim) ?aF ?aO ?aB ?aS ?aL ?_; (case aP => exact rfl); (case aB => exact zB0); (case aF => exact (fun _ _ => trivial)); (case aO => exact (zR HO_12.1)); (case aS => exact (below_size zB0)); (case aL => have := LMc30.out; omega); intro v439 w32 ho hb hg hat; rw [← Ny438.1] at ho; replace HO_9 := zM (Kd.R_over' (zR HO_9.1) (Kd.R_typed (zR HO_12.1)) (by decide) hg); replace HB := zM hb; have HO440 := zM ho; clear HO_12; clear ho hb hg hat))
     go_roundg k2
     case measure => have := HJ5.1; have := HK2.1; omega
     case rel => exact ⟨(y438), (wrap64 (x13_2 + 1)), zJJ, H', ⟨by have := HJ5.1; have := HK2.1; omega⟩, ⟨zR HO_9.1⟩, ⟨zR HO440.1⟩, ⟨zB0⟩⟩

/-! ### spec_Ever: function 35 -/
def spec_Ever.l0 : Nat → Int → List Int → Int → Option (Bool)
 | 0, _, _, _ => none
 | k + 1, x4, x11, x12 => if x12 < (x11.length : Int) then (if 0 ≤ x12 then (if (rd x11 x12) = x4 then (some true) else (spec_Ever.l0 k x4 x11 (wrap64 (x12 + 1)))) else (none)) else (some false)
def spec_Ever.f (k : Nat) (l0 : List Int) (l1 : List (S29)) (a2 : Int) (a3 : Int) (a4 : Int) : Option (Bool) := (spec_Finals.f k l0 l1 a2 a3).bind fun t441 => (spec_Ever.l0 k a4 t441 0)
theorem spec_Ever.mono_l : ∀ k, (∀ y0 y1 y2, LeO (spec_Ever.l0 k y0 y1 y2) (spec_Ever.l0 (k + 1) y0 y1 y2))
 | 0 => fun _ _ _ r h => by simp [spec_Ever.l0] at h
 | k + 1 => by
  have ih0 := spec_Ever.mono_l k
  ·intros
   unfold spec_Ever.l0
   have mo0 := @spec_Finals.mono
   exact zL
theorem spec_Ever.mono : ∀ a0 a1 a2 a3 a4 k, LeO (spec_Ever.f k a0 a1 a2 a3 a4) (spec_Ever.f (k + 1) a0 a1 a2 a3 a4) := by
 intro a0 a1 a2 a3 a4 k
 have ih0 := spec_Ever.mono_l k
 unfold spec_Ever.f
 have mo0 := @spec_Finals.mono
 exact zL
theorem spec_Ever.calls (k : Nat) (A0 : Option Addr) (c0 : Nat) (l0 : List Int) (A1 : Option Addr) (c1 : Nat) (l1 : List (S29)) (a2 : Int) (a3 : Int) (a4 : Int) (r : Bool) (w : World) (hr0 : Kd.C (Kd.int .i64) w A0 l0.length l0) (hc0 : l0.length ≤ c0) (hr1 : Kd.C k29 w A1 l1.length l1) (hc1 : l1.length ≤ c1) (h : spec_Ever.f k l0 l1 a2 a3 a4 = some r) :
  Calls Try.prog 35 #[.slice A0 l0.length c0, .slice A1 l1.length c1, .int .i64 a2, .int .i64 a3, .int .i64 a4] w fun e w' => e = .returned (.bool r) ∧ Below w.heap.size w w' := by
 have HR0 := zM hr0
 have HC0 := zM hc0
 clear hr0 hc0
 have HR1 := zM hr1
 have HC1 := zM hc1
 clear hr1 hc1
 have HB := zM (Below.refl w.heap.size w)
 unfold spec_Ever.f at h
 have H := h
 clear h
 replace H := zO H
 obtain ⟨t441, A6, H⟩ := H
 have H' := zM H
 clear H
 go_enter Try.func35, Try.ntmps35
 go_wp2_with (first | ((with_reducible refine gate_callee (f := 18) rfl ?_); refine goesL_ (some 17) rfl rfl Try.func18 (by kernel_rfl) rfl #[.slice A0 l0.length c0, .slice A1 l1.length c1, .int .i64 a2, .int .i64 a3] rfl zT ?_; (with_reducible refine (spec_Finals.calls k _ _ l0 _ _ l1 a2 a3 t441 _ ?side1 ?side2 ?side3 ?side4 A6.1).mono ?_); (case side1 => exact zC HR0.1); (case side2 => exact HC0.1); (case side3 => exact zC HR1.1); (case side4 => exact HC1.1); rintro e w7 ⟨v442, rfl, ho0, hb⟩; refine ⟨_, rfl, ?_⟩; have HO443 := zM (Kd.R_lower ho0 (below_size zB0)); replace HB := zM (below_step zB0 hb); clear hb ho0))
 go_loopg [12] k (fun kq v12 w' => ∃ (x12_1 : Int), v12 = .int .i64 x12_1 ∧ Aside0 (spec_Ever.l0 kq a4 t441 x12_1 = some r) ∧ Aside0 (kq ≤ k) ∧ Aside0 (Kd.R (Kd.int .i64) 3 w' w.heap.size (fun _ => True) v442 t441) ∧ Aside0 (Below w.heap.size w w'))
 case atStart => exact ⟨(0), zJJ, H', ⟨Nat.le_refl _⟩, ⟨zR HO443.1⟩, ⟨zB0⟩⟩
 case round =>
  clear H'
  try clear c1
  try clear p2
  try clear c3
  obtain ⟨x12_1, rfl, HA, HK1, HO_11, HB⟩ := hrel
  cases gk with
  | zero => exact absurd HA.1 (by simp [spec_Ever.l0])
  | succ k1 =>
   have H := HA.1
   clear HA
   simp only [spec_Ever.l0] at H
   by_cases c8 : x12_1 < (t441.length : Int)
   rotate_left
   ·rw [if_neg c8] at H
    have c8b0 := decide_eq_false c8
    clear c8
    obtain rfl := Option.some.inj H
    obtain ⟨Ao13, co13, eo13⟩ := Kd.R_slice HO_11.1
    subst eo13
    go_wp2
    go_ret
    exact ⟨zE, zB0⟩
   rw [if_pos c8] at H
   have c8b0 := decide_eq_true c8
   clear c8
   by_cases c9 : 0 ≤ x12_1
   rotate_left
   ·rw [if_neg c9] at H
    exact absurd H (by simp)
   rw [if_pos c9] at H
   have c9b0 := decide_eq_true c9
   clear c9
   by_cases c10 : (rd t441 x12_1) = a4
   ·rw [if_pos c10] at H
    have c10b0 : ((rd t441 x12_1) == a4) = true := beq_iff_eq.mpr c10
    have c10b1 : ((rd t441 x12_1) != a4) = false := bne_eq_false_iff_eq.mpr c10
    clear c10
    obtain rfl := Option.some.inj H
    obtain ⟨Ao11, co11, eo11⟩ := Kd.R_slice HO_11.1
    subst eo11
    have p444 : 0 ≤ (x12_1 : Int) := zA
    have q444 : x12_1 < (t441.length : Int) := zA
    obtain ⟨ad444, e444, hx444_0⟩ := Kd.at_int (Kd.R_reads' HO_11.1).2.2 x12_1 p444 q444
    cases e444
    replace p444 := eq_true p444
    replace q444 := eq_true q444
    go_wp2
    go_ret
    exact ⟨zE, zB0⟩
   rw [if_neg c10] at H
   have c10b0 : ((rd t441 x12_1) == a4) = false := beq_eq_false_iff_ne.mpr c10
   have c10b1 : ((rd t441 x12_1) != a4) = true := bne_iff_ne.mpr c10
   have H' := zM H
   clear H
   obtain ⟨Ao12, co12, eo12⟩ := Kd.R_slice HO_11.1
   subst eo12
   have p444 : 0 ≤ (x12_1 : Int) := zA
   have q444 : x12_1 < (t441.length : Int) := zA
   obtain ⟨ad444, e444, hx444_0⟩ := Kd.at_int (Kd.R_reads' HO_11.1).2.2 x12_1 p444 q444
   cases e444
   replace p444 := eq_true p444
   replace q444 := eq_true q444
   go_wp2
   go_roundg k1
   case measure => have := HK1.1; omega
   case rel => exact ⟨(wrap64 (x12_1 + 1)), zJJ, H', ⟨by have := HK1.1; omega⟩, ⟨zR HO_11.1⟩, ⟨zB0⟩⟩

/-! ### laws_FnExactEver: function 7 -/
def laws_FnExactEver.f (k : Nat) (l0 : List Int) (l1 : List (S68)) (a2 : Int) (a3 : Int) (a4 : Int) : Option (Bool) := if (l0.length : Int) > 1048576 then (some true) else ((laws_szHartS.f k l1 1048576).bind fun t445 => (if t445 < 0 then (some true) else ((laws_toIntS.f k l0).bind fun t446 => ((laws_toHartS.f k l1).bind fun t449 => ((spec_Ever.f k t446 t449 a2 a3 a4).bind fun t452 => ((laws_toIntS.f k l0).bind fun t453 => ((laws_toHartS.f k l1).bind fun t456 => ((impl_Ever.f k t453 t456 a2 a3 a4).bind fun t459 => (if (t459 != t452) = true then (some false) else ((laws_toIntS.f k l0).bind fun t460 => ((laws_eqIntS.f k t453 t460).bind fun t463 => (if t463 = true then ((laws_toHartS.f k l1).bind fun t464 => ((laws_eqHartS.f k t456 t464).bind fun t467 => (if t467 = true then (some true) else (some false)))) else (some false)))))))))))))
theorem laws_FnExactEver.mono : ∀ a0 a1 a2 a3 a4 k, LeO (laws_FnExactEver.f k a0 a1 a2 a3 a4) (laws_FnExactEver.f (k + 1) a0 a1 a2 a3 a4) := by
 intro a0 a1 a2 a3 a4 k
 unfold laws_FnExactEver.f
 have mo0 := @impl_Ever.mono
 have mo1 := @laws_eqHartS.mono
 have mo2 := @laws_eqIntS.mono
 have mo3 := @laws_szHartS.mono
 have mo4 := @laws_toHartS.mono
 have mo5 := @laws_toIntS.mono
 have mo6 := @spec_Ever.mono
 exact zL
theorem laws_FnExactEver.calls (k : Nat) (A0 : Option Addr) (c0 : Nat) (l0 : List Int) (A1 : Option Addr) (c1 : Nat) (l1 : List (S68)) (a2 : Int) (a3 : Int) (a4 : Int) (r : Bool) (w : World) (hr0 : Kd.C (Kd.int .i64) w A0 l0.length l0) (hc0 : l0.length ≤ c0) (hr1 : Kd.C k68 w A1 l1.length l1) (hc1 : l1.length ≤ c1) (h : laws_FnExactEver.f k l0 l1 a2 a3 a4 = some r) :
  Calls Try.prog 7 #[.slice A0 l0.length c0, .slice A1 l1.length c1, .int .i64 a2, .int .i64 a3, .int .i64 a4] w fun e w' => e = .returned (.bool r) ∧ Below w.heap.size w w' := by
 have HR0 := zM hr0
 have HC0 := zM hc0
 clear hr0 hc0
 have HR1 := zM hr1
 have HC1 := zM hc1
 clear hr1 hc1
 have HB := zM (Below.refl w.heap.size w)
 unfold laws_FnExactEver.f at h
 have H := h
 clear h
 by_cases c6 : (l0.length : Int) > 1048576
 ·rw [if_pos c6] at H
  have c6b0 := decide_eq_true c6
  have c6b1 : decide (1048576 < l0.length) = true := decide_eq_true (by omega)
  clear c6
  obtain rfl := Option.some.inj H
  go_enter Try.func7, Try.ntmps7
  go_wp2
  go_ret
  exact ⟨zE, zB0⟩
 rw [if_neg c6] at H
 have c6b0 := decide_eq_false c6
 have c6b1 : decide (1048576 < l0.length) = false := decide_eq_false (by omega)
 clear c6
 replace H := zO H
 obtain ⟨t445, A7, H⟩ := H
 by_cases c8 : t445 < 0
 ·rw [if_pos c8] at H
  have c8b0 := decide_eq_true c8
  clear c8
  obtain rfl := Option.some.inj H
  go_enter Try.func7, Try.ntmps7
  go_wp2_with (first | ((with_reducible refine gate_callee (f := 20) rfl ?_); refine goesL_ (some 21) rfl rfl Try.func20 (by kernel_rfl) rfl #[.slice A1 l1.length c1, .int .i64 1048576] rfl zT ?_; (with_reducible refine (laws_szHartS.calls k _ _ l1 1048576 t445 _ ?side1 ?side2 A7.1).mono ?_); (case side1 => exact zC HR1.1); (case side2 => exact HC1.1); rintro e w9 ⟨rfl, hb⟩; refine ⟨_, rfl, ?_⟩; replace HB := zM (below_step zB0 hb); clear hb))
  go_ret
  exact ⟨zE, zB0⟩
 rw [if_neg c8] at H
 have c8b0 := decide_eq_false c8
 clear c8
 replace H := zO H
 obtain ⟨t446, A10, H⟩ := H
 replace H := zO H
 obtain ⟨t449, A11, H⟩ := H
 replace H := zO H
 obtain ⟨t452, A12, H⟩ := H
 replace H := zO H
 obtain ⟨t453, A13, H⟩ := H
 replace H := zO H
 obtain ⟨t456, A14, H⟩ := H
 replace H := zO H
 obtain ⟨t459, A15, H⟩ := H
 by_cases c16 : (t459 != t452) = true
 ·rw [if_pos c16] at H
  have c16b0 : (t459 != t452) = true := c16
  (try (have c16b1 : decide (t459 = t452) = false := by simpa using c16))
  (try (have c16b2 : (t459 == t452) = false := by simpa using c16))
  (try (have c16b3 : ¬ (t459 = t452) := by simpa using c16))
  clear c16
  obtain rfl := Option.some.inj H
  go_enter Try.func7, Try.ntmps7
  go_wp2_with (first | ((with_reducible refine gate_callee (f := 20) rfl ?_); refine goesL_ (some 21) rfl rfl Try.func20 (by kernel_rfl) rfl #[.slice A1 l1.length c1, .int .i64 1048576] rfl zT ?_; (with_reducible refine (laws_szHartS.calls k _ _ l1 1048576 t445 _ ?side1 ?side2 A7.1).mono ?_); (case side1 => exact zC HR1.1); (case side2 => exact HC1.1); rintro e w17 ⟨rfl, hb⟩; refine ⟨_, rfl, ?_⟩; replace HB := zM (below_step zB0 hb); clear hb) | ((with_reducible refine gate_callee (f := 22) rfl ?_); refine goesL_ (some 25) rfl rfl Try.func22 (by kernel_rfl) rfl #[.slice A0 l0.length c0] rfl zT ?_; (with_reducible refine (laws_toIntS.calls k _ _ l0 t446 _ ?side1 ?side2 A10.1).mono ?_); (case side1 => exact zC (Kd.C_below HR0.1 HB.1)); (case side2 => exact HC0.1); rintro e w18 ⟨v447, rfl, ho0, hb⟩; refine ⟨_, rfl, ?_⟩; have HO448 := zM (Kd.R_lower ho0 (below_size zB0)); replace HB := zM (below_step zB0 hb); clear hb ho0) | ((with_reducible refine gate_callee (f := 23) rfl ?_); refine goesL_ (some 27) rfl rfl Try.func23 (by kernel_rfl) rfl #[.slice A1 l1.length c1] rfl zT ?_; (with_reducible refine (laws_toHartS.calls k _ _ l1 t449 _ ?side1 ?side2 A11.1).mono ?_); (case side1 => exact zC (Kd.C_below HR1.1 HB.1)); (case side2 => exact HC1.1); rintro e w19 ⟨v450, rfl, ho0, hb⟩; refine ⟨_, rfl, ?_⟩; have HO451 := zM (Kd.S_lower (Kd.S_new' ho0 (Kd.R_lt (zR HO448.1))) (below_size zB0)); replace HO448 := zM (Kd.R_below (zR HO448.1) hb); replace HB := zM (below_step zB0 hb); clear hb ho0; obtain ⟨Ao20, co20, eo20⟩ := Kd.R_slice HO448.1; subst eo20; obtain ⟨Ao21, co21, eo21⟩ := Kd.S_slice HO451.1; subst eo21) | ((with_reducible refine gate_callee (f := 35) rfl ?_); refine goesL_ (some 31) rfl rfl Try.func35 (by kernel_rfl) rfl #[.slice Ao20 t446.length co20, .slice Ao21 t449.length co21, .int .i64 a2, .int .i64 a3, .int .i64 a4] rfl zT ?_; (with_reducible refine (spec_Ever.calls k _ _ t446 _ _ t449 a2 a3 a4 t452 _ ?side1 ?side2 ?side3 ?side4 A12.1).mono ?_); (case side1 => exact zC (Kd.R_reads' HO448.1).2.2); (case side2 => exact (Kd.R_reads' HO448.1).2.1); (case side3 => exact zC (Kd.S_reads' HO451.1).2.2); (case side4 => exact (Kd.S_reads' HO451.1).2.1); rintro e w22 ⟨rfl, hb⟩; refine ⟨_, rfl, ?_⟩; replace HO448 := zM (Kd.R_below (zR HO448.1) hb); replace HO451 := zM (Kd.S_below (zS HO451.1) hb); replace HB := zM (below_step zB0 hb); clear hb) | ((with_reducible refine gate_callee (f := 22) rfl ?_); refine goesL_ (some 33) rfl rfl Try.func22 (by kernel_rfl) rfl #[.slice A0 l0.length c0] rfl zT ?_; (with_reducible refine (laws_toIntS.calls k _ _ l0 t453 _ ?side1 ?side2 A13.1).mono ?_); (case side1 => exact zC (Kd.C_below HR0.1 HB.1)); (case side2 => exact HC0.1); rintro e w23 ⟨v454, rfl, ho0, hb⟩; refine ⟨_, rfl, ?_⟩; replace HO451 := zM (Kd.S_elder' (zS HO451.1) (Kd.R_base ho0) hb); have HO455 := zM (Kd.R_lower (Kd.R_new' ho0 (Kd.R_lt (zR HO448.1))) (below_size zB0)); replace HO448 := zM (Kd.R_elder' (zR HO448.1) (Kd.R_base ho0) hb); replace HB := zM (below_step zB0 hb); clear hb ho0) | ((with_reducible refine gate_callee (f := 23) rfl ?_); refine goesL_ (some 35) rfl rfl Try.func23 (by kernel_rfl) rfl #[.slice A1 l1.length c1] rfl zT ?_; (with_reducible refine (laws_toHartS.calls k _ _ l1 t456 _ ?side1 ?side2 A14.1).mono ?_); (case side1 => exact zC (Kd.C_below HR1.1 HB.1)); (case side2 => exact HC1.1); rintro e w24 ⟨v457, rfl, ho0, hb⟩; refine ⟨_, rfl, ?_⟩; have HO458 := zM (Kd.S_lower (Kd.S_new' (Kd.S_new' (Kd.S_new' ho0 (Kd.R_lt (zR HO448.1))) (Kd.S_lt (zS HO451.1))) (Kd.R_lt (zR HO455.1))) (below_size zB0)); replace HO448 := zM (Kd.R_below (zR HO448.1) hb); replace HO451 := zM (Kd.S_elder' (zS HO451.1) (Kd.S_base ho0) hb); replace HO455 := zM (Kd.R_below (zR HO455.1) hb); replace HB := zM (below_step zB0 hb); clear hb ho0; obtain ⟨Ao25, co25, eo25⟩ := Kd.R_slice HO455.1; subst eo25; obtain ⟨Ao26, co26, eo26⟩ := Kd.S_slice HO458.1; subst eo26) | ((with_reducible refine gate_callee (f := 19) rfl ?_); refine goesL_ (some 41) rfl rfl Try.func19 (by kernel_rfl) rfl #[.slice Ao25 t453.length co25, .slice Ao26 t456.length co26, .int .i64 a2, .int .i64 a3, .int .i64 a4] rfl zT ?_; (with_reducible refine (impl_Ever.calls k _ _ t453 _ _ t456 a2 a3 a4 t459 _ ?side1 ?side2 ?side3 ?side4 A15.1).mono ?_); (case side1 => exact zC (Kd.R_reads' HO455.1).2.2); (case side2 => exact (Kd.R_reads' HO455.1).2.1); (case side3 => exact zC (Kd.S_reads' HO458.1).2.2); (case side4 => exact (Kd.S_reads' HO458.1).2.1); rintro e w27 ⟨rfl, hb⟩; refine ⟨_, rfl, ?_⟩; replace HO448 := zM (Kd.R_below (zR HO448.1) hb); replace HO451 := zM (Kd.S_below (zS HO451.1) hb); replace HO455 := zM (Kd.R_below (zR HO455.1) hb); replace HO458 := zM (Kd.S_below (zS HO458.1) hb); replace HB := zM (below_step zB0 hb); clear hb))
  go_ret
  exact ⟨zE, zB0⟩
 rw [if_neg c16] at H
 have c16b0 : (t459 != t452) = false := by simpa using c16
 (try (have c16b1 : decide (t459 = t452) = true := by simpa using c16))
 (try (have c16b2 : (t459 == t452) = true := by simpa using c16))
 clear c16
 replace H := zO H
 obtain ⟨t460, A28, H⟩ := H
 replace H := zO H
 obtain ⟨t463, A29, H⟩ := H
 by_cases c30 : t463 = true
 rotate_left
 ·replace c30 := Bool.eq_false_iff.mpr c30
  subst c30
  rw [if_neg zF] at H
  obtain rfl := Option.some.inj H
  go_enter Try.func7, Try.ntmps7
  go_wp2_with (first | ((with_reducible refine gate_callee (f := 20) rfl ?_); refine goesL_ (some 21) rfl rfl Try.func20 (by kernel_rfl) rfl #[.slice A1 l1.length c1, .int .i64 1048576] rfl zT ?_; (with_reducible refine (laws_szHartS.calls k _ _ l1 1048576 t445 _ ?side1 ?side2 A7.1).mono ?_); (case side1 => exact zC HR1.1); (case side2 => exact HC1.1); rintro e w66 ⟨rfl, hb⟩; refine ⟨_, rfl, ?_⟩; replace HB := zM (below_step zB0 hb); clear hb) | ((with_reducible refine gate_callee (f := 22) rfl ?_); refine goesL_ (some 25) rfl rfl Try.func22 (by kernel_rfl) rfl #[.slice A0 l0.length c0] rfl zT ?_; (with_reducible refine (laws_toIntS.calls k _ _ l0 t446 _ ?side1 ?side2 A10.1).mono ?_); (case side1 => exact zC (Kd.C_below HR0.1 HB.1)); (case side2 => exact HC0.1); rintro e w67 ⟨v447, rfl, ho0, hb⟩; refine ⟨_, rfl, ?_⟩; have HO448 := zM (Kd.R_lower ho0 (below_size zB0)); replace HB := zM (below_step zB0 hb); clear hb ho0) | ((with_reducible refine gate_callee (f := 23) rfl ?_); refine goesL_ (some 27) rfl rfl Try.func23 (by kernel_rfl) rfl #[.slice A1 l1.length c1] rfl zT ?_; (with_reducible refine (laws_toHartS.calls k _ _ l1 t449 _ ?side1 ?side2 A11.1).mono ?_); (case side1 => exact zC (Kd.C_below HR1.1 HB.1)); (case side2 => exact HC1.1); rintro e w68 ⟨v450, rfl, ho0, hb⟩; refine ⟨_, rfl, ?_⟩; have HO451 := zM (Kd.S_lower (Kd.S_new' ho0 (Kd.R_lt (zR HO448.1))) (below_size zB0)); replace HO448 := zM (Kd.R_below (zR HO448.1) hb); replace HB := zM (below_step zB0 hb); clear hb ho0; obtain ⟨Ao69, co69, eo69⟩ := Kd.R_slice HO448.1; subst eo69; obtain ⟨Ao70, co70, eo70⟩ := Kd.S_slice HO451.1; subst eo70) | ((with_reducible refine gate_callee (f := 35) rfl ?_); refine goesL_ (some 31) rfl rfl Try.func35 (by kernel_rfl) rfl #[.slice Ao69 t446.length co69, .slice Ao70 t449.length co70, .int .i64 a2, .int .i64 a3, .int .i64 a4] rfl zT ?_; (with_reducible refine (spec_Ever.calls k _ _ t446 _ _ t449 a2 a3 a4 t452 _ ?side1 ?side2 ?side3 ?side4 A12.1).mono ?_); (case side1 => exact zC (Kd.R_reads' HO448.1).2.2); (case side2 => exact (Kd.R_reads' HO448.1).2.1); (case side3 => exact zC (Kd.S_reads' HO451.1).2.2); (case side4 => exact (Kd.S_reads' HO451.1).2.1); rintro e w71 ⟨rfl, hb⟩; refine ⟨_, rfl, ?_⟩; replace HO448 := zM (Kd.R_below (zR HO448.1) hb); replace HO451 := zM (Kd.S_below (zS HO451.1) hb); replace HB := zM (below_step zB0 hb); clear hb) | ((with_reducible refine gate_callee (f := 22) rfl ?_); refine goesL_ (some 33) rfl rfl Try.func22 (by kernel_rfl) rfl #[.slice A0 l0.length c0] rfl zT ?_; (with_reducible refine (laws_toIntS.calls k _ _ l0 t453 _ ?side1 ?side2 A13.1).mono ?_); (case side1 => exact zC (Kd.C_below HR0.1 HB.1)); (case side2 => exact HC0.1); rintro e w72 ⟨v454, rfl, ho0, hb⟩; refine ⟨_, rfl, ?_⟩; replace HO451 := zM (Kd.S_elder' (zS HO451.1) (Kd.R_base ho0) hb); have HO455 := zM (Kd.R_lower (Kd.R_new' ho0 (Kd.R_lt (zR HO448.1))) (below_size zB0)); replace HO448 := zM (Kd.R_elder' (zR HO448.1) (Kd.R_base ho0) hb); replace HB := zM (below_step zB0 hb); clear hb ho0) | ((with_reducible refine gate_callee (f := 23) rfl ?_); refine goesL_ (some 35) rfl rfl Try.func23 (by kernel_rfl) rfl #[.slice A1 l1.length c1] rfl zT ?_; (with_reducible refine (laws_toHartS.calls k _ _ l1 t456 _ ?side1 ?side2 A14.1).mono ?_); (case side1 => exact zC (Kd.C_below HR1.1 HB.1)); (case side2 => exact HC1.1); rintro e w73 ⟨v457, rfl, ho0, hb⟩; refine ⟨_, rfl, ?_⟩; have HO458 := zM (Kd.S_lower (Kd.S_new' (Kd.S_new' (Kd.S_new' ho0 (Kd.R_lt (zR HO448.1))) (Kd.S_lt (zS HO451.1))) (Kd.R_lt (zR HO455.1))) (below_size zB0)); replace HO448 := zM (Kd.R_below (zR HO448.1) hb); replace HO451 := zM (Kd.S_elder' (zS HO451.1) (Kd.S_base ho0) hb); replace HO455 := zM (Kd.R_below (zR HO455.1) hb); replace HB := zM (below_step zB0 hb); clear hb ho0; obtain ⟨Ao74, co74, eo74⟩ := Kd.R_slice HO455.1; subst eo74; obtain ⟨Ao75, co75, eo75⟩ := Kd.S_slice HO458.1; subst eo75) | ((with_reducible refine gate_callee (f := 19) rfl ?_); refine goesL_ (some 41) rfl rfl Try.func19 (by kernel_rfl) rfl #[.slice Ao74 t453.length co74, .slice Ao75 t456.length co75, .int .i64 a2, .int .i64 a3, .int .i64 a4] rfl zT ?_; (with_reducible refine (impl_Ever.calls k _ _ t453 _ _ t456 a2 a3 a4 t459 _ ?side1 ?side2 ?side3 ?side4 A15.1).mono ?_); (case side1 => exact zC (Kd.R_reads' HO455.1).2.2); (case side2 => exact (Kd.R_reads' HO455.1).2.1); (case side3 => exact zC (Kd.S_reads' HO458.1).2.2); (case side4 => exact (Kd.S_reads' HO458.1).2.1); rintro e w76 ⟨rfl, hb⟩; refine ⟨_, rfl, ?_⟩; replace HO448 := zM (Kd.R_below (zR HO448.1) hb); replace HO451 := zM (Kd.S_below (zS HO451.1) hb); replace HO455 := zM (Kd.R_below (zR HO455.1) hb); replace HO458 := zM (Kd.S_below (zS HO458.1) hb); replace HB := zM (below_step zB0 hb); clear hb) | ((with_reducible refine gate_callee (f := 22) rfl ?_); refine goesL_ (some 47) rfl rfl Try.func22 (by kernel_rfl) rfl #[.slice A0 l0.length c0] rfl zT ?_; (with_reducible refine (laws_toIntS.calls k _ _ l0 t460 _ ?side1 ?side2 A28.1).mono ?_); (case side1 => exact zC (Kd.C_below HR0.1 HB.1)); (case side2 => exact HC0.1); rintro e w77 ⟨v461, rfl, ho0, hb⟩; refine ⟨_, rfl, ?_⟩; replace HO451 := zM (Kd.S_elder' (zS HO451.1) (Kd.R_base ho0) hb); replace HO458 := zM (Kd.S_elder' (zS HO458.1) (Kd.R_base ho0) hb); have HO462 := zM (Kd.R_lower (Kd.R_new' (Kd.R_new' ho0 (Kd.R_lt (zR HO448.1))) (Kd.R_lt (zR HO455.1))) (below_size zB0)); replace HO448 := zM (Kd.R_elder' (zR HO448.1) (Kd.R_base ho0) hb); replace HO455 := zM (Kd.R_elder' (zR HO455.1) (Kd.R_base ho0) hb); replace HB := zM (below_step zB0 hb); clear hb ho0; obtain ⟨Ao78, co78, eo78⟩ := Kd.R_slice HO462.1; subst eo78) | ((with_reducible refine gate_callee (f := 26) rfl ?_); refine goesL_ (some 48) rfl rfl Try.func26 (by kernel_rfl) rfl #[.slice Ao74 t453.length co74, .slice Ao78 t460.length co78] rfl zT ?_; (with_reducible refine (laws_eqIntS.calls k _ _ t453 _ _ t460 false _ ?side1 ?side2 ?side3 ?side4 A29.1).mono ?_); (case side1 => exact zC (Kd.R_reads' HO455.1).2.2); (case side2 => exact (Kd.R_reads' HO455.1).2.1); (case side3 => exact zC (Kd.R_reads' HO462.1).2.2); (case side4 => exact (Kd.R_reads' HO462.1).2.1); rintro e w' ⟨rfl, ⟨nd, rfl⟩⟩; refine ⟨_, rfl, ?_⟩))
  go_ret
  exact ⟨zE, zB0⟩
 subst c30
 rw [if_pos rfl] at H
 replace H := zO H
 obtain ⟨t464, A31, H⟩ := H
 replace H := zO H
 obtain ⟨t467, A32, H⟩ := H
 by_cases c33 : t467 = true
 ·subst c33
  rw [if_pos rfl] at H
  obtain rfl := Option.some.inj H
  go_enter Try.func7, Try.ntmps7
  go_wp2_with (first | ((with_reducible refine gate_callee (f := 20) rfl ?_); refine goesL_ (some 21) rfl rfl Try.func20 (by kernel_rfl) rfl #[.slice A1 l1.length c1, .int .i64 1048576] rfl zT ?_; (with_reducible refine (laws_szHartS.calls k _ _ l1 1048576 t445 _ ?side1 ?side2 A7.1).mono ?_); (case side1 => exact zC HR1.1); (case side2 => exact HC1.1); rintro e w34 ⟨rfl, hb⟩; refine ⟨_, rfl, ?_⟩; replace HB := zM (below_step zB0 hb); clear hb) | ((with_reducible refine gate_callee (f := 22) rfl ?_); refine goesL_ (some 25) rfl rfl Try.func22 (by kernel_rfl) rfl #[.slice A0 l0.length c0] rfl zT ?_; (with_reducible refine (laws_toIntS.calls k _ _ l0 t446 _ ?side1 ?side2 A10.1).mono ?_); (case side1 => exact zC (Kd.C_below HR0.1 HB.1)); (case side2 => exact HC0.1); rintro e w35 ⟨v447, rfl, ho0, hb⟩; refine ⟨_, rfl, ?_⟩; have HO448 := zM (Kd.R_lower ho0 (below_size zB0)); replace HB := zM (below_step zB0 hb); clear hb ho0) | ((with_reducible refine gate_callee (f := 23) rfl ?_); refine goesL_ (some 27) rfl rfl Try.func23 (by kernel_rfl) rfl #[.slice A1 l1.length c1] rfl zT ?_; (with_reducible refine (laws_toHartS.calls k _ _ l1 t449 _ ?side1 ?side2 A11.1).mono ?_); (case side1 => exact zC (Kd.C_below HR1.1 HB.1)); (case side2 => exact HC1.1); rintro e w36 ⟨v450, rfl, ho0, hb⟩; refine ⟨_, rfl, ?_⟩; have HO451 := zM (Kd.S_lower (Kd.S_new' ho0 (Kd.R_lt (zR HO448.1))) (below_size zB0)); replace HO448 := zM (Kd.R_below (zR HO448.1) hb); replace HB := zM (below_step zB0 hb); clear hb ho0; obtain ⟨Ao37, co37, eo37⟩ := Kd.R_slice HO448.1; subst eo37; obtain ⟨Ao38, co38, eo38⟩ := Kd.S_slice HO451.1; subst eo38) | ((with_reducible refine gate_callee (f := 35) rfl ?_); refine goesL_ (some 31) rfl rfl Try.func35 (by kernel_rfl) rfl #[.slice Ao37 t446.length co37, .slice Ao38 t449.length co38, .int .i64 a2, .int .i64 a3, .int .i64 a4] rfl zT ?_; (with_reducible refine (spec_Ever.calls k _ _ t446 _ _ t449 a2 a3 a4 t452 _ ?side1 ?side2 ?side3 ?side4 A12.1).mono ?_); (case side1 => exact zC (Kd.R_reads' HO448.1).2.2); (case side2 => exact (Kd.R_reads' HO448.1).2.1); (case side3 => exact zC (Kd.S_reads' HO451.1).2.2); (case side4 => exact (Kd.S_reads' HO451.1).2.1); rintro e w39 ⟨rfl, hb⟩; refine ⟨_, rfl, ?_⟩; replace HO448 := zM (Kd.R_below (zR HO448.1) hb); replace HO451 := zM (Kd.S_below (zS HO451.1) hb); replace HB := zM (below_step zB0 hb); clear hb) | ((with_reducible refine gate_callee (f := 22) rfl ?_); refine goesL_ (some 33) rfl rfl Try.func22 (by kernel_rfl) rfl #[.slice A0 l0.length c0] rfl zT ?_; (with_reducible refine (laws_toIntS.calls k _ _ l0 t453 _ ?side1 ?side2 A13.1).mono ?_); (case side1 => exact zC (Kd.C_below HR0.1 HB.1)); (case side2 => exact HC0.1); rintro e w40 ⟨v454, rfl, ho0, hb⟩; refine ⟨_, rfl, ?_⟩; replace HO451 := zM (Kd.S_elder' (zS HO451.1) (Kd.R_base ho0) hb); have HO455 := zM (Kd.R_lower (Kd.R_new' ho0 (Kd.R_lt (zR HO448.1))) (below_size zB0)); replace HO448 := zM (Kd.R_elder' (zR HO448.1) (Kd.R_base ho0) hb); replace HB := zM (below_step zB0 hb); clear hb ho0) | ((with_reducible refine gate_callee (f := 23) rfl ?_); refine goesL_ (some 35) rfl rfl Try.func23 (by kernel_rfl) rfl #[.slice A1 l1.length c1] rfl zT ?_; (with_reducible refine (laws_toHartS.calls k _ _ l1 t456 _ ?side1 ?side2 A14.1).mono ?_); (case side1 => exact zC (Kd.C_below HR1.1 HB.1)); (case side2 => exact HC1.1); rintro e w41 ⟨v457, rfl, ho0, hb⟩; refine ⟨_, rfl, ?_⟩; have HO458 := zM (Kd.S_lower (Kd.S_new' (Kd.S_new' (Kd.S_new' ho0 (Kd.R_lt (zR HO448.1))) (Kd.S_lt (zS HO451.1))) (Kd.R_lt (zR HO455.1))) (below_size zB0)); replace HO448 := zM (Kd.R_below (zR HO448.1) hb); replace HO451 := zM (Kd.S_elder' (zS HO451.1) (Kd.S_base ho0) hb); replace HO455 := zM (Kd.R_below (zR HO455.1) hb); replace HB := zM (below_step zB0 hb); clear hb ho0; obtain ⟨Ao42, co42, eo42⟩ := Kd.R_slice HO455.1; subst eo42; obtain ⟨Ao43, co43, eo43⟩ := Kd.S_slice HO458.1; subst eo43) | ((with_reducible refine gate_callee (f := 19) rfl ?_); refine goesL_ (some 41) rfl rfl Try.func19 (by kernel_rfl) rfl #[.slice Ao42 t453.length co42, .slice Ao43 t456.length co43, .int .i64 a2, .int .i64 a3, .int .i64 a4] rfl zT ?_; (with_reducible refine (impl_Ever.calls k _ _ t453 _ _ t456 a2 a3 a4 t459 _ ?side1 ?side2 ?side3 ?side4 A15.1).mono ?_); (case side1 => exact zC (Kd.R_reads' HO455.1).2.2); (case side2 => exact (Kd.R_reads' HO455.1).2.1); (case side3 => exact zC (Kd.S_reads' HO458.1).2.2); (case side4 => exact (Kd.S_reads' HO458.1).2.1); rintro e w44 ⟨rfl, hb⟩; refine ⟨_, rfl, ?_⟩; replace HO448 := zM (Kd.R_below (zR HO448.1) hb); replace HO451 := zM (Kd.S_below (zS HO451.1) hb); replace HO455 := zM (Kd.R_below (zR HO455.1) hb); replace HO458 := zM (Kd.S_below (zS HO458.1) hb); replace HB := zM (below_step zB0 hb); clear hb) | ((with_reducible refine gate_callee (f := 22) rfl ?_); refine goesL_ (some 47) rfl rfl Try.func22 (by kernel_rfl) rfl #[.slice A0 l0.length c0] rfl zT ?_; (with_reducible refine (laws_toIntS.calls k _ _ l0 t460 _ ?side1 ?side2 A28.1).mono ?_); (case side1 => exact zC (Kd.C_below HR0.1 HB.1)); (case side2 => exact HC0.1); rintro e w45 ⟨v461, rfl, ho0, hb⟩; refine ⟨_, rfl, ?_⟩; replace HO451 := zM (Kd.S_elder' (zS HO451.1) (Kd.R_base ho0) hb); replace HO458 := zM (Kd.S_elder' (zS HO458.1) (Kd.R_base ho0) hb); have HO462 := zM (Kd.R_lower (Kd.R_new' (Kd.R_new' ho0 (Kd.R_lt (zR HO448.1))) (Kd.R_lt (zR HO455.1))) (below_size zB0)); replace HO448 := zM (Kd.R_elder' (zR HO448.1) (Kd.R_base ho0) hb); replace HO455 := zM (Kd.R_elder' (zR HO455.1) (Kd.R_base ho0) hb); replace HB := zM (below_step zB0 hb); clear hb ho0; obtain ⟨Ao46, co46, eo46⟩ := Kd.R_slice HO462.1; subst eo46) | ((with_reducible refine gate_callee (f := 26) rfl ?_); refine goesL_ (some 48) rfl rfl Try.func26 (by kernel_rfl) rfl #[.slice Ao42 t453.length co42, .slice Ao46 t460.length co46] rfl zT ?_; (with_reducible refine (laws_eqIntS.calls k _ _ t453 _ _ t460 true _ ?side1 ?side2 ?side3 ?side4 A29.1).mono ?_); (case side1 => exact zC (Kd.R_reads' HO455.1).2.2); (case side2 => exact (Kd.R_reads' HO455.1).2.1); (case side3 => exact zC (Kd.R_reads' HO462.1).2.2); (case side4 => exact (Kd.R_reads' HO462.1).2.1); rintro e w' ⟨rfl, ⟨nd, rfl⟩⟩; refine ⟨_, rfl, ?_⟩) | ((with_reducible refine gate_callee (f := 23) rfl ?_); refine goesL_ (some 52) rfl rfl Try.func23 (by kernel_rfl) rfl #[.slice A1 l1.length c1] rfl zT ?_; (with_reducible refine (laws_toHartS.calls k _ _ l1 t464 _ ?side1 ?side2 A31.1).mono ?_); (case side1 => repeat (first | exact (Kd.C_below HR1.1 zB0) | (with_reducible refine Kd.C_alloc ?_ _) | (with_reducible refine Kd.C_drewN ?_ _) | (with_reducible refine Kd.C_drew ?_))); (case side2 => exact HC1.1); rintro e w47 ⟨v465, rfl, ho0, hb⟩; refine ⟨_, rfl, ?_⟩; have HO466 := zM (Kd.S_lower (Kd.S_new' (Kd.S_new' (Kd.S_new' (Kd.S_new' (Kd.S_new' ho0 (Kd.R_lt (zR HO448.1))) (Kd.S_lt (zS HO451.1))) (Kd.R_lt (zR HO455.1))) (Kd.S_lt (zS HO458.1))) (Kd.R_lt (zR HO462.1))) (below_size zB0)); replace HO448 := zM (Kd.R_below (zR HO448.1) hb); replace HO451 := zM (Kd.S_elder' (zS HO451.1) (Kd.S_base ho0) hb); replace HO455 := zM (Kd.R_below (zR HO455.1) hb); replace HO458 := zM (Kd.S_elder' (zS HO458.1) (Kd.S_base ho0) hb); replace HO462 := zM (Kd.R_below (zR HO462.1) hb); replace HB := zM (below_step zB0 hb); clear hb ho0; obtain ⟨Ao48, co48, eo48⟩ := Kd.S_slice HO466.1; subst eo48) | ((with_reducible refine gate_callee (f := 27) rfl ?_); refine goesL_ (some 53) rfl rfl Try.func27 (by kernel_rfl) rfl #[.slice Ao43 t456.length co43, .slice Ao48 t464.length co48] rfl zT ?_; (with_reducible refine (laws_eqHartS.calls k _ _ t456 _ _ t464 true _ ?side1 ?side2 ?side3 ?side4 A32.1).mono ?_); (case side1 => exact zC (Kd.S_reads' HO458.1).2.2); (case side2 => exact (Kd.S_reads' HO458.1).2.1); (case side3 => exact zC (Kd.S_reads' HO466.1).2.2); (case side4 => exact (Kd.S_reads' HO466.1).2.1); rintro e w49 ⟨rfl, hb⟩; refine ⟨_, rfl, ?_⟩; replace HO448 := zM (Kd.R_below (zR HO448.1) hb); replace HO451 := zM (Kd.S_below (zS HO451.1) hb); replace HO455 := zM (Kd.R_below (zR HO455.1) hb); replace HO458 := zM (Kd.S_below (zS HO458.1) hb); replace HO462 := zM (Kd.R_below (zR HO462.1) hb); replace HO466 := zM (Kd.S_below (zS HO466.1) hb); replace HB := zM (below_step zB0 hb); clear hb))
  go_ret
  exact ⟨zE, zB0⟩
 replace c33 := Bool.eq_false_iff.mpr c33
 subst c33
 rw [if_neg zF] at H
 obtain rfl := Option.some.inj H
 go_enter Try.func7, Try.ntmps7
 go_wp2_with (first | ((with_reducible refine gate_callee (f := 20) rfl ?_); refine goesL_ (some 21) rfl rfl Try.func20 (by kernel_rfl) rfl #[.slice A1 l1.length c1, .int .i64 1048576] rfl zT ?_; (with_reducible refine (laws_szHartS.calls k _ _ l1 1048576 t445 _ ?side1 ?side2 A7.1).mono ?_); (case side1 => exact zC HR1.1); (case side2 => exact HC1.1); rintro e w50 ⟨rfl, hb⟩; refine ⟨_, rfl, ?_⟩; replace HB := zM (below_step zB0 hb); clear hb) | ((with_reducible refine gate_callee (f := 22) rfl ?_); refine goesL_ (some 25) rfl rfl Try.func22 (by kernel_rfl) rfl #[.slice A0 l0.length c0] rfl zT ?_; (with_reducible refine (laws_toIntS.calls k _ _ l0 t446 _ ?side1 ?side2 A10.1).mono ?_); (case side1 => exact zC (Kd.C_below HR0.1 HB.1)); (case side2 => exact HC0.1); rintro e w51 ⟨v447, rfl, ho0, hb⟩; refine ⟨_, rfl, ?_⟩; have HO448 := zM (Kd.R_lower ho0 (below_size zB0)); replace HB := zM (below_step zB0 hb); clear hb ho0) | ((with_reducible refine gate_callee (f := 23) rfl ?_); refine goesL_ (some 27) rfl rfl Try.func23 (by kernel_rfl) rfl #[.slice A1 l1.length c1] rfl zT ?_; (with_reducible refine (laws_toHartS.calls k _ _ l1 t449 _ ?side1 ?side2 A11.1).mono ?_); (case side1 => exact zC (Kd.C_below HR1.1 HB.1)); (case side2 => exact HC1.1); rintro e w52 ⟨v450, rfl, ho0, hb⟩; refine ⟨_, rfl, ?_⟩; have HO451 := zM (Kd.S_lower (Kd.S_new' ho0 (Kd.R_lt (zR HO448.1))) (below_size zB0)); replace HO448 := zM (Kd.R_below (zR HO448.1) hb); replace HB := zM (below_step zB0 hb); clear hb ho0; obtain ⟨Ao53, co53, eo53⟩ := Kd.R_slice HO448.1; subst eo53; obtain ⟨Ao54, co54, eo54⟩ := Kd.S_slice HO451.1; subst eo54) | ((with_reducible refine gate_callee (f := 35) rfl ?_); refine goesL_ (some 31) rfl rfl Try.func35 (by kernel_rfl) rfl #[.slice Ao53 t446.length co53, .slice Ao54 t449.length co54, .int .i64 a2, .int .i64 a3, .int .i64 a4] rfl zT ?_; (with_reducible refine (spec_Ever.calls k _ _ t446 _ _ t449 a2 a3 a4 t452 _ ?side1 ?side2 ?side3 ?side4 A12.1).mono ?_); (case side1 => exact zC (Kd.R_reads' HO448.1).2.2); (case side2 => exact (Kd.R_reads' HO448.1).2.1); (case side3 => exact zC (Kd.S_reads' HO451.1).2.2); (case side4 => exact (Kd.S_reads' HO451.1).2.1); rintro e w55 ⟨rfl, hb⟩; refine ⟨_, rfl, ?_⟩; replace HO448 := zM (Kd.R_below (zR HO448.1) hb); replace HO451 := zM (Kd.S_below (zS HO451.1) hb); replace HB := zM (below_step zB0 hb); clear hb) | ((with_reducible refine gate_callee (f := 22) rfl ?_); refine goesL_ (some 33) rfl rfl Try.func22 (by kernel_rfl) rfl #[.slice A0 l0.length c0] rfl zT ?_; (with_reducible refine (laws_toIntS.calls k _ _ l0 t453 _ ?side1 ?side2 A13.1).mono ?_); (case side1 => exact zC (Kd.C_below HR0.1 HB.1)); (case side2 => exact HC0.1); rintro e w56 ⟨v454, rfl, ho0, hb⟩; refine ⟨_, rfl, ?_⟩; replace HO451 := zM (Kd.S_elder' (zS HO451.1) (Kd.R_base ho0) hb); have HO455 := zM (Kd.R_lower (Kd.R_new' ho0 (Kd.R_lt (zR HO448.1))) (below_size zB0)); replace HO448 := zM (Kd.R_elder' (zR HO448.1) (Kd.R_base ho0) hb); replace HB := zM (below_step zB0 hb); clear hb ho0) | ((with_reducible refine gate_callee (f := 23) rfl ?_); refine goesL_ (some 35) rfl rfl Try.func23 (by kernel_rfl) rfl #[.slice A1 l1.length c1] rfl zT ?_; (with_reducible refine (laws_toHartS.calls k _ _ l1 t456 _ ?side1 ?side2 A14.1).mono ?_); (case side1 => exact zC (Kd.C_below HR1.1 HB.1)); (case side2 => exact HC1.1); rintro e w57 ⟨v457, rfl, ho0, hb⟩; refine ⟨_, rfl, ?_⟩; have HO458 := zM (Kd.S_lower (Kd.S_new' (Kd.S_new' (Kd.S_new' ho0 (Kd.R_lt (zR HO448.1))) (Kd.S_lt (zS HO451.1))) (Kd.R_lt (zR HO455.1))) (below_size zB0)); replace HO448 := zM (Kd.R_below (zR HO448.1) hb); replace HO451 := zM (Kd.S_elder' (zS HO451.1) (Kd.S_base ho0) hb); replace HO455 := zM (Kd.R_below (zR HO455.1) hb); replace HB := zM (below_step zB0 hb); clear hb ho0; obtain ⟨Ao58, co58, eo58⟩ := Kd.R_slice HO455.1; subst eo58; obtain ⟨Ao59, co59, eo59⟩ := Kd.S_slice HO458.1; subst eo59) | ((with_reducible refine gate_callee (f := 19) rfl ?_); refine goesL_ (some 41) rfl rfl Try.func19 (by kernel_rfl) rfl #[.slice Ao58 t453.length co58, .slice Ao59 t456.length co59, .int .i64 a2, .int .i64 a3, .int .i64 a4] rfl zT ?_; (with_reducible refine (impl_Ever.calls k _ _ t453 _ _ t456 a2 a3 a4 t459 _ ?side1 ?side2 ?side3 ?side4 A15.1).mono ?_); (case side1 => exact zC (Kd.R_reads' HO455.1).2.2); (case side2 => exact (Kd.R_reads' HO455.1).2.1); (case side3 => exact zC (Kd.S_reads' HO458.1).2.2); (case side4 => exact (Kd.S_reads' HO458.1).2.1); rintro e w60 ⟨rfl, hb⟩; refine ⟨_, rfl, ?_⟩; replace HO448 := zM (Kd.R_below (zR HO448.1) hb); replace HO451 := zM (Kd.S_below (zS HO451.1) hb); replace HO455 := zM (Kd.R_below (zR HO455.1) hb); replace HO458 := zM (Kd.S_below (zS HO458.1) hb); replace HB := zM (below_step zB0 hb); clear hb) | ((with_reducible refine gate_callee (f := 22) rfl ?_); refine goesL_ (some 47) rfl rfl Try.func22 (by kernel_rfl) rfl #[.slice A0 l0.length c0] rfl zT ?_; (with_reducible refine (laws_toIntS.calls k _ _ l0 t460 _ ?side1 ?side2 A28.1).mono ?_); (case side1 => exact zC (Kd.C_below HR0.1 HB.1)); (case side2 => exact HC0.1); rintro e w61 ⟨v461, rfl, ho0, hb⟩; refine ⟨_, rfl, ?_⟩; replace HO451 := zM (Kd.S_elder' (zS HO451.1) (Kd.R_base ho0) hb); replace HO458 := zM (Kd.S_elder' (zS HO458.1) (Kd.R_base ho0) hb); have HO462 := zM (Kd.R_lower (Kd.R_new' (Kd.R_new' ho0 (Kd.R_lt (zR HO448.1))) (Kd.R_lt (zR HO455.1))) (below_size zB0)); replace HO448 := zM (Kd.R_elder' (zR HO448.1) (Kd.R_base ho0) hb); replace HO455 := zM (Kd.R_elder' (zR HO455.1) (Kd.R_base ho0) hb); replace HB := zM (below_step zB0 hb); clear hb ho0; obtain ⟨Ao62, co62, eo62⟩ := Kd.R_slice HO462.1; subst eo62) | ((with_reducible refine gate_callee (f := 26) rfl ?_); refine goesL_ (some 48) rfl rfl Try.func26 (by kernel_rfl) rfl #[.slice Ao58 t453.length co58, .slice Ao62 t460.length co62] rfl zT ?_; (with_reducible refine (laws_eqIntS.calls k _ _ t453 _ _ t460 true _ ?side1 ?side2 ?side3 ?side4 A29.1).mono ?_); (case side1 => exact zC (Kd.R_reads' HO455.1).2.2); (case side2 => exact (Kd.R_reads' HO455.1).2.1); (case side3 => exact zC (Kd.R_reads' HO462.1).2.2); (case side4 => exact (Kd.R_reads' HO462.1).2.1); rintro e w' ⟨rfl, ⟨nd, rfl⟩⟩; refine ⟨_, rfl, ?_⟩) | ((with_reducible refine gate_callee (f := 23) rfl ?_); refine goesL_ (some 52) rfl rfl Try.func23 (by kernel_rfl) rfl #[.slice A1 l1.length c1] rfl zT ?_; (with_reducible refine (laws_toHartS.calls k _ _ l1 t464 _ ?side1 ?side2 A31.1).mono ?_); (case side1 => repeat (first | exact (Kd.C_below HR1.1 zB0) | (with_reducible refine Kd.C_alloc ?_ _) | (with_reducible refine Kd.C_drewN ?_ _) | (with_reducible refine Kd.C_drew ?_))); (case side2 => exact HC1.1); rintro e w63 ⟨v465, rfl, ho0, hb⟩; refine ⟨_, rfl, ?_⟩; have HO466 := zM (Kd.S_lower (Kd.S_new' (Kd.S_new' (Kd.S_new' (Kd.S_new' (Kd.S_new' ho0 (Kd.R_lt (zR HO448.1))) (Kd.S_lt (zS HO451.1))) (Kd.R_lt (zR HO455.1))) (Kd.S_lt (zS HO458.1))) (Kd.R_lt (zR HO462.1))) (below_size zB0)); replace HO448 := zM (Kd.R_below (zR HO448.1) hb); replace HO451 := zM (Kd.S_elder' (zS HO451.1) (Kd.S_base ho0) hb); replace HO455 := zM (Kd.R_below (zR HO455.1) hb); replace HO458 := zM (Kd.S_elder' (zS HO458.1) (Kd.S_base ho0) hb); replace HO462 := zM (Kd.R_below (zR HO462.1) hb); replace HB := zM (below_step zB0 hb); clear hb ho0; obtain ⟨Ao64, co64, eo64⟩ := Kd.S_slice HO466.1; subst eo64) | ((with_reducible refine gate_callee (f := 27) rfl ?_); refine goesL_ (some 53) rfl rfl Try.func27 (by kernel_rfl) rfl #[.slice Ao59 t456.length co59, .slice Ao64 t464.length co64] rfl zT ?_; (with_reducible refine (laws_eqHartS.calls k _ _ t456 _ _ t464 false _ ?side1 ?side2 ?side3 ?side4 A32.1).mono ?_); (case side1 => exact zC (Kd.S_reads' HO458.1).2.2); (case side2 => exact (Kd.S_reads' HO458.1).2.1); (case side3 => exact zC (Kd.S_reads' HO466.1).2.2); (case side4 => exact (Kd.S_reads' HO466.1).2.1); rintro e w65 ⟨rfl, hb⟩; refine ⟨_, rfl, ?_⟩; replace HO448 := zM (Kd.R_below (zR HO448.1) hb); replace HO451 := zM (Kd.S_below (zS HO451.1) hb); replace HO455 := zM (Kd.R_below (zR HO455.1) hb); replace HO458 := zM (Kd.S_below (zS HO458.1) hb); replace HO462 := zM (Kd.R_below (zR HO462.1) hb); replace HO466 := zM (Kd.S_below (zS HO466.1) hb); replace HB := zM (below_step zB0 hb); clear hb))
 go_ret
 exact ⟨zE, zB0⟩

/-- THE ONE PURE STATEMENT of laws_FnExactEver: yours. -/
def laws_FnExactEver.Pure : Prop := ∀ (l0 : List Int) (l1 : List (S68)) (a2 : Int) (a3 : Int) (a4 : Int), (l0.length ≤ maxLen ∧ ∀ y1_ ∈ l0, (Lit.int .i64 y1_).wf = true) → (l1.length ≤ maxLen ∧ ∀ y2_ ∈ l1, ((y2_.f0.length ≤ maxLen ∧ ∀ y3_ ∈ y2_.f0, (Lit.int .i64 y3_).wf = true) ∧ ((Lit.int .i64 y2_.f1).wf = true ∧ (Lit.int .i64 y2_.f2).wf = true))) → (Lit.int .i64 a2).wf = true → (Lit.int .i64 a3).wf = true → (Lit.int .i64 a4).wf = true → ∃ k, laws_FnExactEver.f k l0 l1 a2 a3 a4 = some true
theorem laws_FnExactEver.walk (P : laws_FnExactEver.Pure) (A0 : Option Addr) (c0 : Nat) (l0 : List Int) (A1 : Option Addr) (c1 : Nat) (l1 : List (S68)) (a2 : Int) (a3 : Int) (a4 : Int) (w : World) (hr0 : Kd.C (Kd.int .i64) w A0 l0.length l0) (hc0 : l0.length ≤ c0) (hr1 : Kd.C k68 w A1 l1.length l1) (hc1 : l1.length ≤ c1) (g0 : (l0.length ≤ maxLen ∧ ∀ y1_ ∈ l0, (Lit.int .i64 y1_).wf = true)) (g1 : (l1.length ≤ maxLen ∧ ∀ y2_ ∈ l1, ((y2_.f0.length ≤ maxLen ∧ ∀ y3_ ∈ y2_.f0, (Lit.int .i64 y3_).wf = true) ∧ ((Lit.int .i64 y2_.f1).wf = true ∧ (Lit.int .i64 y2_.f2).wf = true)))) (g2 : (Lit.int .i64 a2).wf = true) (g3 : (Lit.int .i64 a3).wf = true) (g4 : (Lit.int .i64 a4).wf = true) :
  Calls Try.prog 7 #[.slice A0 l0.length c0, .slice A1 l1.length c1, .int .i64 a2, .int .i64 a3, .int .i64 a4] w fun e w' => e = .returned (.bool true) ∧ Below w.heap.size w w' := by
 obtain ⟨k, h⟩ := P l0 l1 a2 a3 a4 g0 g1 g2 g3 g4
 refine (laws_FnExactEver.calls k A0 c0 l0 A1 c1 l1 a2 a3 a4 true w hr0 hc0 hr1 hc1 h).mono ?_
 rintro e w' ⟨rfl, hd⟩
 exact ⟨rfl, hd⟩

end Go.Proofs.Ytnjdepmlpdjghaa.PFnExactEver
