-- made by wip/tools/myprint.py out of the seat's translation
import Derived.Test.YtnjdepmlpdjghaaPFnExactAlwaysx0
import Derived.Test.YtnjdepmlpdjghaaPFnExactAlwaysx8
import Derived.Test.YtnjdepmlpdjghaaPFnExactAlwaysx9
import Derived.Test.YtnjdepmlpdjghaaPFnExactAlwaysx13
namespace Go.Proofs.Ytnjdepmlpdjghaa.PFnExactAlways
open Go.RowKit Go.Proofs.YtnjdepmlpdjghaaW.PrintWords Go.Proofs.YtnjdepmlpdjghaaW.PrintLast Go.Proofs.YtnjdepmlpdjghaaW.PrintMore
attribute [local go_sem] max2_int min2_int max_two min_two max_three min_three max_four min_four   -- for this text's walks alone
set_option linter.unusedVariables false
set_option linter.unusedSimpArgs false
set_option maxHeartbeats 8000000
set_option maxRecDepth 100000

/-! ### spec_Finals: function 18 -/
mutual
def spec_Finals.j1 : Nat → List Bool → Option (List Int)
 | 0, _ => none
 | k + 1, x9 => spec_Finals.l1 k x9 (([] : List Int)) 0
def spec_Finals.l1 : Nat → List Bool → List Int → Int → Option (List Int)
 | 0, _, _, _ => none
 | k + 1, x9, x12, x13 => if x13 < (x9.length : Int) then (if 0 ≤ x13 then (if rdOf false x9 x13 = true then (if x12.length < 17592186044416 then (spec_Finals.l1 k x9 (x12 ++ [x13]) (wrap64 (x13 + 1))) else (none)) else (spec_Finals.l1 k x9 x12 (wrap64 (x13 + 1)))) else (none)) else (some x12)
def spec_Finals.l0 : Nat → Int → List Bool → List (List Int) → Int → Option (List Int)
 | 0, _, _, _, _ => none
 | k + 1, x3, x9, x10, x11 => if x11 < (x10.length : Int) then ((spec_l1In.f x3 0 23).bind fun t431 => (if t431 = true then (if 0 ≤ x11 then (if 0 ≤ x3 then (if x3 < ((rd_L2 x10 x11).length : Int) then (if 0 ≤ (rd (rd_L2 x10 x11) x3) then (if (rd (rd_L2 x10 x11) x3) < (x9.length : Int) then (spec_Finals.l0 k x3 (x9.set ((rd (rd_L2 x10 x11) x3) : Int).toNat true) x10 (wrap64 (x11 + 1))) else (none)) else (none)) else (none)) else (none)) else (none)) else (spec_Finals.j1 k x9))) else (spec_Finals.j1 k x9)
end
def spec_Finals.f (k : Nat) (l0 : List Int) (l1 : List (S29)) (a2 : Int) (a3 : Int) : Option (List Int) := (spec_Ends2.f k l0 l1 a2).bind fun t428 => (spec_Finals.l0 k a3 (List.replicate 65536 false) t428 0)
theorem spec_Finals.mono_l : ∀ k, (∀ y0, LeO (spec_Finals.j1 k y0) (spec_Finals.j1 (k + 1) y0)) ∧ (∀ y0 y1 y2, LeO (spec_Finals.l1 k y0 y1 y2) (spec_Finals.l1 (k + 1) y0 y1 y2)) ∧ (∀ y0 y1 y2 y3, LeO (spec_Finals.l0 k y0 y1 y2 y3) (spec_Finals.l0 (k + 1) y0 y1 y2 y3))
 | 0 => ⟨fun _ r h => by simp [spec_Finals.j1] at h, fun _ _ _ r h => by simp [spec_Finals.l1] at h, fun _ _ _ _ r h => by simp [spec_Finals.l0] at h⟩
 | k + 1 => by
  obtain ⟨ih0, ih1, ih2⟩ := spec_Finals.mono_l k
  refine ⟨?_, ?_, ?_⟩
  ·intros
   unfold spec_Finals.j1
   have mo0 := @spec_Ends2.mono
   exact zL
  ·intros
   unfold spec_Finals.l1
   have mo0 := @spec_Ends2.mono
   exact zL
  ·intros
   unfold spec_Finals.l0
   have mo0 := @spec_Ends2.mono
   exact zL
theorem spec_Finals.mono : ∀ a0 a1 a2 a3 k, LeO (spec_Finals.f k a0 a1 a2 a3) (spec_Finals.f (k + 1) a0 a1 a2 a3) := by
 intro a0 a1 a2 a3 k
 obtain ⟨ih0, ih1, ih2⟩ := spec_Finals.mono_l k
 unfold spec_Finals.f
 have mo0 := @spec_Ends2.mono
 exact zL
theorem spec_Finals.calls (k : Nat) (A0 : Option Addr) (c0 : Nat) (l0 : List Int) (A1 : Option Addr) (c1 : Nat) (l1 : List (S29)) (a2 : Int) (a3 : Int) (r : List Int) (w : World) (hr0 : Kd.C (Kd.int .i64) w A0 l0.length l0) (hc0 : l0.length ≤ c0) (hr1 : Kd.C k29 w A1 l1.length l1) (hc1 : l1.length ≤ c1) (h : spec_Finals.f k l0 l1 a2 a3 = some r) :
  Calls Try.prog 18 #[.slice A0 l0.length c0, .slice A1 l1.length c1, .int .i64 a2, .int .i64 a3] w fun e w' => ∃ v0_ : Value, e = .returned (v0_) ∧ Kd.R (Kd.int .i64) 3 w' w.heap.size (fun _ => True) v0_ r ∧ Below w.heap.size w w' := by
 have HR0 := zM hr0
 have HC0 := zM hc0
 clear hr0 hc0
 have HR1 := zM hr1
 have HC1 := zM hc1
 clear hr1 hc1
 have HB := zM (Below.refl w.heap.size w)
 unfold spec_Finals.f at h
 have H := h
 clear h
 obtain ⟨y425, hy425⟩ : ∃ y_ : List Bool, y_ = (List.replicate 65536 false) := ⟨_, rfl⟩
 replace H : ((spec_Ends2.f k l0 l1 a2).bind fun t428 => (spec_Finals.l0 k a3 y425 t428 0)) = some r := by first | (rw [hy425]; with_reducible exact H) | (have H2_ := (Option.bind_some _ _).symm.trans H; rw [hy425]; with_reducible exact H2_) | (have H2_ := (Option.bind_some _ _).symm.trans H; with_reducible exact H2_) | with_reducible exact H | (rw [hy425]; exact H) | exact H
 have Ny425 := zM hy425
 clear hy425
 replace H := zO H
 obtain ⟨t428, A5, H⟩ := H
 have HC6 := zM H
 clear H
 go_enter Try.func18, Try.ntmps18
 go_upto_block 0 with (first | ((with_reducible refine gate_dst (N := 14) rfl ?_); refine Kd.R_make Kd.bool _ 4 rfl (N := 14) rfl 66 _ _ rfl 65536 rfl rfl Try.underlying66 (.bool false) 1 info4 rfl (by decide) (by omega) false (ok := fun _ => True) (okp := fun _ => True) rfl (fun _ hk => hk) trivial (by omega) (by omega) (Below.refl _ _) (Nat.le_refl _) ?_; intro v426 w7 ho8 hb hg_ hnew_; clear hg_ hnew_; (first | rw [← Ny425.1] at ho8 | (simp only [Int.reduceToNat] at ho8; rw [← Ny425.1] at ho8)); have HO427 := zM (Kd.R_lower ho8 (below_size zB0)); replace HB := zM (below_step zB0 hb); clear hb ho8) | ((with_reducible refine gate_callee (f := 21) rfl ?_); refine goesL_ (some 18) rfl rfl Try.func21 (by kernel_rfl) rfl #[.slice A0 l0.length c0, .slice A1 l1.length c1, .int .i64 a2] rfl zT ?_; (with_reducible refine (spec_Ends2.calls k _ _ l0 _ _ l1 a2 t428 _ ?side1 ?side2 ?side3 ?side4 A5.1).mono ?_); (case side1 => exact zC (Kd.C_below HR0.1 HB.1)); (case side2 => exact HC0.1); (case side3 => exact zC (Kd.C_below HR1.1 HB.1)); (case side4 => exact HC1.1); rintro e w9 ⟨v429, rfl, ho0, hb⟩; refine ⟨_, rfl, ?_⟩; replace HO427 := zM (Kd.R_below (zR HO427.1) hb); have HO430 := zM (Kd.S_lower ho0 (below_size zB0)); replace HB := zM (below_step zB0 hb); clear hb ho0))
 (try simp only [Act.put, List.setIfInBounds_toArray, List.set_cons_zero, List.set_cons_succ])
 go_cut [] (fun wc => ∃ (kq : Nat) (x9_5 : List Bool), Aside0 (spec_Finals.j1 kq x9_5 = some r) ∧ Aside0 (kq ≤ k) ∧ Aside0 (Kd.R Kd.bool 4 wc w.heap.size (fun _ => True) v426 x9_5) ∧ Aside0 (Below w.heap.size w wc))
 case first =>
  have H := HC6.1
  clear HC6
  have H' := zM H
  clear H
  go_wp2
  go_loopg [11] k (fun kq v11 w' => ∃ (x9_1 : List Bool) (x11_1 : Int), v11 = .int .i64 x11_1 ∧ Aside0 (spec_Finals.l0 kq a3 x9_1 t428 x11_1 = some r) ∧ Aside0 (kq ≤ k) ∧ Aside0 (Kd.R Kd.bool 4 w' w.heap.size (fun _ => True) v426 x9_1) ∧ Aside0 (Kd.S (Kd.slice 3 (Kd.int .i64)) 24 w' w.heap.size (fun _ => True) v429 t428) ∧ Aside0 (Below w.heap.size w w'))
  case atStart => exact ⟨(y425), (0), zJJ, H', ⟨Nat.le_refl _⟩, ⟨zR HO427.1⟩, ⟨zS HO430.1⟩, ⟨zB0⟩⟩
  case round =>
   clear H'
   try clear c1
   try clear c2
   try clear p2
   obtain ⟨x9_1, x11_1, rfl, HA, HK1, HO_9, HO_10, HB⟩ := hrel
   cases gk with
   | zero => exact absurd HA.1 (by simp [spec_Finals.l0])
   | succ k1 =>
    have H := HA.1
    clear HA
    simp only [spec_Finals.l0] at H
    by_cases c10 : x11_1 < (t428.length : Int)
    rotate_left
    ·rw [if_neg c10] at H
     have c10b0 := decide_eq_false c10
     clear c10
     (first | rw [c10b0] | (simp only [i64_w, i32_w]; rw [c10b0]) | skip)
     have H' := zM H
     clear H
     obtain ⟨Ao23, co23, eo23⟩ := Kd.S_slice HO_10.1
     subst eo23
     go_wp2
     go_meet
     case rel => exact ⟨_, (x9_1), H', ⟨by have := HK1.1; first | omega | exact Nat.le_refl _⟩, ⟨zR HO_9.1⟩, ⟨zB0⟩⟩
    rw [if_pos c10] at H
    have c10b0 := decide_eq_true c10
    clear c10
    (first | rw [c10b0] | (simp only [i64_w, i32_w]; rw [c10b0]) | skip)
    replace H := zO H
    obtain ⟨t431, A11, H⟩ := H
    by_cases c12 : t431 = true
    rotate_left
    ·replace c12 := Bool.eq_false_iff.mpr c12
     subst c12
     rw [if_neg zF] at H
     have H' := zM H
     clear H
     obtain ⟨Ao22, co22, eo22⟩ := Kd.S_slice HO_10.1
     subst eo22
     go_wp2_with (first | (go_at_call 49; (with_reducible refine (spec_l1In.calls a3 0 23 false _ A11.1).mono ?_); rintro e w' ⟨rfl, ⟨nd, rfl⟩⟩))
     go_meet
     case rel => exact ⟨_, (x9_1), H', ⟨by have := HK1.1; first | omega | exact Nat.le_refl _⟩, ⟨zR HO_9.1⟩, ⟨zB0⟩⟩
    subst c12
    rw [if_pos rfl] at H
    by_cases c13 : 0 ≤ x11_1
    rotate_left
    ·rw [if_neg c13] at H
     exact absurd H (by simp)
    rw [if_pos c13] at H
    have c13b0 := decide_eq_true c13
    clear c13
    by_cases c14 : 0 ≤ a3
    rotate_left
    ·rw [if_neg c14] at H
     exact absurd H (by simp)
    rw [if_pos c14] at H
    have c14b0 := decide_eq_true c14
    clear c14
    by_cases c15 : a3 < ((rd_L2 t428 x11_1).length : Int)
    rotate_left
    ·rw [if_neg c15] at H
     exact absurd H (by simp)
    rw [if_pos c15] at H
    have c15b0 := decide_eq_true c15
    clear c15
    by_cases c16 : 0 ≤ (rd (rd_L2 t428 x11_1) a3)
    rotate_left
    ·rw [if_neg c16] at H
     exact absurd H (by simp)
    rw [if_pos c16] at H
    have c16b0 := decide_eq_true c16
    clear c16
    by_cases c17 : (rd (rd_L2 t428 x11_1) a3) < (x9_1.length : Int)
    rotate_left
    ·rw [if_neg c17] at H
     exact absurd H (by simp)
    rw [if_pos c17] at H
    have c17b0 := decide_eq_true c17
    clear c17
    obtain ⟨y434, hy434⟩ : ∃ y_ : List Bool, y_ = (x9_1.set ((rd (rd_L2 t428 x11_1) a3) : Int).toNat true) := ⟨_, rfl⟩
    replace H : (spec_Finals.l0 k1 a3 y434 t428 (wrap64 (x11_1 + 1))) = some r := by first | (rw [hy434]; with_reducible exact H) | (have H2_ := (Option.bind_some _ _).symm.trans H; rw [hy434]; with_reducible exact H2_) | (have H2_ := (Option.bind_some _ _).symm.trans H; with_reducible exact H2_) | with_reducible exact H | (rw [hy434]; exact H) | exact H
    have Ny434 := zM hy434
    clear hy434
    have H' := zM H
    clear H
    obtain ⟨Ao19, co19, eo19⟩ := Kd.S_slice HO_10.1
    subst eo19
    go_wp2_with (first | (go_at_call 49; (with_reducible refine (spec_l1In.calls a3 0 23 true _ A11.1).mono ?_); rintro e w' ⟨rfl, ⟨nd, rfl⟩⟩; (try (rw [drewN_self wr]; generalize hq_ : World.drewN wr _ = wr; have n0_ : Aside0 (Kd.S (Kd.slice 3 (Kd.int .i64)) 24 wr w.heap.size (fun _ => True) (.slice Ao19 t428.length co19) t428) := ⟨by rw [← hq_]; exact (zS HO_10.1)⟩; have n1_ : Aside0 (Kd.R Kd.bool 4 wr w.heap.size (fun _ => True) v426 x9_1) := ⟨by rw [← hq_]; exact (zR HO_9.1)⟩; have n2_ : Aside0 (Below w.heap.size w wr) := ⟨by rw [← hq_]; exact zB0⟩; clear HO_10 HO_9 HB hq_; have HO_10 := n0_; have HO_9 := n1_; have HB := n2_; clear n0_ n1_ n2_)); have p432 : 0 ≤ (x11_1 : Int) := zA; have q432 : x11_1 < (t428.length : Int) := zA; obtain ⟨ad432, A432_0, c432_0, e432, hx432_0, hl432_0, hi432_0⟩ := at_L2 (Kd.S_reads' HO_10.1).2.2 x11_1 p432 q432; cases e432; obtain ⟨ce432, hce432, hMe432, hcc432⟩ := Kd.S_get HO_10.1 [] x11_1 p432 (by first | exact q432 | exact zA | (have e_ := (Kd.S_reads' HO_10.1).1; omega)); obtain ⟨ve432_0, rfl, ge432_0⟩ := hMe432; have hv432_0 := hcc432 0 _ rfl; rw [Nat.add_zero, show ((Kd.slice 3 (Kd.int .i64))).sz = 1 from rfl, Nat.mul_one] at hv432_0; replace hv432_0 := Option.some.inj (hv432_0.symm.trans hx432_0); rw [hv432_0] at ge432_0; have HL432_0 := zM (show Kd.R (Kd.int .i64) 3 _ _ _ _ (rd_L2 t428 x11_1) from ge432_0); clear hv432_0 ge432_0; clear hcc432 hce432; have HR432_0 := zM hi432_0; have HC432_0 := zM hl432_0; clear hi432_0 hl432_0; replace p432 := eq_true p432; replace q432 := eq_true q432; have p433 : 0 ≤ (a3 : Int) := zA; have q433 : a3 < ((rd_L2 t428 x11_1).length : Int) := zA; obtain ⟨ad433, e433, hx433_0⟩ := Kd.at_int (zC HR432_0.1) a3 p433 q433; cases e433; replace p433 := eq_true p433; replace q433 := eq_true q433; have p18 : 0 ≤ ((rd (rd_L2 t428 x11_1) a3) : Int) := zA; have q18 : ((rd (rd_L2 t428 x11_1) a3) : Int) < ((x9_1.length : Int) : Int) := zA; obtain ⟨go18, co18, eo18, gb18, gl18, cl18, HG18⟩ := Kd.R_form HO_9.1 (by omega); (first | cases eo18 | (injection eo18 with ea_ en_ ec_; (first | subst ea_ | (injection ea_ with ea_; subst ea_)); subst ec_; clear en_)); have GB18 := zM gb18; have GG18 := zM HG18; clear gb18 gl18 HG18; obtain ⟨hx18_0, hf18_0⟩ := Kd.R_celln false HO_9.1 ((rd (rd_L2 t428 x11_1) a3) : Int) p18 q18; replace p18 := eq_true p18; replace q18 := eq_true q18; obtain ⟨hy20_, hz20_⟩ := Kd.R_celln false HO_9.1 ((rd (rd_L2 t428 x11_1) a3) : Int) zA zA; have HP20 := Kd.R_putg HO_9.1 ((rd (rd_L2 t428 x11_1) a3) : Int) true) | ((with_reducible refine gate_store (t := 4) (p := 37) rfl ?_); refine store_event (t := 4) (p := 37) (v := ?vo_w21) (w1 := (wr.setCell ⟨go18, ((rd (rd_L2 t428 x11_1) a3) : Int).toNat, none⟩ (.bool true))) ?hg ?ho ?hn ?hr ?_; (case ho => rfl); (case hg => rfl); (case hn => rfl); (case hr => exact zHH); intro w21 hw; have hg : wr.grownBy w21 (some go18) := (by rw [hw]; exact HP20.2); have hp_ : Kd.R Kd.bool 4 w21 w.heap.size (fun _ => True) (.slice (some ⟨go18, 0, none⟩) x9_1.length co18) y434 := (by rw [hw, Ny434.1]; exact HP20.1); clear HP20; have n0_ := zM hp_; have n1_ := zM (Kd.S_over' (v := (.slice (some ⟨go18, 0, none⟩) x9_1.length co18)) (zS HO_10.1) (Kd.R_typed HO_9.1) (by decide) hg); have n2_ := zM (Kd.R_over' (v := (.slice (some ⟨go18, 0, none⟩) x9_1.length co18)) (zR HL432_0.1) (Kd.R_typed HO_9.1) (by decide) hg); have n3_ := zM ((by rw [hw]; exact below_set (HB.1) GB18.1 : Below w.heap.size w w21)); clear HO_9; clear HO_10; clear HL432_0; clear HB; have HO_9 := n0_; have HO_10 := n1_; have HL432_0 := n2_; have HB := n3_; clear n0_ n1_ n2_ n3_; clear hg hw hp_))
    go_roundg k1
    case measure => have := HK1.1; omega
    case rel => exact ⟨(y434), (wrap64 (x11_1 + 1)), zJJ, H', ⟨by have := HK1.1; omega⟩, ⟨zR HO_9.1⟩, ⟨zS HO_10.1⟩, ⟨zB0⟩⟩
 case rest =>
  clear HC6
  try clear c1
  try clear p1
  try clear q1
  try clear hx1
  try clear c2
  try clear p2
  try clear c4
  try clear p4
  try clear q4
  try clear hx4
  try clear p6
  try clear c10
  try clear c10b0
  try clear c12
  try clear c13
  try clear c13b0
  try clear c14
  try clear c14b0
  try clear c15
  try clear c15b0
  try clear c16
  try clear c16b0
  try clear c17
  try clear c17b0
  try clear c18
  try clear p18
  try clear q18
  try clear hx18
  try clear hf18
  try clear c21
  try clear hx18_0
  try clear hx432_0
  try clear hx433_0
  try clear p18
  try clear p2
  try clear p432
  try clear p433
  try clear q18
  try clear q432
  try clear q433
  obtain ⟨kq, x9_5, HA, HJ5, HO_9, HB⟩ := hcut
  cases kq with
  | zero => exact absurd HA.1 (by simp [spec_Finals.j1])
  | succ kj5 =>
   have H := HA.1
   clear HA
   simp only [spec_Finals.j1] at H
   obtain ⟨y435, hy435⟩ : ∃ y_ : List Int, y_ = (([] : List Int)) := ⟨_, rfl⟩
   replace H : (spec_Finals.l1 kj5 x9_5 y435 0) = some r := by first | (rw [hy435]; with_reducible exact H) | (have H2_ := (Option.bind_some _ _).symm.trans H; rw [hy435]; with_reducible exact H2_) | (have H2_ := (Option.bind_some _ _).symm.trans H; with_reducible exact H2_) | with_reducible exact H | (rw [hy435]; exact H) | exact H
   have Ny435 := zM hy435
   clear hy435
   have H' := zM H
   clear H
   go_wp2_with (first | ((with_reducible refine gate_dst (N := 38) rfl ?_); refine Kd.R_lit (Kd.int .i64) _ 3 ?hg (N := 38) ?hd (xs := ([] : List Int)) (inner := []) (ok := fun _ => True) (okp := fun _ => True) ?hr ?hp (fun _ hk => hk) trivial (Below.refl _ _) (Nat.le_refl _) (by simp) ?_; (case hd => rfl); (case hg => rfl); (case hr => exact zHH); (case hp => exact (Reps.none _ _)); intro v436 w24 ho25 hb hg_ hnew_; clear hg_ hnew_; (first | rw [← Ny435.1] at ho25 | (simp only [Int.reduceToNat] at ho25; rw [← Ny435.1] at ho25)); replace HO_9 := zM (Kd.R_below (zR HO_9.1) hb); have HO437 := zM (Kd.R_lower ho25 (below_size zB0)); replace HB := zM (below_step zB0 hb); clear hb ho25))
   go_loopg [12, 13] kj5 (fun kq v12 v13 w' => ∃ (x12_2 : List Int) (x13_2 : Int), v13 = .int .i64 x13_2 ∧ Aside0 (spec_Finals.l1 kq x9_5 x12_2 x13_2 = some r) ∧ Aside0 (kq ≤ kj5) ∧ Aside0 (Kd.R Kd.bool 4 w' w.heap.size (fun _ => True) v426 x9_5) ∧ Aside0 (Kd.R (Kd.int .i64) 3 w' w.heap.size (fun _ => True) v12 x12_2) ∧ Aside0 (Below w.heap.size w w'))
   case atStart => exact ⟨(y435), (0), zJJ, H', ⟨Nat.le_refl _⟩, ⟨zR HO_9.1⟩, ⟨zR HO437.1⟩, ⟨zB0⟩⟩
   case round =>
    clear H'
    try clear c1
    try clear p1
    try clear q1
    try clear hx1
    try clear c2
    try clear p2
    try clear c4
    try clear p4
    try clear q4
    try clear hx4
    try clear p6
    try clear c10
    try clear c10b0
    try clear c12
    try clear c13
    try clear c13b0
    try clear c14
    try clear c14b0
    try clear c15
    try clear c15b0
    try clear c16
    try clear c16b0
    try clear c17
    try clear c17b0
    try clear c18
    try clear p18
    try clear q18
    try clear hx18
    try clear hf18
    try clear c21
    try clear hx18_0
    try clear hx432_0
    try clear hx433_0
    try clear p1
    try clear p18
    try clear p2
    try clear p4
    try clear p432
    try clear p433
    try clear p6
    try clear q1
    try clear q18
    try clear q4
    try clear q432
    try clear q433
    obtain ⟨x12_2, x13_2, rfl, HA, HK2, HO_9, HO_12, HB⟩ := hrel
    cases gk with
    | zero => exact absurd HA.1 (by simp [spec_Finals.l1])
    | succ k2 =>
     have H := HA.1
     clear HA
     simp only [spec_Finals.l1] at H
     by_cases c26 : x13_2 < (x9_5.length : Int)
     rotate_left
     ·rw [if_neg c26] at H
      have c26b0 := decide_eq_false c26
      clear c26
      obtain rfl := Option.some.inj H
      obtain ⟨Ao34, co34, eo34⟩ := Kd.R_slice HO_9.1
      subst eo34
      go_wp2
      go_ret
      exact ⟨_, zE, zR HO_12.1, zB0⟩
     rw [if_pos c26] at H
     have c26b0 := decide_eq_true c26
     clear c26
     by_cases c27 : 0 ≤ x13_2
     rotate_left
     ·rw [if_neg c27] at H
      exact absurd H (by simp)
     rw [if_pos c27] at H
     have c27b0 := decide_eq_true c27
     clear c27
     obtain ⟨bq28, hbq28⟩ : ∃ b_ : Bool, b_ = (rdOf false x9_5 x13_2) := ⟨_, rfl⟩
     replace H : (if bq28 = true then (if x12_2.length < 17592186044416 then (spec_Finals.l1 k2 x9_5 (x12_2 ++ [x13_2]) (wrap64 (x13_2 + 1))) else (none)) else (spec_Finals.l1 k2 x9_5 x12_2 (wrap64 (x13_2 + 1)))) = some r := by rw [← hbq28] at H; exact H
     have Nbq28 := zM hbq28
     clear hbq28
     by_cases c29 : bq28 = true
     rotate_left
     ·replace c29 := Bool.eq_false_iff.mpr c29
      subst c29
      rw [if_neg zF] at H
      have H' := zM H
      clear H
      obtain ⟨Ao33, co33, eo33⟩ := Kd.R_slice HO_9.1
      subst eo33
      have p438 : 0 ≤ (x13_2 : Int) := zA
      have q438 : x13_2 < (x9_5.length : Int) := zA
      obtain ⟨ad438, e438, hx438_0⟩ := Kd.at_bool (Kd.R_reads' HO_9.1).2.2 x13_2 p438 q438
      (try rw [← Nbq28.out] at hx438_0)
      cases e438
      replace p438 := eq_true p438
      replace q438 := eq_true q438
      go_wp2
      go_roundg k2
      case measure => have := HJ5.1; have := HK2.1; omega
      case rel => exact ⟨(x12_2), (wrap64 (x13_2 + 1)), zJJ, H', ⟨by have := HJ5.1; have := HK2.1; omega⟩, ⟨zR HO_9.1⟩, ⟨zR HO_12.1⟩, ⟨zB0⟩⟩
     subst c29
     rw [if_pos rfl] at H
     by_cases c30 : x12_2.length < 17592186044416
     rotate_left
     ·rw [if_neg c30] at H
      exact absurd H (by simp)
     rw [if_pos c30] at H
     have LMc30 := zM c30
     clear c30
     obtain ⟨y439, hy439⟩ : ∃ y_ : List Int, y_ = (x12_2 ++ [x13_2]) := ⟨_, rfl⟩
     replace H : (spec_Finals.l1 k2 x9_5 y439 (wrap64 (x13_2 + 1))) = some r := by first | (rw [hy439]; with_reducible exact H) | (have H2_ := (Option.bind_some _ _).symm.trans H; rw [hy439]; with_reducible exact H2_) | (have H2_ := (Option.bind_some _ _).symm.trans H; with_reducible exact H2_) | with_reducible exact H | (rw [hy439]; exact H) | exact H
     have Ny439 := zM hy439
     clear hy439
     have H' := zM H
     clear H
     obtain ⟨Ao31, co31, eo31⟩ := Kd.R_slice HO_9.1
     subst eo31
     have p438 : 0 ≤ (x13_2 : Int) := zA
     have q438 : x13_2 < (x9_5.length : Int) := zA
     obtain ⟨ad438, e438, hx438_0⟩ := Kd.at_bool (Kd.R_reads' HO_9.1).2.2 x13_2 p438 q438
     (try rw [← Nbq28.out] at hx438_0)
     cases e438
     replace p438 := eq_true p438
     replace q438 := eq_true q438
     go_wp2_with (first | ((with_reducible refine gate_builtin (b := .append) (xs := #[.tmp 49, .tmp 51]) rfl ?_); at_builtin; refine Kd.R_append (Kd.int .i64) (w0 := w) w.heap.size rfl (.tmp 49) (.tmp 51) 24 3 (.int .i64 0) 8 rfl Try.underlying24 info3 rfl (by decide) (by omega) u12 x12_2 x13_2 [.int .i64 x13_2] (fun _ => True) (fun _ => False) rfl rfl ?aP (fun _ hk => hk.elim) ?aF ?aO ?aB ?aS ?aL ?_; (case aP => exact rfl); (case aB => exact zB0); (case aF => exact (fun _ _ => trivial)); (case aO => exact (zR HO_12.1)); (case aS => exact (below_size zB0)); (case aL => have := LMc30.out; omega); intro v440 w32 ho hb hg hat; rw [← Ny439.1] at ho; replace HO_9 := zM (Kd.R_over' (zR HO_9.1) (Kd.R_typed (zR HO_12.1)) (by decide) hg); replace HB := zM hb; have HO441 := zM ho; clear HO_12; clear ho hb hg hat))
     go_roundg k2
     case measure => have := HJ5.1; have := HK2.1; omega
     case rel => exact ⟨(y439), (wrap64 (x13_2 + 1)), zJJ, H', ⟨by have := HJ5.1; have := HK2.1; omega⟩, ⟨zR HO_9.1⟩, ⟨zR HO441.1⟩, ⟨zB0⟩⟩

/-! ### spec_Always: function 34 -/
def spec_Always.f (k : Nat) (l0 : List Int) (l1 : List (S29)) (a2 : Int) (a3 : Int) (a4 : Int) : Option (Bool) := (spec_Finals.f k l0 l1 a2 a3).bind fun t442 => (if (t442.length : Int) = 1 then (if 0 < (t442.length : Int) then (some ((rd t442 0) == a4)) else (none)) else (some false))
theorem spec_Always.mono : ∀ a0 a1 a2 a3 a4 k, LeO (spec_Always.f k a0 a1 a2 a3 a4) (spec_Always.f (k + 1) a0 a1 a2 a3 a4) := by
 intro a0 a1 a2 a3 a4 k
 unfold spec_Always.f
 have mo0 := @spec_Finals.mono
 exact zL
theorem spec_Always.calls (k : Nat) (A0 : Option Addr) (c0 : Nat) (l0 : List Int) (A1 : Option Addr) (c1 : Nat) (l1 : List (S29)) (a2 : Int) (a3 : Int) (a4 : Int) (r : Bool) (w : World) (hr0 : Kd.C (Kd.int .i64) w A0 l0.length l0) (hc0 : l0.length ≤ c0) (hr1 : Kd.C k29 w A1 l1.length l1) (hc1 : l1.length ≤ c1) (h : spec_Always.f k l0 l1 a2 a3 a4 = some r) :
  Calls Try.prog 34 #[.slice A0 l0.length c0, .slice A1 l1.length c1, .int .i64 a2, .int .i64 a3, .int .i64 a4] w fun e w' => e = .returned (.bool r) ∧ Below w.heap.size w w' := by
 have HR0 := zM hr0
 have HC0 := zM hc0
 clear hr0 hc0
 have HR1 := zM hr1
 have HC1 := zM hc1
 clear hr1 hc1
 have HB := zM (Below.refl w.heap.size w)
 unfold spec_Always.f at h
 have H := h
 clear h
 replace H := zO H
 obtain ⟨t442, A6, H⟩ := H
 by_cases c7 : (t442.length : Int) = 1
 rotate_left
 ·rw [if_neg c7] at H
  have c7b0 : ((t442.length : Int) == 1) = false := beq_eq_false_iff_ne.mpr c7
  have c7b1 : ((t442.length : Int) != 1) = true := bne_iff_ne.mpr c7
  obtain rfl := Option.some.inj H
  go_enter Try.func34, Try.ntmps34
  go_wp2_with (first | ((with_reducible refine gate_callee (f := 18) rfl ?_); refine goesL_ (some 16) rfl rfl Try.func18 (by kernel_rfl) rfl #[.slice A0 l0.length c0, .slice A1 l1.length c1, .int .i64 a2, .int .i64 a3] rfl zT ?_; (with_reducible refine (spec_Finals.calls k _ _ l0 _ _ l1 a2 a3 t442 _ ?side1 ?side2 ?side3 ?side4 A6.1).mono ?_); (case side1 => exact zC HR0.1); (case side2 => exact HC0.1); (case side3 => exact zC HR1.1); (case side4 => exact HC1.1); rintro e w11 ⟨v443, rfl, ho0, hb⟩; refine ⟨_, rfl, ?_⟩; have HO444 := zM (Kd.R_lower ho0 (below_size zB0)); replace HB := zM (below_step zB0 hb); clear hb ho0; obtain ⟨Ao12, co12, eo12⟩ := Kd.R_slice HO444.1; subst eo12))
  go_ret
  exact ⟨zE, zB0⟩
 rw [if_pos c7] at H
 have c7b0 : ((t442.length : Int) == 1) = true := beq_iff_eq.mpr c7
 have c7b1 : ((t442.length : Int) != 1) = false := bne_eq_false_iff_eq.mpr c7
 clear c7
 by_cases c8 : 0 < (t442.length : Int)
 rotate_left
 ·rw [if_neg c8] at H
  exact absurd H (by simp)
 rw [if_pos c8] at H
 have c8b0 := decide_eq_true c8
 have c8b1 : decide (0 < t442.length) = true := decide_eq_true (by omega)
 clear c8
 obtain rfl := Option.some.inj H
 go_enter Try.func34, Try.ntmps34
 go_wp2_with (first | ((with_reducible refine gate_callee (f := 18) rfl ?_); refine goesL_ (some 16) rfl rfl Try.func18 (by kernel_rfl) rfl #[.slice A0 l0.length c0, .slice A1 l1.length c1, .int .i64 a2, .int .i64 a3] rfl zT ?_; (with_reducible refine (spec_Finals.calls k _ _ l0 _ _ l1 a2 a3 t442 _ ?side1 ?side2 ?side3 ?side4 A6.1).mono ?_); (case side1 => exact zC HR0.1); (case side2 => exact HC0.1); (case side3 => exact zC HR1.1); (case side4 => exact HC1.1); rintro e w9 ⟨v443, rfl, ho0, hb⟩; refine ⟨_, rfl, ?_⟩; have HO444 := zM (Kd.R_lower ho0 (below_size zB0)); replace HB := zM (below_step zB0 hb); clear hb ho0; obtain ⟨Ao10, co10, eo10⟩ := Kd.R_slice HO444.1; subst eo10; have p445 : 0 ≤ (0 : Int) := (by omega); have q445 : 0 < (t442.length : Int) := zA; obtain ⟨ad445, e445, hx445_0⟩ := Kd.at_int (Kd.R_reads' HO444.1).2.2 0 p445 q445; cases e445; have qi445 : (0 < t442.length) = True := eq_true (by omega); (try rw [show ((0 : Int)).toNat = 0 from rfl] at hx445_0); (try rw [Addr.add_zero'] at hx445_0); replace p445 := eq_true p445; replace q445 := eq_true q445))
 go_ret
 exact ⟨zE, zB0⟩

/-! ### laws_FnExactAlways: function 6 -/
def laws_FnExactAlways.f (k : Nat) (l0 : List Int) (l1 : List (S68)) (a2 : Int) (a3 : Int) (a4 : Int) : Option (Bool) := if (l0.length : Int) > 1048576 then (some true) else ((laws_szHartS.f k l1 1048576).bind fun t446 => (if t446 < 0 then (some true) else ((laws_toIntS.f k l0).bind fun t447 => ((laws_toHartS.f k l1).bind fun t450 => ((spec_Always.f k t447 t450 a2 a3 a4).bind fun t453 => ((laws_toIntS.f k l0).bind fun t454 => ((laws_toHartS.f k l1).bind fun t457 => ((impl_Always.f k t454 t457 a2 a3 a4).bind fun t460 => (if (t460 != t453) = true then (some false) else ((laws_toIntS.f k l0).bind fun t461 => ((laws_eqIntS.f k t454 t461).bind fun t464 => (if t464 = true then ((laws_toHartS.f k l1).bind fun t465 => ((laws_eqHartS.f k t457 t465).bind fun t468 => (if t468 = true then (some true) else (some false)))) else (some false)))))))))))))
theorem laws_FnExactAlways.mono : ∀ a0 a1 a2 a3 a4 k, LeO (laws_FnExactAlways.f k a0 a1 a2 a3 a4) (laws_FnExactAlways.f (k + 1) a0 a1 a2 a3 a4) := by
 intro a0 a1 a2 a3 a4 k
 unfold laws_FnExactAlways.f
 have mo0 := @impl_Always.mono
 have mo1 := @laws_eqHartS.mono
 have mo2 := @laws_eqIntS.mono
 have mo3 := @laws_szHartS.mono
 have mo4 := @laws_toHartS.mono
 have mo5 := @laws_toIntS.mono
 have mo6 := @spec_Always.mono
 exact zL
theorem laws_FnExactAlways.calls (k : Nat) (A0 : Option Addr) (c0 : Nat) (l0 : List Int) (A1 : Option Addr) (c1 : Nat) (l1 : List (S68)) (a2 : Int) (a3 : Int) (a4 : Int) (r : Bool) (w : World) (hr0 : Kd.C (Kd.int .i64) w A0 l0.length l0) (hc0 : l0.length ≤ c0) (hr1 : Kd.C k68 w A1 l1.length l1) (hc1 : l1.length ≤ c1) (h : laws_FnExactAlways.f k l0 l1 a2 a3 a4 = some r) :
  Calls Try.prog 6 #[.slice A0 l0.length c0, .slice A1 l1.length c1, .int .i64 a2, .int .i64 a3, .int .i64 a4] w fun e w' => e = .returned (.bool r) ∧ Below w.heap.size w w' := by
 have HR0 := zM hr0
 have HC0 := zM hc0
 clear hr0 hc0
 have HR1 := zM hr1
 have HC1 := zM hc1
 clear hr1 hc1
 have HB := zM (Below.refl w.heap.size w)
 unfold laws_FnExactAlways.f at h
 have H := h
 clear h
 by_cases c6 : (l0.length : Int) > 1048576
 ·rw [if_pos c6] at H
  have c6b0 := decide_eq_true c6
  have c6b1 : decide (1048576 < l0.length) = true := decide_eq_true (by omega)
  clear c6
  obtain rfl := Option.some.inj H
  go_enter Try.func6, Try.ntmps6
  go_wp2
  go_ret
  exact ⟨zE, zB0⟩
 rw [if_neg c6] at H
 have c6b0 := decide_eq_false c6
 have c6b1 : decide (1048576 < l0.length) = false := decide_eq_false (by omega)
 clear c6
 replace H := zO H
 obtain ⟨t446, A7, H⟩ := H
 by_cases c8 : t446 < 0
 ·rw [if_pos c8] at H
  have c8b0 := decide_eq_true c8
  clear c8
  obtain rfl := Option.some.inj H
  go_enter Try.func6, Try.ntmps6
  go_wp2_with (first | ((with_reducible refine gate_callee (f := 20) rfl ?_); refine goesL_ (some 21) rfl rfl Try.func20 (by kernel_rfl) rfl #[.slice A1 l1.length c1, .int .i64 1048576] rfl zT ?_; (with_reducible refine (laws_szHartS.calls k _ _ l1 1048576 t446 _ ?side1 ?side2 A7.1).mono ?_); (case side1 => exact zC HR1.1); (case side2 => exact HC1.1); rintro e w9 ⟨rfl, hb⟩; refine ⟨_, rfl, ?_⟩; replace HB := zM (below_step zB0 hb); clear hb))
  go_ret
  exact ⟨zE, zB0⟩
 rw [if_neg c8] at H
 have c8b0 := decide_eq_false c8
 clear c8
 replace H := zO H
 obtain ⟨t447, A10, H⟩ := H
 replace H := zO H
 obtain ⟨t450, A11, H⟩ := H
 replace H := zO H
 obtain ⟨t453, A12, H⟩ := H
 replace H := zO H
 obtain ⟨t454, A13, H⟩ := H
 replace H := zO H
 obtain ⟨t457, A14, H⟩ := H
 replace H := zO H
 obtain ⟨t460, A15, H⟩ := H
 by_cases c16 : (t460 != t453) = true
 ·rw [if_pos c16] at H
  have c16b0 : (t460 != t453) = true := c16
  (try (have c16b1 : decide (t460 = t453) = false := by simpa using c16))
  (try (have c16b2 : (t460 == t453) = false := by simpa using c16))
  (try (have c16b3 : ¬ (t460 = t453) := by simpa using c16))
  clear c16
  obtain rfl := Option.some.inj H
  go_enter Try.func6, Try.ntmps6
  go_wp2_with (first | ((with_reducible refine gate_callee (f := 20) rfl ?_); refine goesL_ (some 21) rfl rfl Try.func20 (by kernel_rfl) rfl #[.slice A1 l1.length c1, .int .i64 1048576] rfl zT ?_; (with_reducible refine (laws_szHartS.calls k _ _ l1 1048576 t446 _ ?side1 ?side2 A7.1).mono ?_); (case side1 => exact zC HR1.1); (case side2 => exact HC1.1); rintro e w17 ⟨rfl, hb⟩; refine ⟨_, rfl, ?_⟩; replace HB := zM (below_step zB0 hb); clear hb) | ((with_reducible refine gate_callee (f := 22) rfl ?_); refine goesL_ (some 25) rfl rfl Try.func22 (by kernel_rfl) rfl #[.slice A0 l0.length c0] rfl zT ?_; (with_reducible refine (laws_toIntS.calls k _ _ l0 t447 _ ?side1 ?side2 A10.1).mono ?_); (case side1 => exact zC (Kd.C_below HR0.1 HB.1)); (case side2 => exact HC0.1); rintro e w18 ⟨v448, rfl, ho0, hb⟩; refine ⟨_, rfl, ?_⟩; have HO449 := zM (Kd.R_lower ho0 (below_size zB0)); replace HB := zM (below_step zB0 hb); clear hb ho0) | ((with_reducible refine gate_callee (f := 23) rfl ?_); refine goesL_ (some 27) rfl rfl Try.func23 (by kernel_rfl) rfl #[.slice A1 l1.length c1] rfl zT ?_; (with_reducible refine (laws_toHartS.calls k _ _ l1 t450 _ ?side1 ?side2 A11.1).mono ?_); (case side1 => exact zC (Kd.C_below HR1.1 HB.1)); (case side2 => exact HC1.1); rintro e w19 ⟨v451, rfl, ho0, hb⟩; refine ⟨_, rfl, ?_⟩; have HO452 := zM (Kd.S_lower (Kd.S_new' ho0 (Kd.R_lt (zR HO449.1))) (below_size zB0)); replace HO449 := zM (Kd.R_below (zR HO449.1) hb); replace HB := zM (below_step zB0 hb); clear hb ho0; obtain ⟨Ao20, co20, eo20⟩ := Kd.R_slice HO449.1; subst eo20; obtain ⟨Ao21, co21, eo21⟩ := Kd.S_slice HO452.1; subst eo21) | ((with_reducible refine gate_callee (f := 34) rfl ?_); refine goesL_ (some 31) rfl rfl Try.func34 (by kernel_rfl) rfl #[.slice Ao20 t447.length co20, .slice Ao21 t450.length co21, .int .i64 a2, .int .i64 a3, .int .i64 a4] rfl zT ?_; (with_reducible refine (spec_Always.calls k _ _ t447 _ _ t450 a2 a3 a4 t453 _ ?side1 ?side2 ?side3 ?side4 A12.1).mono ?_); (case side1 => exact zC (Kd.R_reads' HO449.1).2.2); (case side2 => exact (Kd.R_reads' HO449.1).2.1); (case side3 => exact zC (Kd.S_reads' HO452.1).2.2); (case side4 => exact (Kd.S_reads' HO452.1).2.1); rintro e w22 ⟨rfl, hb⟩; refine ⟨_, rfl, ?_⟩; replace HO449 := zM (Kd.R_below (zR HO449.1) hb); replace HO452 := zM (Kd.S_below (zS HO452.1) hb); replace HB := zM (below_step zB0 hb); clear hb) | ((with_reducible refine gate_callee (f := 22) rfl ?_); refine goesL_ (some 33) rfl rfl Try.func22 (by kernel_rfl) rfl #[.slice A0 l0.length c0] rfl zT ?_; (with_reducible refine (laws_toIntS.calls k _ _ l0 t454 _ ?side1 ?side2 A13.1).mono ?_); (case side1 => exact zC (Kd.C_below HR0.1 HB.1)); (case side2 => exact HC0.1); rintro e w23 ⟨v455, rfl, ho0, hb⟩; refine ⟨_, rfl, ?_⟩; replace HO452 := zM (Kd.S_elder' (zS HO452.1) (Kd.R_base ho0) hb); have HO456 := zM (Kd.R_lower (Kd.R_new' ho0 (Kd.R_lt (zR HO449.1))) (below_size zB0)); replace HO449 := zM (Kd.R_elder' (zR HO449.1) (Kd.R_base ho0) hb); replace HB := zM (below_step zB0 hb); clear hb ho0) | ((with_reducible refine gate_callee (f := 23) rfl ?_); refine goesL_ (some 35) rfl rfl Try.func23 (by kernel_rfl) rfl #[.slice A1 l1.length c1] rfl zT ?_; (with_reducible refine (laws_toHartS.calls k _ _ l1 t457 _ ?side1 ?side2 A14.1).mono ?_); (case side1 => exact zC (Kd.C_below HR1.1 HB.1)); (case side2 => exact HC1.1); rintro e w24 ⟨v458, rfl, ho0, hb⟩; refine ⟨_, rfl, ?_⟩; have HO459 := zM (Kd.S_lower (Kd.S_new' (Kd.S_new' (Kd.S_new' ho0 (Kd.R_lt (zR HO449.1))) (Kd.S_lt (zS HO452.1))) (Kd.R_lt (zR HO456.1))) (below_size zB0)); replace HO449 := zM (Kd.R_below (zR HO449.1) hb); replace HO452 := zM (Kd.S_elder' (zS HO452.1) (Kd.S_base ho0) hb); replace HO456 := zM (Kd.R_below (zR HO456.1) hb); replace HB := zM (below_step zB0 hb); clear hb ho0; obtain ⟨Ao25, co25, eo25⟩ := Kd.R_slice HO456.1; subst eo25; obtain ⟨Ao26, co26, eo26⟩ := Kd.S_slice HO459.1; subst eo26) | ((with_reducible refine gate_callee (f := 15) rfl ?_); refine goesL_ (some 41) rfl rfl Try.func15 (by kernel_rfl) rfl #[.slice Ao25 t454.length co25, .slice Ao26 t457.length co26, .int .i64 a2, .int .i64 a3, .int .i64 a4] rfl zT ?_; (with_reducible refine (impl_Always.calls k _ _ t454 _ _ t457 a2 a3 a4 t460 _ ?side1 ?side2 ?side3 ?side4 A15.1).mono ?_); (case side1 => exact zC (Kd.R_reads' HO456.1).2.2); (case side2 => exact (Kd.R_reads' HO456.1).2.1); (case side3 => exact zC (Kd.S_reads' HO459.1).2.2); (case side4 => exact (Kd.S_reads' HO459.1).2.1); rintro e w27 ⟨rfl, hb⟩; refine ⟨_, rfl, ?_⟩; replace HO449 := zM (Kd.R_below (zR HO449.1) hb); replace HO452 := zM (Kd.S_below (zS HO452.1) hb); replace HO456 := zM (Kd.R_below (zR HO456.1) hb); replace HO459 := zM (Kd.S_below (zS HO459.1) hb); replace HB := zM (below_step zB0 hb); clear hb))
  go_ret
  exact ⟨zE, zB0⟩
 rw [if_neg c16] at H
 have c16b0 : (t460 != t453) = false := by simpa using c16
 (try (have c16b1 : decide (t460 = t453) = true := by simpa using c16))
 (try (have c16b2 : (t460 == t453) = true := by simpa using c16))
 clear c16
 replace H := zO H
 obtain ⟨t461, A28, H⟩ := H
 replace H := zO H
 obtain ⟨t464, A29, H⟩ := H
 by_cases c30 : t464 = true
 rotate_left
 ·replace c30 := Bool.eq_false_iff.mpr c30
  subst c30
  rw [if_neg zF] at H
  obtain rfl := Option.some.inj H
  go_enter Try.func6, Try.ntmps6
  go_wp2_with (first | ((with_reducible refine gate_callee (f := 20) rfl ?_); refine goesL_ (some 21) rfl rfl Try.func20 (by kernel_rfl) rfl #[.slice A1 l1.length c1, .int .i64 1048576] rfl zT ?_; (with_reducible refine (laws_szHartS.calls k _ _ l1 1048576 t446 _ ?side1 ?side2 A7.1).mono ?_); (case side1 => exact zC HR1.1); (case side2 => exact HC1.1); rintro e w66 ⟨rfl, hb⟩; refine ⟨_, rfl, ?_⟩; replace HB := zM (below_step zB0 hb); clear hb) | ((with_reducible refine gate_callee (f := 22) rfl ?_); refine goesL_ (some 25) rfl rfl Try.func22 (by kernel_rfl) rfl #[.slice A0 l0.length c0] rfl zT ?_; (with_reducible refine (laws_toIntS.calls k _ _ l0 t447 _ ?side1 ?side2 A10.1).mono ?_); (case side1 => exact zC (Kd.C_below HR0.1 HB.1)); (case side2 => exact HC0.1); rintro e w67 ⟨v448, rfl, ho0, hb⟩; refine ⟨_, rfl, ?_⟩; have HO449 := zM (Kd.R_lower ho0 (below_size zB0)); replace HB := zM (below_step zB0 hb); clear hb ho0) | ((with_reducible refine gate_callee (f := 23) rfl ?_); refine goesL_ (some 27) rfl rfl Try.func23 (by kernel_rfl) rfl #[.slice A1 l1.length c1] rfl zT ?_; (with_reducible refine (laws_toHartS.calls k _ _ l1 t450 _ ?side1 ?side2 A11.1).mono ?_); (case side1 => exact zC (Kd.C_below HR1.1 HB.1)); (case side2 => exact HC1.1); rintro e w68 ⟨v451, rfl, ho0, hb⟩; refine ⟨_, rfl, ?_⟩; have HO452 := zM (Kd.S_lower (Kd.S_new' ho0 (Kd.R_lt (zR HO449.1))) (below_size zB0)); replace HO449 := zM (Kd.R_below (zR HO449.1) hb); replace HB := zM (below_step zB0 hb); clear hb ho0; obtain ⟨Ao69, co69, eo69⟩ := Kd.R_slice HO449.1; subst eo69; obtain ⟨Ao70, co70, eo70⟩ := Kd.S_slice HO452.1; subst eo70) | ((with_reducible refine gate_callee (f := 34) rfl ?_); refine goesL_ (some 31) rfl rfl Try.func34 (by kernel_rfl) rfl #[.slice Ao69 t447.length co69, .slice Ao70 t450.length co70, .int .i64 a2, .int .i64 a3, .int .i64 a4] rfl zT ?_; (with_reducible refine (spec_Always.calls k _ _ t447 _ _ t450 a2 a3 a4 t453 _ ?side1 ?side2 ?side3 ?side4 A12.1).mono ?_); (case side1 => exact zC (Kd.R_reads' HO449.1).2.2); (case side2 => exact (Kd.R_reads' HO449.1).2.1); (case side3 => exact zC (Kd.S_reads' HO452.1).2.2); (case side4 => exact (Kd.S_reads' HO452.1).2.1); rintro e w71 ⟨rfl, hb⟩; refine ⟨_, rfl, ?_⟩; replace HO449 := zM (Kd.R_below (zR HO449.1) hb); replace HO452 := zM (Kd.S_below (zS HO452.1) hb); replace HB := zM (below_step zB0 hb); clear hb) | ((with_reducible refine gate_callee (f := 22) rfl ?_); refine goesL_ (some 33) rfl rfl Try.func22 (by kernel_rfl) rfl #[.slice A0 l0.length c0] rfl zT ?_; (with_reducible refine (laws_toIntS.calls k _ _ l0 t454 _ ?side1 ?side2 A13.1).mono ?_); (case side1 => exact zC (Kd.C_below HR0.1 HB.1)); (case side2 => exact HC0.1); rintro e w72 ⟨v455, rfl, ho0, hb⟩; refine ⟨_, rfl, ?_⟩; replace HO452 := zM (Kd.S_elder' (zS HO452.1) (Kd.R_base ho0) hb); have HO456 := zM (Kd.R_lower (Kd.R_new' ho0 (Kd.R_lt (zR HO449.1))) (below_size zB0)); replace HO449 := zM (Kd.R_elder' (zR HO449.1) (Kd.R_base ho0) hb); replace HB := zM (below_step zB0 hb); clear hb ho0) | ((with_reducible refine gate_callee (f := 23) rfl ?_); refine goesL_ (some 35) rfl rfl Try.func23 (by kernel_rfl) rfl #[.slice A1 l1.length c1] rfl zT ?_; (with_reducible refine (laws_toHartS.calls k _ _ l1 t457 _ ?side1 ?side2 A14.1).mono ?_); (case side1 => exact zC (Kd.C_below HR1.1 HB.1)); (case side2 => exact HC1.1); rintro e w73 ⟨v458, rfl, ho0, hb⟩; refine ⟨_, rfl, ?_⟩; have HO459 := zM (Kd.S_lower (Kd.S_new' (Kd.S_new' (Kd.S_new' ho0 (Kd.R_lt (zR HO449.1))) (Kd.S_lt (zS HO452.1))) (Kd.R_lt (zR HO456.1))) (below_size zB0)); replace HO449 := zM (Kd.R_below (zR HO449.1) hb); replace HO452 := zM (Kd.S_elder' (zS HO452.1) (Kd.S_base ho0) hb); replace HO456 := zM (Kd.R_below (zR HO456.1) hb); replace HB := zM (below_step zB0 hb); clear hb ho0; obtain ⟨Ao74, co74, eo74⟩ := Kd.R_slice HO456.1; subst eo74; obtain ⟨Ao75, co75, eo75⟩ := Kd.S_slice HO459.1; subst eo75) | ((with_reducible refine gate_callee (f := 15) rfl ?_); refine goesL_ (some 41) rfl rfl Try.func15 (by kernel_rfl) rfl #[.slice Ao74 t454.length co74, .slice Ao75 t457.length co75, .int .i64 a2, .int .i64 a3, .int .i64 a4] rfl zT ?_; (with_reducible refine (impl_Always.calls k _ _ t454 _ _ t457 a2 a3 a4 t460 _ ?side1 ?side2 ?side3 ?side4 A15.1).mono ?_); (case side1 => exact zC (Kd.R_reads' HO456.1).2.2); (case side2 => exact (Kd.R_reads' HO456.1).2.1); (case side3 => exact zC (Kd.S_reads' HO459.1).2.2); (case side4 => exact (Kd.S_reads' HO459.1).2.1); rintro e w76 ⟨rfl, hb⟩; refine ⟨_, rfl, ?_⟩; replace HO449 := zM (Kd.R_below (zR HO449.1) hb); replace HO452 := zM (Kd.S_below (zS HO452.1) hb); replace HO456 := zM (Kd.R_below (zR HO456.1) hb); replace HO459 := zM (Kd.S_below (zS HO459.1) hb); replace HB := zM (below_step zB0 hb); clear hb) | ((with_reducible refine gate_callee (f := 22) rfl ?_); refine goesL_ (some 47) rfl rfl Try.func22 (by kernel_rfl) rfl #[.slice A0 l0.length c0] rfl zT ?_; (with_reducible refine (laws_toIntS.calls k _ _ l0 t461 _ ?side1 ?side2 A28.1).mono ?_); (case side1 => exact zC (Kd.C_below HR0.1 HB.1)); (case side2 => exact HC0.1); rintro e w77 ⟨v462, rfl, ho0, hb⟩; refine ⟨_, rfl, ?_⟩; replace HO452 := zM (Kd.S_elder' (zS HO452.1) (Kd.R_base ho0) hb); replace HO459 := zM (Kd.S_elder' (zS HO459.1) (Kd.R_base ho0) hb); have HO463 := zM (Kd.R_lower (Kd.R_new' (Kd.R_new' ho0 (Kd.R_lt (zR HO449.1))) (Kd.R_lt (zR HO456.1))) (below_size zB0)); replace HO449 := zM (Kd.R_elder' (zR HO449.1) (Kd.R_base ho0) hb); replace HO456 := zM (Kd.R_elder' (zR HO456.1) (Kd.R_base ho0) hb); replace HB := zM (below_step zB0 hb); clear hb ho0; obtain ⟨Ao78, co78, eo78⟩ := Kd.R_slice HO463.1; subst eo78) | ((with_reducible refine gate_callee (f := 26) rfl ?_); refine goesL_ (some 48) rfl rfl Try.func26 (by kernel_rfl) rfl #[.slice Ao74 t454.length co74, .slice Ao78 t461.length co78] rfl zT ?_; (with_reducible refine (laws_eqIntS.calls k _ _ t454 _ _ t461 false _ ?side1 ?side2 ?side3 ?side4 A29.1).mono ?_); (case side1 => exact zC (Kd.R_reads' HO456.1).2.2); (case side2 => exact (Kd.R_reads' HO456.1).2.1); (case side3 => exact zC (Kd.R_reads' HO463.1).2.2); (case side4 => exact (Kd.R_reads' HO463.1).2.1); rintro e w' ⟨rfl, ⟨nd, rfl⟩⟩; refine ⟨_, rfl, ?_⟩))
  go_ret
  exact ⟨zE, zB0⟩
 subst c30
 rw [if_pos rfl] at H
 replace H := zO H
 obtain ⟨t465, A31, H⟩ := H
 replace H := zO H
 obtain ⟨t468, A32, H⟩ := H
 by_cases c33 : t468 = true
 ·subst c33
  rw [if_pos rfl] at H
  obtain rfl := Option.some.inj H
  go_enter Try.func6, Try.ntmps6
  go_wp2_with (first | ((with_reducible refine gate_callee (f := 20) rfl ?_); refine goesL_ (some 21) rfl rfl Try.func20 (by kernel_rfl) rfl #[.slice A1 l1.length c1, .int .i64 1048576] rfl zT ?_; (with_reducible refine (laws_szHartS.calls k _ _ l1 1048576 t446 _ ?side1 ?side2 A7.1).mono ?_); (case side1 => exact zC HR1.1); (case side2 => exact HC1.1); rintro e w34 ⟨rfl, hb⟩; refine ⟨_, rfl, ?_⟩; replace HB := zM (below_step zB0 hb); clear hb) | ((with_reducible refine gate_callee (f := 22) rfl ?_); refine goesL_ (some 25) rfl rfl Try.func22 (by kernel_rfl) rfl #[.slice A0 l0.length c0] rfl zT ?_; (with_reducible refine (laws_toIntS.calls k _ _ l0 t447 _ ?side1 ?side2 A10.1).mono ?_); (case side1 => exact zC (Kd.C_below HR0.1 HB.1)); (case side2 => exact HC0.1); rintro e w35 ⟨v448, rfl, ho0, hb⟩; refine ⟨_, rfl, ?_⟩; have HO449 := zM (Kd.R_lower ho0 (below_size zB0)); replace HB := zM (below_step zB0 hb); clear hb ho0) | ((with_reducible refine gate_callee (f := 23) rfl ?_); refine goesL_ (some 27) rfl rfl Try.func23 (by kernel_rfl) rfl #[.slice A1 l1.length c1] rfl zT ?_; (with_reducible refine (laws_toHartS.calls k _ _ l1 t450 _ ?side1 ?side2 A11.1).mono ?_); (case side1 => exact zC (Kd.C_below HR1.1 HB.1)); (case side2 => exact HC1.1); rintro e w36 ⟨v451, rfl, ho0, hb⟩; refine ⟨_, rfl, ?_⟩; have HO452 := zM (Kd.S_lower (Kd.S_new' ho0 (Kd.R_lt (zR HO449.1))) (below_size zB0)); replace HO449 := zM (Kd.R_below (zR HO449.1) hb); replace HB := zM (below_step zB0 hb); clear hb ho0; obtain ⟨Ao37, co37, eo37⟩ := Kd.R_slice HO449.1; subst eo37; obtain ⟨Ao38, co38, eo38⟩ := Kd.S_slice HO452.1; subst eo38) | ((with_reducible refine gate_callee (f := 34) rfl ?_); refine goesL_ (some 31) rfl rfl Try.func34 (by kernel_rfl) rfl #[.slice Ao37 t447.length co37, .slice Ao38 t450.length co38, .int .i64 a2, .int .i64 a3, .int .i64 a4] rfl zT ?_; (with_reducible refine (spec_Always.calls k _ _ t447 _ _ t450 a2 a3 a4 t453 _ ?side1 ?side2 ?side3 ?side4 A12.1).mono ?_); (case side1 => exact zC (Kd.R_reads' HO449.1).2.2); (case side2 => exact (Kd.R_reads' HO449.1).2.1); (case side3 => exact zC (Kd.S_reads' HO452.1).2.2); (case side4 => exact (Kd.S_reads' HO452.1).2.1); rintro e w39 ⟨rfl, hb⟩; refine ⟨_, rfl, ?_⟩; replace HO449 := zM (Kd.R_below (zR HO449.1) hb); replace HO452 := zM (Kd.S_below (zS HO452.1) hb); replace HB := zM (below_step zB0 hb); clear hb) | ((with_reducible refine gate_callee (f := 22) rfl ?_); refine goesL_ (some 33) rfl rfl Try.func22 (by kernel_rfl) rfl #[.slice A0 l0.length c0] rfl zT ?_; (with_reducible refine (laws_toIntS.calls k _ _ l0 t454 _ ?side1 ?side2 A13.1).mono ?_); (case side1 => exact zC (Kd.C_below HR0.1 HB.1)); (case side2 => exact HC0.1); rintro e w40 ⟨v455, rfl, ho0, hb⟩; refine ⟨_, rfl, ?_⟩; replace HO452 := zM (Kd.S_elder' (zS HO452.1) (Kd.R_base ho0) hb); have HO456 := zM (Kd.R_lower (Kd.R_new' ho0 (Kd.R_lt (zR HO449.1))) (below_size zB0)); replace HO449 := zM (Kd.R_elder' (zR HO449.1) (Kd.R_base ho0) hb); replace HB := zM (below_step zB0 hb); clear hb ho0) | ((with_reducible refine gate_callee (f := 23) rfl ?_); refine goesL_ (some 35) rfl rfl Try.func23 (by kernel_rfl) rfl #[.slice A1 l1.length c1] rfl zT ?_; (with_reducible refine (laws_toHartS.calls k _ _ l1 t457 _ ?side1 ?side2 A14.1).mono ?_); (case side1 => exact zC (Kd.C_below HR1.1 HB.1)); (case side2 => exact HC1.1); rintro e w41 ⟨v458, rfl, ho0, hb⟩; refine ⟨_, rfl, ?_⟩; have HO459 := zM (Kd.S_lower (Kd.S_new' (Kd.S_new' (Kd.S_new' ho0 (Kd.R_lt (zR HO449.1))) (Kd.S_lt (zS HO452.1))) (Kd.R_lt (zR HO456.1))) (below_size zB0)); replace HO449 := zM (Kd.R_below (zR HO449.1) hb); replace HO452 := zM (Kd.S_elder' (zS HO452.1) (Kd.S_base ho0) hb); replace HO456 := zM (Kd.R_below (zR HO456.1) hb); replace HB := zM (below_step zB0 hb); clear hb ho0; obtain ⟨Ao42, co42, eo42⟩ := Kd.R_slice HO456.1; subst eo42; obtain ⟨Ao43, co43, eo43⟩ := Kd.S_slice HO459.1; subst eo43) | ((with_reducible refine gate_callee (f := 15) rfl ?_); refine goesL_ (some 41) rfl rfl Try.func15 (by kernel_rfl) rfl #[.slice Ao42 t454.length co42, .slice Ao43 t457.length co43, .int .i64 a2, .int .i64 a3, .int .i64 a4] rfl zT ?_; (with_reducible refine (impl_Always.calls k _ _ t454 _ _ t457 a2 a3 a4 t460 _ ?side1 ?side2 ?side3 ?side4 A15.1).mono ?_); (case side1 => exact zC (Kd.R_reads' HO456.1).2.2); (case side2 => exact (Kd.R_reads' HO456.1).2.1); (case side3 => exact zC (Kd.S_reads' HO459.1).2.2); (case side4 => exact (Kd.S_reads' HO459.1).2.1); rintro e w44 ⟨rfl, hb⟩; refine ⟨_, rfl, ?_⟩; replace HO449 := zM (Kd.R_below (zR HO449.1) hb); replace HO452 := zM (Kd.S_below (zS HO452.1) hb); replace HO456 := zM (Kd.R_below (zR HO456.1) hb); replace HO459 := zM (Kd.S_below (zS HO459.1) hb); replace HB := zM (below_step zB0 hb); clear hb) | ((with_reducible refine gate_callee (f := 22) rfl ?_); refine goesL_ (some 47) rfl rfl Try.func22 (by kernel_rfl) rfl #[.slice A0 l0.length c0] rfl zT ?_; (with_reducible refine (laws_toIntS.calls k _ _ l0 t461 _ ?side1 ?side2 A28.1).mono ?_); (case side1 => exact zC (Kd.C_below HR0.1 HB.1)); (case side2 => exact HC0.1); rintro e w45 ⟨v462, rfl, ho0, hb⟩; refine ⟨_, rfl, ?_⟩; replace HO452 := zM (Kd.S_elder' (zS HO452.1) (Kd.R_base ho0) hb); replace HO459 := zM (Kd.S_elder' (zS HO459.1) (Kd.R_base ho0) hb); have HO463 := zM (Kd.R_lower (Kd.R_new' (Kd.R_new' ho0 (Kd.R_lt (zR HO449.1))) (Kd.R_lt (zR HO456.1))) (below_size zB0)); replace HO449 := zM (Kd.R_elder' (zR HO449.1) (Kd.R_base ho0) hb); replace HO456 := zM (Kd.R_elder' (zR HO456.1) (Kd.R_base ho0) hb); replace HB := zM (below_step zB0 hb); clear hb ho0; obtain ⟨Ao46, co46, eo46⟩ := Kd.R_slice HO463.1; subst eo46) | ((with_reducible refine gate_callee (f := 26) rfl ?_); refine goesL_ (some 48) rfl rfl Try.func26 (by kernel_rfl) rfl #[.slice Ao42 t454.length co42, .slice Ao46 t461.length co46] rfl zT ?_; (with_reducible refine (laws_eqIntS.calls k _ _ t454 _ _ t461 true _ ?side1 ?side2 ?side3 ?side4 A29.1).mono ?_); (case side1 => exact zC (Kd.R_reads' HO456.1).2.2); (case side2 => exact (Kd.R_reads' HO456.1).2.1); (case side3 => exact zC (Kd.R_reads' HO463.1).2.2); (case side4 => exact (Kd.R_reads' HO463.1).2.1); rintro e w' ⟨rfl, ⟨nd, rfl⟩⟩; refine ⟨_, rfl, ?_⟩) | ((with_reducible refine gate_callee (f := 23) rfl ?_); refine goesL_ (some 52) rfl rfl Try.func23 (by kernel_rfl) rfl #[.slice A1 l1.length c1] rfl zT ?_; (with_reducible refine (laws_toHartS.calls k _ _ l1 t465 _ ?side1 ?side2 A31.1).mono ?_); (case side1 => repeat (first | exact (Kd.C_below HR1.1 zB0) | (with_reducible refine Kd.C_alloc ?_ _) | (with_reducible refine Kd.C_drewN ?_ _) | (with_reducible refine Kd.C_drew ?_))); (case side2 => exact HC1.1); rintro e w47 ⟨v466, rfl, ho0, hb⟩; refine ⟨_, rfl, ?_⟩; have HO467 := zM (Kd.S_lower (Kd.S_new' (Kd.S_new' (Kd.S_new' (Kd.S_new' (Kd.S_new' ho0 (Kd.R_lt (zR HO449.1))) (Kd.S_lt (zS HO452.1))) (Kd.R_lt (zR HO456.1))) (Kd.S_lt (zS HO459.1))) (Kd.R_lt (zR HO463.1))) (below_size zB0)); replace HO449 := zM (Kd.R_below (zR HO449.1) hb); replace HO452 := zM (Kd.S_elder' (zS HO452.1) (Kd.S_base ho0) hb); replace HO456 := zM (Kd.R_below (zR HO456.1) hb); replace HO459 := zM (Kd.S_elder' (zS HO459.1) (Kd.S_base ho0) hb); replace HO463 := zM (Kd.R_below (zR HO463.1) hb); replace HB := zM (below_step zB0 hb); clear hb ho0; obtain ⟨Ao48, co48, eo48⟩ := Kd.S_slice HO467.1; subst eo48) | ((with_reducible refine gate_callee (f := 27) rfl ?_); refine goesL_ (some 53) rfl rfl Try.func27 (by kernel_rfl) rfl #[.slice Ao43 t457.length co43, .slice Ao48 t465.length co48] rfl zT ?_; (with_reducible refine (laws_eqHartS.calls k _ _ t457 _ _ t465 true _ ?side1 ?side2 ?side3 ?side4 A32.1).mono ?_); (case side1 => exact zC (Kd.S_reads' HO459.1).2.2); (case side2 => exact (Kd.S_reads' HO459.1).2.1); (case side3 => exact zC (Kd.S_reads' HO467.1).2.2); (case side4 => exact (Kd.S_reads' HO467.1).2.1); rintro e w49 ⟨rfl, hb⟩; refine ⟨_, rfl, ?_⟩; replace HO449 := zM (Kd.R_below (zR HO449.1) hb); replace HO452 := zM (Kd.S_below (zS HO452.1) hb); replace HO456 := zM (Kd.R_below (zR HO456.1) hb); replace HO459 := zM (Kd.S_below (zS HO459.1) hb); replace HO463 := zM (Kd.R_below (zR HO463.1) hb); replace HO467 := zM (Kd.S_below (zS HO467.1) hb); replace HB := zM (below_step zB0 hb); clear hb))
  go_ret
  exact ⟨zE, zB0⟩
 replace c33 := Bool.eq_false_iff.mpr c33
 subst c33
 rw [if_neg zF] at H
 obtain rfl := Option.some.inj H
 go_enter Try.func6, Try.ntmps6
 go_wp2_with (first | ((with_reducible refine gate_callee (f := 20) rfl ?_); refine goesL_ (some 21) rfl rfl Try.func20 (by kernel_rfl) rfl #[.slice A1 l1.length c1, .int .i64 1048576] rfl zT ?_; (with_reducible refine (laws_szHartS.calls k _ _ l1 1048576 t446 _ ?side1 ?side2 A7.1).mono ?_); (case side1 => exact zC HR1.1); (case side2 => exact HC1.1); rintro e w50 ⟨rfl, hb⟩; refine ⟨_, rfl, ?_⟩; replace HB := zM (below_step zB0 hb); clear hb) | ((with_reducible refine gate_callee (f := 22) rfl ?_); refine goesL_ (some 25) rfl rfl Try.func22 (by kernel_rfl) rfl #[.slice A0 l0.length c0] rfl zT ?_; (with_reducible refine (laws_toIntS.calls k _ _ l0 t447 _ ?side1 ?side2 A10.1).mono ?_); (case side1 => exact zC (Kd.C_below HR0.1 HB.1)); (case side2 => exact HC0.1); rintro e w51 ⟨v448, rfl, ho0, hb⟩; refine ⟨_, rfl, ?_⟩; have HO449 := zM (Kd.R_lower ho0 (below_size zB0)); replace HB := zM (below_step zB0 hb); clear hb ho0) | ((with_reducible refine gate_callee (f := 23) rfl ?_); refine goesL_ (some 27) rfl rfl Try.func23 (by kernel_rfl) rfl #[.slice A1 l1.length c1] rfl zT ?_; (with_reducible refine (laws_toHartS.calls k _ _ l1 t450 _ ?side1 ?side2 A11.1).mono ?_); (case side1 => exact zC (Kd.C_below HR1.1 HB.1)); (case side2 => exact HC1.1); rintro e w52 ⟨v451, rfl, ho0, hb⟩; refine ⟨_, rfl, ?_⟩; have HO452 := zM (Kd.S_lower (Kd.S_new' ho0 (Kd.R_lt (zR HO449.1))) (below_size zB0)); replace HO449 := zM (Kd.R_below (zR HO449.1) hb); replace HB := zM (below_step zB0 hb); clear hb ho0; obtain ⟨Ao53, co53, eo53⟩ := Kd.R_slice HO449.1; subst eo53; obtain ⟨Ao54, co54, eo54⟩ := Kd.S_slice HO452.1; subst eo54) | ((with_reducible refine gate_callee (f := 34) rfl ?_); refine goesL_ (some 31) rfl rfl Try.func34 (by kernel_rfl) rfl #[.slice Ao53 t447.length co53, .slice Ao54 t450.length co54, .int .i64 a2, .int .i64 a3, .int .i64 a4] rfl zT ?_; (with_reducible refine (spec_Always.calls k _ _ t447 _ _ t450 a2 a3 a4 t453 _ ?side1 ?side2 ?side3 ?side4 A12.1).mono ?_); (case side1 => exact zC (Kd.R_reads' HO449.1).2.2); (case side2 => exact (Kd.R_reads' HO449.1).2.1); (case side3 => exact zC (Kd.S_reads' HO452.1).2.2); (case side4 => exact (Kd.S_reads' HO452.1).2.1); rintro e w55 ⟨rfl, hb⟩; refine ⟨_, rfl, ?_⟩; replace HO449 := zM (Kd.R_below (zR HO449.1) hb); replace HO452 := zM (Kd.S_below (zS HO452.1) hb); replace HB := zM (below_step zB0 hb); clear hb) | ((with_reducible refine gate_callee (f := 22) rfl ?_); refine goesL_ (some 33) rfl rfl Try.func22 (by kernel_rfl) rfl #[.slice A0 l0.length c0] rfl zT ?_; (with_reducible refine (laws_toIntS.calls k _ _ l0 t454 _ ?side1 ?side2 A13.1).mono ?_); (case side1 => exact zC (Kd.C_below HR0.1 HB.1)); (case side2 => exact HC0.1); rintro e w56 ⟨v455, rfl, ho0, hb⟩; refine ⟨_, rfl, ?_⟩; replace HO452 := zM (Kd.S_elder' (zS HO452.1) (Kd.R_base ho0) hb); have HO456 := zM (Kd.R_lower (Kd.R_new' ho0 (Kd.R_lt (zR HO449.1))) (below_size zB0)); replace HO449 := zM (Kd.R_elder' (zR HO449.1) (Kd.R_base ho0) hb); replace HB := zM (below_step zB0 hb); clear hb ho0) | ((with_reducible refine gate_callee (f := 23) rfl ?_); refine goesL_ (some 35) rfl rfl Try.func23 (by kernel_rfl) rfl #[.slice A1 l1.length c1] rfl zT ?_; (with_reducible refine (laws_toHartS.calls k _ _ l1 t457 _ ?side1 ?side2 A14.1).mono ?_); (case side1 => exact zC (Kd.C_below HR1.1 HB.1)); (case side2 => exact HC1.1); rintro e w57 ⟨v458, rfl, ho0, hb⟩; refine ⟨_, rfl, ?_⟩; have HO459 := zM (Kd.S_lower (Kd.S_new' (Kd.S_new' (Kd.S_new' ho0 (Kd.R_lt (zR HO449.1))) (Kd.S_lt (zS HO452.1))) (Kd.R_lt (zR HO456.1))) (below_size zB0)); replace HO449 := zM (Kd.R_below (zR HO449.1) hb); replace HO452 := zM (Kd.S_elder' (zS HO452.1) (Kd.S_base ho0) hb); replace HO456 := zM (Kd.R_below (zR HO456.1) hb); replace HB := zM (below_step zB0 hb); clear hb ho0; obtain ⟨Ao58, co58, eo58⟩ := Kd.R_slice HO456.1; subst eo58; obtain ⟨Ao59, co59, eo59⟩ := Kd.S_slice HO459.1; subst eo59) | ((with_reducible refine gate_callee (f := 15) rfl ?_); refine goesL_ (some 41) rfl rfl Try.func15 (by kernel_rfl) rfl #[.slice Ao58 t454.length co58, .slice Ao59 t457.length co59, .int .i64 a2, .int .i64 a3, .int .i64 a4] rfl zT ?_; (with_reducible refine (impl_Always.calls k _ _ t454 _ _ t457 a2 a3 a4 t460 _ ?side1 ?side2 ?side3 ?side4 A15.1).mono ?_); (case side1 => exact zC (Kd.R_reads' HO456.1).2.2); (case side2 => exact (Kd.R_reads' HO456.1).2.1); (case side3 => exact zC (Kd.S_reads' HO459.1).2.2); (case side4 => exact (Kd.S_reads' HO459.1).2.1); rintro e w60 ⟨rfl, hb⟩; refine ⟨_, rfl, ?_⟩; replace HO449 := zM (Kd.R_below (zR HO449.1) hb); replace HO452 := zM (Kd.S_below (zS HO452.1) hb); replace HO456 := zM (Kd.R_below (zR HO456.1) hb); replace HO459 := zM (Kd.S_below (zS HO459.1) hb); replace HB := zM (below_step zB0 hb); clear hb) | ((with_reducible refine gate_callee (f := 22) rfl ?_); refine goesL_ (some 47) rfl rfl Try.func22 (by kernel_rfl) rfl #[.slice A0 l0.length c0] rfl zT ?_; (with_reducible refine (laws_toIntS.calls k _ _ l0 t461 _ ?side1 ?side2 A28.1).mono ?_); (case side1 => exact zC (Kd.C_below HR0.1 HB.1)); (case side2 => exact HC0.1); rintro e w61 ⟨v462, rfl, ho0, hb⟩; refine ⟨_, rfl, ?_⟩; replace HO452 := zM (Kd.S_elder' (zS HO452.1) (Kd.R_base ho0) hb); replace HO459 := zM (Kd.S_elder' (zS HO459.1) (Kd.R_base ho0) hb); have HO463 := zM (Kd.R_lower (Kd.R_new' (Kd.R_new' ho0 (Kd.R_lt (zR HO449.1))) (Kd.R_lt (zR HO456.1))) (below_size zB0)); replace HO449 := zM (Kd.R_elder' (zR HO449.1) (Kd.R_base ho0) hb); replace HO456 := zM (Kd.R_elder' (zR HO456.1) (Kd.R_base ho0) hb); replace HB := zM (below_step zB0 hb); clear hb ho0; obtain ⟨Ao62, co62, eo62⟩ := Kd.R_slice HO463.1; subst eo62) | ((with_reducible refine gate_callee (f := 26) rfl ?_); refine goesL_ (some 48) rfl rfl Try.func26 (by kernel_rfl) rfl #[.slice Ao58 t454.length co58, .slice Ao62 t461.length co62] rfl zT ?_; (with_reducible refine (laws_eqIntS.calls k _ _ t454 _ _ t461 true _ ?side1 ?side2 ?side3 ?side4 A29.1).mono ?_); (case side1 => exact zC (Kd.R_reads' HO456.1).2.2); (case side2 => exact (Kd.R_reads' HO456.1).2.1); (case side3 => exact zC (Kd.R_reads' HO463.1).2.2); (case side4 => exact (Kd.R_reads' HO463.1).2.1); rintro e w' ⟨rfl, ⟨nd, rfl⟩⟩; refine ⟨_, rfl, ?_⟩) | ((with_reducible refine gate_callee (f := 23) rfl ?_); refine goesL_ (some 52) rfl rfl Try.func23 (by kernel_rfl) rfl #[.slice A1 l1.length c1] rfl zT ?_; (with_reducible refine (laws_toHartS.calls k _ _ l1 t465 _ ?side1 ?side2 A31.1).mono ?_); (case side1 => repeat (first | exact (Kd.C_below HR1.1 zB0) | (with_reducible refine Kd.C_alloc ?_ _) | (with_reducible refine Kd.C_drewN ?_ _) | (with_reducible refine Kd.C_drew ?_))); (case side2 => exact HC1.1); rintro e w63 ⟨v466, rfl, ho0, hb⟩; refine ⟨_, rfl, ?_⟩; have HO467 := zM (Kd.S_lower (Kd.S_new' (Kd.S_new' (Kd.S_new' (Kd.S_new' (Kd.S_new' ho0 (Kd.R_lt (zR HO449.1))) (Kd.S_lt (zS HO452.1))) (Kd.R_lt (zR HO456.1))) (Kd.S_lt (zS HO459.1))) (Kd.R_lt (zR HO463.1))) (below_size zB0)); replace HO449 := zM (Kd.R_below (zR HO449.1) hb); replace HO452 := zM (Kd.S_elder' (zS HO452.1) (Kd.S_base ho0) hb); replace HO456 := zM (Kd.R_below (zR HO456.1) hb); replace HO459 := zM (Kd.S_elder' (zS HO459.1) (Kd.S_base ho0) hb); replace HO463 := zM (Kd.R_below (zR HO463.1) hb); replace HB := zM (below_step zB0 hb); clear hb ho0; obtain ⟨Ao64, co64, eo64⟩ := Kd.S_slice HO467.1; subst eo64) | ((with_reducible refine gate_callee (f := 27) rfl ?_); refine goesL_ (some 53) rfl rfl Try.func27 (by kernel_rfl) rfl #[.slice Ao59 t457.length co59, .slice Ao64 t465.length co64] rfl zT ?_; (with_reducible refine (laws_eqHartS.calls k _ _ t457 _ _ t465 false _ ?side1 ?side2 ?side3 ?side4 A32.1).mono ?_); (case side1 => exact zC (Kd.S_reads' HO459.1).2.2); (case side2 => exact (Kd.S_reads' HO459.1).2.1); (case side3 => exact zC (Kd.S_reads' HO467.1).2.2); (case side4 => exact (Kd.S_reads' HO467.1).2.1); rintro e w65 ⟨rfl, hb⟩; refine ⟨_, rfl, ?_⟩; replace HO449 := zM (Kd.R_below (zR HO449.1) hb); replace HO452 := zM (Kd.S_below (zS HO452.1) hb); replace HO456 := zM (Kd.R_below (zR HO456.1) hb); replace HO459 := zM (Kd.S_below (zS HO459.1) hb); replace HO463 := zM (Kd.R_below (zR HO463.1) hb); replace HO467 := zM (Kd.S_below (zS HO467.1) hb); replace HB := zM (below_step zB0 hb); clear hb))
 go_ret
 exact ⟨zE, zB0⟩

/-- THE ONE PURE STATEMENT of laws_FnExactAlways: yours. -/
def laws_FnExactAlways.Pure : Prop := ∀ (l0 : List Int) (l1 : List (S68)) (a2 : Int) (a3 : Int) (a4 : Int), (l0.length ≤ maxLen ∧ ∀ y1_ ∈ l0, (Lit.int .i64 y1_).wf = true) → (l1.length ≤ maxLen ∧ ∀ y2_ ∈ l1, ((y2_.f0.length ≤ maxLen ∧ ∀ y3_ ∈ y2_.f0, (Lit.int .i64 y3_).wf = true) ∧ ((Lit.int .i64 y2_.f1).wf = true ∧ (Lit.int .i64 y2_.f2).wf = true))) → (Lit.int .i64 a2).wf = true → (Lit.int .i64 a3).wf = true → (Lit.int .i64 a4).wf = true → ∃ k, laws_FnExactAlways.f k l0 l1 a2 a3 a4 = some true
theorem laws_FnExactAlways.walk (P : laws_FnExactAlways.Pure) (A0 : Option Addr) (c0 : Nat) (l0 : List Int) (A1 : Option Addr) (c1 : Nat) (l1 : List (S68)) (a2 : Int) (a3 : Int) (a4 : Int) (w : World) (hr0 : Kd.C (Kd.int .i64) w A0 l0.length l0) (hc0 : l0.length ≤ c0) (hr1 : Kd.C k68 w A1 l1.length l1) (hc1 : l1.length ≤ c1) (g0 : (l0.length ≤ maxLen ∧ ∀ y1_ ∈ l0, (Lit.int .i64 y1_).wf = true)) (g1 : (l1.length ≤ maxLen ∧ ∀ y2_ ∈ l1, ((y2_.f0.length ≤ maxLen ∧ ∀ y3_ ∈ y2_.f0, (Lit.int .i64 y3_).wf = true) ∧ ((Lit.int .i64 y2_.f1).wf = true ∧ (Lit.int .i64 y2_.f2).wf = true)))) (g2 : (Lit.int .i64 a2).wf = true) (g3 : (Lit.int .i64 a3).wf = true) (g4 : (Lit.int .i64 a4).wf = true) :
  Calls Try.prog 6 #[.slice A0 l0.length c0, .slice A1 l1.length c1, .int .i64 a2, .int .i64 a3, .int .i64 a4] w fun e w' => e = .returned (.bool true) ∧ Below w.heap.size w w' := by
 obtain ⟨k, h⟩ := P l0 l1 a2 a3 a4 g0 g1 g2 g3 g4
 refine (laws_FnExactAlways.calls k A0 c0 l0 A1 c1 l1 a2 a3 a4 true w hr0 hc0 hr1 hc1 h).mono ?_
 rintro e w' ⟨rfl, hd⟩
 exact ⟨rfl, hd⟩

end Go.Proofs.Ytnjdepmlpdjghaa.PFnExactAlways
