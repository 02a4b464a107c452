-- made by wip/tools/myprint.py out of the seat's translation
import Derived.Test.YtnjdepmlpdjghaaPFnFinalsx0
import Derived.Test.YtnjdepmlpdjghaaPFnFinalsx8
import Derived.Test.YtnjdepmlpdjghaaPFnFinalsx12
namespace Go.Proofs.Ytnjdepmlpdjghaa.PFnFinals
open Go.RowKit Go.Proofs.YtnjdepmlpdjghaaW.PrintWords Go.Proofs.YtnjdepmlpdjghaaW.PrintLast Go.Proofs.YtnjdepmlpdjghaaW.PrintMore
attribute [local go_sem] max2_int min2_int max_two min_two max_three min_three max_four min_four   -- for this text's walks alone
set_option linter.unusedVariables false
set_option linter.unusedSimpArgs false
set_option maxHeartbeats 8000000
set_option maxRecDepth 100000

/-! ### spec_Finals: function 18 -/
mutual
def spec_Finals.j1 : Nat → List Bool → Option (List Int)
 | 0, _ => none
 | k + 1, x9 => spec_Finals.l1 k x9 (([] : List Int)) 0
def spec_Finals.l1 : Nat → List Bool → List Int → Int → Option (List Int)
 | 0, _, _, _ => none
 | k + 1, x9, x12, x13 => if x13 < (x9.length : Int) then (if 0 ≤ x13 then (if rdOf false x9 x13 = true then (if x12.length < 17592186044416 then (spec_Finals.l1 k x9 (x12 ++ [x13]) (wrap64 (x13 + 1))) else (none)) else (spec_Finals.l1 k x9 x12 (wrap64 (x13 + 1)))) else (none)) else (some x12)
def spec_Finals.l0 : Nat → Int → List Bool → List (List Int) → Int → Option (List Int)
 | 0, _, _, _, _ => none
 | k + 1, x3, x9, x10, x11 => if x11 < (x10.length : Int) then ((spec_l1In.f x3 0 23).bind fun t400 => (if t400 = true then (if 0 ≤ x11 then (if 0 ≤ x3 then (if x3 < ((rd_L2 x10 x11).length : Int) then (if 0 ≤ (rd (rd_L2 x10 x11) x3) then (if (rd (rd_L2 x10 x11) x3) < (x9.length : Int) then (spec_Finals.l0 k x3 (x9.set ((rd (rd_L2 x10 x11) x3) : Int).toNat true) x10 (wrap64 (x11 + 1))) else (none)) else (none)) else (none)) else (none)) else (none)) else (spec_Finals.j1 k x9))) else (spec_Finals.j1 k x9)
end
def spec_Finals.f (k : Nat) (l0 : List Int) (l1 : List (S29)) (a2 : Int) (a3 : Int) : Option (List Int) := (spec_Ends2.f k l0 l1 a2).bind fun t397 => (spec_Finals.l0 k a3 (List.replicate 65536 false) t397 0)
theorem spec_Finals.mono_l : ∀ k, (∀ y0, LeO (spec_Finals.j1 k y0) (spec_Finals.j1 (k + 1) y0)) ∧ (∀ y0 y1 y2, LeO (spec_Finals.l1 k y0 y1 y2) (spec_Finals.l1 (k + 1) y0 y1 y2)) ∧ (∀ y0 y1 y2 y3, LeO (spec_Finals.l0 k y0 y1 y2 y3) (spec_Finals.l0 (k + 1) y0 y1 y2 y3))
 | 0 => ⟨fun _ r h => by simp [spec_Finals.j1] at h, fun _ _ _ r h => by simp [spec_Finals.l1] at h, fun _ _ _ _ r h => by simp [spec_Finals.l0] at h⟩
 | k + 1 => by
  obtain ⟨ih0, ih1, ih2⟩ := spec_Finals.mono_l k
  refine ⟨?_, ?_, ?_⟩
  ·intros
   unfold spec_Finals.j1
   have mo0 := @spec_Ends2.mono
   exact zL
  ·intros
   unfold spec_Finals.l1
   have mo0 := @spec_Ends2.mono
   exact zL
  ·intros
   unfold spec_Finals.l0
   have mo0 := @spec_Ends2.mono
   exact zL
theorem spec_Finals.mono : ∀ a0 a1 a2 a3 k, LeO (spec_Finals.f k a0 a1 a2 a3) (spec_Finals.f (k + 1) a0 a1 a2 a3) := by
 intro a0 a1 a2 a3 k
 obtain ⟨ih0, ih1, ih2⟩ := spec_Finals.mono_l k
 unfold spec_Finals.f
 have mo0 := @spec_Ends2.mono
 exact zL
theorem spec_Finals.calls (k : Nat) (A0 : Option Addr) (c0 : Nat) (l0 : List Int) (A1 : Option Addr) (c1 : Nat) (l1 : List (S29)) (a2 : Int) (a3 : Int) (r : List Int) (w : World) (hr0 : Kd.C (Kd.int .i64) w A0 l0.length l0) (hc0 : l0.length ≤ c0) (hr1 : Kd.C k29 w A1 l1.length l1) (hc1 : l1.length ≤ c1) (h : spec_Finals.f k l0 l1 a2 a3 = some r) :
  Calls Try.prog 18 #[.slice A0 l0.length c0, .slice A1 l1.length c1, .int .i64 a2, .int .i64 a3] w fun e w' => ∃ v0_ : Value, e = .returned (v0_) ∧ Kd.R (Kd.int .i64) 3 w' w.heap.size (fun _ => True) v0_ r ∧ Below w.heap.size w w' := by
 have HR0 := zM hr0
 have HC0 := zM hc0
 clear hr0 hc0
 have HR1 := zM hr1
 have HC1 := zM hc1
 clear hr1 hc1
 have HB := zM (Below.refl w.heap.size w)
 unfold spec_Finals.f at h
 have H := h
 clear h
 generalize hy394 : ((List.replicate 65536 false) : List Bool) = y394 at H
 have Ny394 := zM hy394.symm
 clear hy394
 replace H := zO H
 obtain ⟨t397, A5, H⟩ := H
 have HC6 := zM H
 clear H
 go_enter Try.func18, Try.ntmps18
 go_upto_block 0 with (first | ((with_reducible refine gate_dst (N := 14) rfl ?_); refine Kd.R_make Kd.bool _ 4 rfl (N := 14) rfl 66 _ _ rfl 65536 rfl rfl Try.underlying66 (.bool false) 1 info4 rfl (by decide) (by omega) false (ok := fun _ => True) (okp := fun _ => True) rfl (fun _ hk => hk) trivial (by omega) (by omega) (Below.refl _ _) (Nat.le_refl _) ?_; intro v395 w7 ho8 hb hg_ hnew_; clear hg_ hnew_; (first | rw [← Ny394.1] at ho8 | (simp only [Int.reduceToNat] at ho8; rw [← Ny394.1] at ho8)); have HO396 := zM (Kd.R_lower ho8 (below_size zB0)); replace HB := zM (below_step zB0 hb); clear hb ho8) | ((with_reducible refine zG Try.func21 18 #[.slice A0 l0.length c0, .slice A1 l1.length c1, .int .i64 a2] ?_); (with_reducible refine (spec_Ends2.calls k _ _ l0 _ _ l1 a2 t397 _ ?side1 ?side2 ?side3 ?side4 A5.1).mono ?_); (case side1 => exact zC (Kd.C_below HR0.1 HB.1)); (case side2 => exact HC0.1); (case side3 => exact zC (Kd.C_below HR1.1 HB.1)); (case side4 => exact HC1.1); rintro e w9 ⟨v398, rfl, ho0, hb⟩; refine ⟨_, rfl, ?_⟩; replace HO396 := zM (Kd.R_below (zR HO396.1) hb); have HO399 := zM (Kd.S_lower ho0 (below_size zB0)); replace HB := zM (below_step zB0 hb); clear hb ho0))
 (try simp only [Act.put, List.setIfInBounds_toArray, List.set_cons_zero, List.set_cons_succ])
 go_cut [] (fun wc => ∃ (kq : Nat) (x9_5 : List Bool), Aside0 (spec_Finals.j1 kq x9_5 = some r) ∧ Aside0 (kq ≤ k) ∧ Aside0 (Kd.R Kd.bool 4 wc w.heap.size (fun _ => True) v395 x9_5) ∧ Aside0 (Below w.heap.size w wc))
 case first =>
  have H := HC6.1
  clear HC6
  have H' := zM H
  clear H
  go_wp2
  go_loopg [11] k (fun kq v11 w' => ∃ (x9_1 : List Bool) (x11_1 : Int), v11 = .int .i64 x11_1 ∧ Aside0 (spec_Finals.l0 kq a3 x9_1 t397 x11_1 = some r) ∧ Aside0 (kq ≤ k) ∧ Aside0 (Kd.R Kd.bool 4 w' w.heap.size (fun _ => True) v395 x9_1) ∧ Aside0 (Kd.S (Kd.slice 3 (Kd.int .i64)) 24 w' w.heap.size (fun _ => True) v398 t397) ∧ Aside0 (Below w.heap.size w w'))
  case atStart => exact ⟨(y394), (0), zJJ, H', ⟨Nat.le_refl _⟩, ⟨zR HO396.1⟩, ⟨zS HO399.1⟩, ⟨zB0⟩⟩
  case round =>
   clear H'
   obtain ⟨x9_1, x11_1, rfl, HA, HK1, HO_9, HO_10, HB⟩ := hrel
   cases gk with
   | zero => exact absurd HA.1 (by simp [spec_Finals.l0])
   | succ k1 =>
    have H := HA.1
    clear HA
    simp only [spec_Finals.l0] at H
    by_cases c10 : x11_1 < (t397.length : Int)
    rotate_left
    ·rw [if_neg c10] at H
     have c10b0 := decide_eq_false c10
     clear c10
     (first | rw [c10b0] | (simp only [i64_w, i32_w]; rw [c10b0]) | skip)
     have H' := zM H
     clear H
     obtain ⟨Ao23, co23, eo23⟩ := Kd.S_slice HO_10.1
     subst eo23
     go_wp2
     go_meet
     case rel => exact ⟨_, (x9_1), H', ⟨by have := HK1.1; first | omega | exact Nat.le_refl _⟩, ⟨zR HO_9.1⟩, ⟨zB0⟩⟩
    rw [if_pos c10] at H
    have c10b0 := decide_eq_true c10
    clear c10
    (first | rw [c10b0] | (simp only [i64_w, i32_w]; rw [c10b0]) | skip)
    replace H := zO H
    obtain ⟨t400, A11, H⟩ := H
    by_cases c12 : t400 = true
    rotate_left
    ·replace c12 := Bool.eq_false_iff.mpr c12
     subst c12
     rw [if_neg zF] at H
     have H' := zM H
     clear H
     obtain ⟨Ao22, co22, eo22⟩ := Kd.S_slice HO_10.1
     subst eo22
     go_wp2_with (first | (go_at_call 49; (with_reducible refine (spec_l1In.calls a3 0 23 false _ A11.1).mono ?_); rintro e w' ⟨rfl, ⟨nd, rfl⟩⟩))
     go_meet
     case rel => exact ⟨_, (x9_1), H', ⟨by have := HK1.1; first | omega | exact Nat.le_refl _⟩, ⟨zR HO_9.1⟩, ⟨zB0⟩⟩
    subst c12
    rw [if_pos rfl] at H
    replace H := zIt H
    obtain ⟨c13b0, H⟩ := H
    replace H := zIt H
    obtain ⟨c14b0, H⟩ := H
    replace H := zIt H
    obtain ⟨c15b0, H⟩ := H
    replace H := zIt H
    obtain ⟨c16b0, H⟩ := H
    replace H := zIt H
    obtain ⟨c17b0, H⟩ := H
    generalize hy403 : ((x9_1.set ((rd (rd_L2 t397 x11_1) a3) : Int).toNat true) : List Bool) = y403 at H
    have Ny403 := zM hy403.symm
    clear hy403
    have H' := zM H
    clear H
    obtain ⟨Ao19, co19, eo19⟩ := Kd.S_slice HO_10.1
    subst eo19
    go_wp2_with (first | (go_at_call 49; (with_reducible refine (spec_l1In.calls a3 0 23 true _ A11.1).mono ?_); rintro e w' ⟨rfl, ⟨nd, rfl⟩⟩; (try (rw [drewN_self wr]; generalize hq_ : World.drewN wr _ = wr; have n0_ : Aside0 (Kd.S (Kd.slice 3 (Kd.int .i64)) 24 wr w.heap.size (fun _ => True) (.slice Ao19 t397.length co19) t397) := ⟨by rw [← hq_]; exact (zS HO_10.1)⟩; have n1_ : Aside0 (Kd.R Kd.bool 4 wr w.heap.size (fun _ => True) v395 x9_1) := ⟨by rw [← hq_]; exact (zR HO_9.1)⟩; have n2_ : Aside0 (Below w.heap.size w wr) := ⟨by rw [← hq_]; exact zB0⟩; clear HO_10 HO_9 HB hq_; have HO_10 := n0_; have HO_9 := n1_; have HB := n2_; clear n0_ n1_ n2_)); obtain ⟨p401, q401, ad401, A401_0, c401_0, e401, hx401_0, hl401_0, hi401_0⟩ := zRd (at_L2 (Kd.S_reads' HO_10.1).2.2 x11_1); cases e401; obtain ⟨ce401, hce401, hMe401, hcc401⟩ := Kd.S_get HO_10.1 [] x11_1 zA (by first | exact zA | (have e_ := (Kd.S_reads' HO_10.1).1; omega)); obtain ⟨ve401_0, rfl, ge401_0⟩ := hMe401; have hv401_0 := hcc401 0 _ rfl; rw [Nat.add_zero, show ((Kd.slice 3 (Kd.int .i64))).sz = 1 from rfl, Nat.mul_one] at hv401_0; replace hv401_0 := Option.some.inj (hv401_0.symm.trans hx401_0); rw [hv401_0] at ge401_0; have HL401_0 := zM (show Kd.R (Kd.int .i64) 3 _ _ _ _ (rd_L2 t397 x11_1) from ge401_0); clear hv401_0 ge401_0; clear hcc401 hce401; have HR401_0 := zM hi401_0; have HC401_0 := zM hl401_0; clear hi401_0 hl401_0; obtain ⟨p402, q402, ad402, e402, hx402_0⟩ := zRd (Kd.at_int (zC HR401_0.1) a3); cases e402; have p18 : 0 ≤ ((rd (rd_L2 t397 x11_1) a3) : Int) := zA; have q18 : ((rd (rd_L2 t397 x11_1) a3) : Int) < ((x9_1.length : Int) : Int) := zA; obtain ⟨go18, co18, eo18, gb18, gl18, cl18, HG18⟩ := Kd.R_form HO_9.1 (by omega); (first | cases eo18 | (injection eo18 with ea_ en_ ec_; (first | subst ea_ | (injection ea_ with ea_; subst ea_)); subst ec_; clear en_)); have GB18 := zM gb18; have GG18 := zM HG18; clear gb18 gl18 HG18; obtain ⟨hx18_0, hf18_0⟩ := Kd.R_celln false HO_9.1 ((rd (rd_L2 t397 x11_1) a3) : Int) p18 q18; replace p18 := eq_true p18; replace q18 := eq_true q18; obtain ⟨hy20_, hz20_⟩ := Kd.R_celln false HO_9.1 ((rd (rd_L2 t397 x11_1) a3) : Int) zA zA; have HP20 := Kd.R_putg HO_9.1 ((rd (rd_L2 t397 x11_1) a3) : Int) true) | ((with_reducible refine gate_store (t := 4) (p := 37) rfl ?_); refine store_event (t := 4) (p := 37) (v := ?vo_w21) (w1 := (wr.setCell ⟨go18, ((rd (rd_L2 t397 x11_1) a3) : Int).toNat, none⟩ (.bool true))) ?hg ?ho ?hn ?hr ?_; (case ho => rfl); (case hg => rfl); (case hn => rfl); (case hr => exact zHH); intro w21 hw; have hg : wr.grownBy w21 (some go18) := (by rw [hw]; exact HP20.2); have hp_ : Kd.R Kd.bool 4 w21 w.heap.size (fun _ => True) (.slice (some ⟨go18, 0, none⟩) x9_1.length co18) y403 := (by rw [hw, Ny403.1]; exact HP20.1); clear HP20; have n0_ := zM hp_; have n1_ := zM (Kd.S_over' (v := (.slice (some ⟨go18, 0, none⟩) x9_1.length co18)) (zS HO_10.1) (Kd.R_typed HO_9.1) (by decide) hg); have n2_ := zM (Kd.R_over' (v := (.slice (some ⟨go18, 0, none⟩) x9_1.length co18)) (zR HL401_0.1) (Kd.R_typed HO_9.1) (by decide) hg); have n3_ := zM ((by rw [hw]; exact below_set (HB.1) GB18.1 : Below w.heap.size w w21)); clear HO_9; clear HO_10; clear HL401_0; clear HB; have HO_9 := n0_; have HO_10 := n1_; have HL401_0 := n2_; have HB := n3_; clear n0_ n1_ n2_ n3_; clear hg hw hp_))
    go_roundg k1
    case measure => have := HK1.1; omega
    case rel => exact ⟨(y403), (wrap64 (x11_1 + 1)), zJJ, H', ⟨by have := HK1.1; omega⟩, ⟨zR HO_9.1⟩, ⟨zS HO_10.1⟩, ⟨zB0⟩⟩
 case rest =>
  clear HC6
  try clear hf18
  obtain ⟨kq, x9_5, HA, HJ5, HO_9, HB⟩ := hcut
  cases kq with
  | zero => exact absurd HA.1 (by simp [spec_Finals.j1])
  | succ kj5 =>
   have H := HA.1
   clear HA
   simp only [spec_Finals.j1] at H
   generalize hy404 : ((([] : List Int)) : List Int) = y404 at H
   have Ny404 := zM hy404.symm
   clear hy404
   have H' := zM H
   clear H
   go_wp2_with (first | ((with_reducible refine gate_dst (N := 38) rfl ?_); refine Kd.R_lit (Kd.int .i64) _ 3 ?hg (N := 38) ?hd (xs := ([] : List Int)) (inner := []) (ok := fun _ => True) (okp := fun _ => True) ?hr ?hp (fun _ hk => hk) trivial (Below.refl _ _) (Nat.le_refl _) (by simp) ?_; (case hd => rfl); (case hg => rfl); (case hr => exact zHH); (case hp => exact (Reps.none _ _)); intro v405 w24 ho25 hb hg_ hnew_; clear hg_ hnew_; (first | rw [← Ny404.1] at ho25 | (simp only [Int.reduceToNat] at ho25; rw [← Ny404.1] at ho25)); replace HO_9 := zM (Kd.R_below (zR HO_9.1) hb); have HO406 := zM (Kd.R_lower ho25 (below_size zB0)); replace HB := zM (below_step zB0 hb); clear hb ho25))
   go_loopg [12, 13] kj5 (fun kq v12 v13 w' => ∃ (x12_2 : List Int) (x13_2 : Int), v13 = .int .i64 x13_2 ∧ Aside0 (spec_Finals.l1 kq x9_5 x12_2 x13_2 = some r) ∧ Aside0 (kq ≤ kj5) ∧ Aside0 (Kd.R Kd.bool 4 w' w.heap.size (fun _ => True) v395 x9_5) ∧ Aside0 (Kd.R (Kd.int .i64) 3 w' w.heap.size (fun _ => True) v12 x12_2) ∧ Aside0 (Below w.heap.size w w'))
   case atStart => exact ⟨(y404), (0), zJJ, H', ⟨Nat.le_refl _⟩, ⟨zR HO_9.1⟩, ⟨zR HO406.1⟩, ⟨zB0⟩⟩
   case round =>
    clear H'
    try clear hf18
    obtain ⟨x12_2, x13_2, rfl, HA, HK2, HO_9, HO_12, HB⟩ := hrel
    cases gk with
    | zero => exact absurd HA.1 (by simp [spec_Finals.l1])
    | succ k2 =>
     have H := HA.1
     clear HA
     simp only [spec_Finals.l1] at H
     by_cases c26 : x13_2 < (x9_5.length : Int)
     rotate_left
     ·rw [if_neg c26] at H
      have c26b0 := decide_eq_false c26
      clear c26
      obtain rfl := Option.some.inj H
      obtain ⟨Ao34, co34, eo34⟩ := Kd.R_slice HO_9.1
      subst eo34
      go_wp2
      go_ret
      exact ⟨_, zE, zR HO_12.1, zB0⟩
     rw [if_pos c26] at H
     have c26b0 := decide_eq_true c26
     clear c26
     replace H := zIt H
     obtain ⟨c27b0, H⟩ := H
     obtain ⟨bq28, hbq28⟩ : ∃ b_ : Bool, b_ = (rdOf false x9_5 x13_2) := ⟨_, rfl⟩
     replace H : (if bq28 = true then (if x12_2.length < 17592186044416 then (spec_Finals.l1 k2 x9_5 (x12_2 ++ [x13_2]) (wrap64 (x13_2 + 1))) else (none)) else (spec_Finals.l1 k2 x9_5 x12_2 (wrap64 (x13_2 + 1)))) = some r := by rw [← hbq28] at H; exact H
     have Nbq28 := zM hbq28
     clear hbq28
     by_cases c29 : bq28 = true
     rotate_left
     ·replace c29 := Bool.eq_false_iff.mpr c29
      subst c29
      rw [if_neg zF] at H
      have H' := zM H
      clear H
      obtain ⟨Ao33, co33, eo33⟩ := Kd.R_slice HO_9.1
      subst eo33
      obtain ⟨p407, q407, ad407, e407, hx407_0⟩ := zRd (Kd.at_bool (Kd.R_reads' HO_9.1).2.2 x13_2)
      (try rw [← Nbq28.out] at hx407_0)
      cases e407
      go_wp2
      go_roundg k2
      case measure => have := HJ5.1; have := HK2.1; omega
      case rel => exact ⟨(x12_2), (wrap64 (x13_2 + 1)), zJJ, H', ⟨by have := HJ5.1; have := HK2.1; omega⟩, ⟨zR HO_9.1⟩, ⟨zR HO_12.1⟩, ⟨zB0⟩⟩
     subst c29
     rw [if_pos rfl] at H
     replace H := zIn H
     obtain ⟨LMc30, H⟩ := H
     generalize hy408 : ((x12_2 ++ [x13_2]) : List Int) = y408 at H
     have Ny408 := zM hy408.symm
     clear hy408
     have H' := zM H
     clear H
     obtain ⟨Ao31, co31, eo31⟩ := Kd.R_slice HO_9.1
     subst eo31
     obtain ⟨p407, q407, ad407, e407, hx407_0⟩ := zRd (Kd.at_bool (Kd.R_reads' HO_9.1).2.2 x13_2)
     (try rw [← Nbq28.out] at hx407_0)
     cases e407
     go_wp2_with (first | ((with_reducible refine gate_builtin (b := .append) (xs := #[.tmp 49, .tmp 51]) rfl ?_); at_builtin; refine Kd.R_append (Kd.int .i64) (w0 := w) w.heap.size rfl (.tmp 49) (.tmp 51) 24 3 (.int .i64 0) 8 rfl Try.underlying24 info3 rfl (by decide) (by omega) u12 x12_2 x13_2 [.int .i64 x13_2] (fun _ => True) (fun _ => False) rfl rfl ?aP (fun _ hk => hk.elim) ?aF ?aO ?aB ?aS ?aL ?_; (case aP => exact rfl); (case aB => exact zB0); (case aF => exact (fun _ _ => trivial)); (case aO => exact (zR HO_12.1)); (case aS => exact (below_size zB0)); (case aL => have := LMc30.out; omega); intro v409 w32 ho hb hg hat; rw [← Ny408.1] at ho; replace HO_9 := zM (Kd.R_over' (zR HO_9.1) (Kd.R_typed (zR HO_12.1)) (by decide) hg); replace HB := zM hb; have HO410 := zM ho; clear HO_12; clear ho hb hg hat))
     go_roundg k2
     case measure => have := HJ5.1; have := HK2.1; omega
     case rel => exact ⟨(y408), (wrap64 (x13_2 + 1)), zJJ, H', ⟨by have := HJ5.1; have := HK2.1; omega⟩, ⟨zR HO_9.1⟩, ⟨zR HO410.1⟩, ⟨zB0⟩⟩

/-! ### slices_Index_int_int: function 75 -/
def slices_Index_int_int.l0 : Nat → List Int → Int → Int → Int → Option (Int)
 | 0, _, _, _, _ => none
 | k + 1, x0, x1, x7, x8 => if x8 < x7 then (if 0 ≤ x8 then (if x8 < (x0.length : Int) then (if x1 = (rd x0 x8) then (some x8) else (slices_Index_int_int.l0 k x0 x1 x7 (wrap64 (x8 + 1)))) else (none)) else (none)) else (some (-1))
def slices_Index_int_int.f (k : Nat) (l0 : List Int) (a1 : Int) : Option (Int) := slices_Index_int_int.l0 k l0 a1 (l0.length : Int) 0
theorem slices_Index_int_int.mono_l : ∀ k, (∀ y0 y1 y2 y3, LeO (slices_Index_int_int.l0 k y0 y1 y2 y3) (slices_Index_int_int.l0 (k + 1) y0 y1 y2 y3))
 | 0 => fun _ _ _ _ r h => by simp [slices_Index_int_int.l0] at h
 | k + 1 => by
  have ih0 := slices_Index_int_int.mono_l k
  ·intros
   unfold slices_Index_int_int.l0
   exact zL
theorem slices_Index_int_int.mono : ∀ a0 a1 k, LeO (slices_Index_int_int.f k a0 a1) (slices_Index_int_int.f (k + 1) a0 a1) := by
 intro a0 a1 k
 have ih0 := slices_Index_int_int.mono_l k
 unfold slices_Index_int_int.f
 exact zL
theorem slices_Index_int_int.calls (k : Nat) (A0 : Option Addr) (c0 : Nat) (l0 : List Int) (a1 : Int) (r : Int) (w : World) (hr0 : Kd.C (Kd.int .i64) w A0 l0.length l0) (hc0 : l0.length ≤ c0) (h : slices_Index_int_int.f k l0 a1 = some r) :
  Calls Try.prog 75 #[.slice A0 l0.length c0, .int .i64 a1] w fun e w' => e = .returned (.int .i64 r) ∧ Drawn0 w w' := by
 have HR0 := zM hr0
 have HC0 := zM hc0
 clear hr0 hc0
 unfold slices_Index_int_int.f at h
 have H := h
 clear h
 have H' := zM H
 clear H
 go_enter Try.func75, Try.ntmps75
 go_wp2
 go_loopg [8] k (fun kq v8 w' => ∃ (x8_1 : Int), v8 = .int .i64 x8_1 ∧ Aside0 (slices_Index_int_int.l0 kq l0 a1 (l0.length : Int) x8_1 = some r) ∧ Aside0 (kq ≤ k) ∧ Drawn0 w w')
 case atStart => exact ⟨(0), zJJ, H', ⟨Nat.le_refl _⟩, zDD⟩
 case round =>
  clear H'
  obtain ⟨x8_1, rfl, HA, HK1, ⟨m1, rfl⟩⟩ := hrel
  cases gk with
  | zero => exact absurd HA.1 (by simp [slices_Index_int_int.l0])
  | succ k1 =>
   have H := HA.1
   clear HA
   simp only [slices_Index_int_int.l0] at H
   by_cases c3 : x8_1 < (l0.length : Int)
   rotate_left
   ·rw [if_neg c3] at H
    have c3b0 := decide_eq_false c3
    clear c3
    obtain rfl := Option.some.inj H
    go_wp2
    go_ret
    exact ⟨zJJ, zDD⟩
   rw [if_pos c3] at H
   have c3b0 := decide_eq_true c3
   clear c3
   replace H := zIt H
   obtain ⟨c4b0, H⟩ := H
   replace H := zIt H
   obtain ⟨c5b0, H⟩ := H
   by_cases c6 : a1 = (rd l0 x8_1)
   ·rw [if_pos c6] at H
    have c6b0 : (a1 == (rd l0 x8_1)) = true := beq_iff_eq.mpr c6
    have c6b1 : (a1 != (rd l0 x8_1)) = false := bne_eq_false_iff_eq.mpr c6
    clear c6
    obtain rfl := Option.some.inj H
    obtain ⟨p411, q411, ad411, e411, hx411_0⟩ := zRd (Kd.at_int HR0.1 x8_1)
    cases e411
    go_wp2
    go_ret
    exact ⟨zJJ, zDD⟩
   rw [if_neg c6] at H
   have c6b0 : (a1 == (rd l0 x8_1)) = false := beq_eq_false_iff_ne.mpr c6
   have c6b1 : (a1 != (rd l0 x8_1)) = true := bne_iff_ne.mpr c6
   have H' := zM H
   clear H
   obtain ⟨p411, q411, ad411, e411, hx411_0⟩ := zRd (Kd.at_int HR0.1 x8_1)
   cases e411
   go_wp2
   go_roundg k1
   case measure => have := HK1.1; omega
   case rel => exact ⟨(wrap64 (x8_1 + 1)), zJJ, H', ⟨by have := HK1.1; omega⟩, zDD⟩

/-! ### slices_Contains_int_int: function 50 -/
def slices_Contains_int_int.f (k : Nat) (l0 : List Int) (a1 : Int) : Option (Bool) := (slices_Index_int_int.f k l0 a1).bind fun t412 => (some (decide (t412 ≥ 0)))
theorem slices_Contains_int_int.mono : ∀ a0 a1 k, LeO (slices_Contains_int_int.f k a0 a1) (slices_Contains_int_int.f (k + 1) a0 a1) := by
 intro a0 a1 k
 unfold slices_Contains_int_int.f
 have mo0 := @slices_Index_int_int.mono
 exact zL
theorem slices_Contains_int_int.calls (k : Nat) (A0 : Option Addr) (c0 : Nat) (l0 : List Int) (a1 : Int) (r : Bool) (w : World) (hr0 : Kd.C (Kd.int .i64) w A0 l0.length l0) (hc0 : l0.length ≤ c0) (h : slices_Contains_int_int.f k l0 a1 = some r) :
  Calls Try.prog 50 #[.slice A0 l0.length c0, .int .i64 a1] w fun e w' => e = .returned (.bool r) ∧ Drawn0 w w' := by
 have HR0 := zM hr0
 have HC0 := zM hc0
 clear hr0 hc0
 unfold slices_Contains_int_int.f at h
 have H := h
 clear h
 replace H := zO H
 obtain ⟨t412, A3, H⟩ := H
 obtain rfl := Option.some.inj H
 go_enter Try.func50, Try.ntmps50
 go_wp2_with (first | ((with_reducible refine zG Try.func75 7 #[.slice A0 l0.length c0, .int .i64 a1] ?_); (with_reducible refine (slices_Index_int_int.calls k _ _ l0 a1 t412 _ ?side1 ?side2 A3.1).mono ?_); (case side1 => exact zC HR0.1); (case side2 => exact HC0.1); rintro e w' ⟨rfl, ⟨nd, rfl⟩⟩; refine ⟨_, rfl, ?_⟩))
 go_ret
 exact ⟨zJJ, zDD⟩

/-! ### impl_Ever: function 19 -/
def impl_Ever.f (k : Nat) (l0 : List Int) (l1 : List (S29)) (a2 : Int) (a3 : Int) (a4 : Int) : Option (Bool) := (impl_Finals.f k l0 l1 a2 a3).bind fun t413 => ((slices_Contains_int_int.f k t413 a4).bind fun t416 => (some t416))
theorem impl_Ever.mono : ∀ a0 a1 a2 a3 a4 k, LeO (impl_Ever.f k a0 a1 a2 a3 a4) (impl_Ever.f (k + 1) a0 a1 a2 a3 a4) := by
 intro a0 a1 a2 a3 a4 k
 unfold impl_Ever.f
 have mo0 := @impl_Finals.mono
 have mo1 := @slices_Contains_int_int.mono
 exact zL
theorem impl_Ever.calls (k : Nat) (A0 : Option Addr) (c0 : Nat) (l0 : List Int) (A1 : Option Addr) (c1 : Nat) (l1 : List (S29)) (a2 : Int) (a3 : Int) (a4 : Int) (r : Bool) (w : World) (hr0 : Kd.C (Kd.int .i64) w A0 l0.length l0) (hc0 : l0.length ≤ c0) (hr1 : Kd.C k29 w A1 l1.length l1) (hc1 : l1.length ≤ c1) (h : impl_Ever.f k l0 l1 a2 a3 a4 = some r) :
  Calls Try.prog 19 #[.slice A0 l0.length c0, .slice A1 l1.length c1, .int .i64 a2, .int .i64 a3, .int .i64 a4] w fun e w' => e = .returned (.bool r) ∧ Below w.heap.size w w' := by
 have HR0 := zM hr0
 have HC0 := zM hc0
 clear hr0 hc0
 have HR1 := zM hr1
 have HC1 := zM hc1
 clear hr1 hc1
 have HB := zM (Below.refl w.heap.size w)
 unfold impl_Ever.f at h
 have H := h
 clear h
 replace H := zO H
 obtain ⟨t413, A6, H⟩ := H
 replace H := zO H
 obtain ⟨t416, A7, H⟩ := H
 obtain rfl := Option.some.inj H
 go_enter Try.func19, Try.ntmps19
 go_wp2_with (first | ((with_reducible refine zG Try.func17 15 #[.slice A0 l0.length c0, .slice A1 l1.length c1, .int .i64 a2, .int .i64 a3] ?_); (with_reducible refine (impl_Finals.calls k _ _ l0 _ _ l1 a2 a3 t413 _ ?side1 ?side2 ?side3 ?side4 A6.1).mono ?_); (case side1 => exact zC HR0.1); (case side2 => exact HC0.1); (case side3 => exact zC HR1.1); (case side4 => exact HC1.1); rintro e w8 ⟨v414, rfl, ho0, hb⟩; refine ⟨_, rfl, ?_⟩; have HO415 := zM (Kd.R_lower ho0 (below_size zB0)); replace HB := zM (below_step zB0 hb); clear hb ho0; obtain ⟨Ao9, co9, eo9⟩ := Kd.R_slice HO415.1; subst eo9) | ((with_reducible refine zG Try.func50 17 #[.slice Ao9 t413.length co9, .int .i64 a4] ?_); (with_reducible refine (slices_Contains_int_int.calls k _ _ t413 a4 t416 _ ?side1 ?side2 A7.1).mono ?_); (case side1 => exact zC (Kd.R_reads' HO415.1).2.2); (case side2 => exact (Kd.R_reads' HO415.1).2.1); rintro e w' ⟨rfl, ⟨nd, rfl⟩⟩; refine ⟨_, rfl, ?_⟩))
 go_ret
 exact ⟨zE, zB0⟩

/-! ### spec_Always: function 34 -/
def spec_Always.f (k : Nat) (l0 : List Int) (l1 : List (S29)) (a2 : Int) (a3 : Int) (a4 : Int) : Option (Bool) := (spec_Finals.f k l0 l1 a2 a3).bind fun t417 => (if (t417.length : Int) = 1 then (if 0 < (t417.length : Int) then (some ((rd t417 0) == a4)) else (none)) else (some false))
theorem spec_Always.mono : ∀ a0 a1 a2 a3 a4 k, LeO (spec_Always.f k a0 a1 a2 a3 a4) (spec_Always.f (k + 1) a0 a1 a2 a3 a4) := by
 intro a0 a1 a2 a3 a4 k
 unfold spec_Always.f
 have mo0 := @spec_Finals.mono
 exact zL
theorem spec_Always.calls (k : Nat) (A0 : Option Addr) (c0 : Nat) (l0 : List Int) (A1 : Option Addr) (c1 : Nat) (l1 : List (S29)) (a2 : Int) (a3 : Int) (a4 : Int) (r : Bool) (w : World) (hr0 : Kd.C (Kd.int .i64) w A0 l0.length l0) (hc0 : l0.length ≤ c0) (hr1 : Kd.C k29 w A1 l1.length l1) (hc1 : l1.length ≤ c1) (h : spec_Always.f k l0 l1 a2 a3 a4 = some r) :
  Calls Try.prog 34 #[.slice A0 l0.length c0, .slice A1 l1.length c1, .int .i64 a2, .int .i64 a3, .int .i64 a4] w fun e w' => e = .returned (.bool r) ∧ Below w.heap.size w w' := by
 have HR0 := zM hr0
 have HC0 := zM hc0
 clear hr0 hc0
 have HR1 := zM hr1
 have HC1 := zM hc1
 clear hr1 hc1
 have HB := zM (Below.refl w.heap.size w)
 unfold spec_Always.f at h
 have H := h
 clear h
 replace H := zO H
 obtain ⟨t417, A6, H⟩ := H
 by_cases c7 : (t417.length : Int) = 1
 rotate_left
 ·rw [if_neg c7] at H
  have c7b0 : ((t417.length : Int) == 1) = false := beq_eq_false_iff_ne.mpr c7
  have c7b1 : ((t417.length : Int) != 1) = true := bne_iff_ne.mpr c7
  obtain rfl := Option.some.inj H
  go_enter Try.func34, Try.ntmps34
  go_wp2_with (first | ((with_reducible refine zG Try.func18 16 #[.slice A0 l0.length c0, .slice A1 l1.length c1, .int .i64 a2, .int .i64 a3] ?_); (with_reducible refine (spec_Finals.calls k _ _ l0 _ _ l1 a2 a3 t417 _ ?side1 ?side2 ?side3 ?side4 A6.1).mono ?_); (case side1 => exact zC HR0.1); (case side2 => exact HC0.1); (case side3 => exact zC HR1.1); (case side4 => exact HC1.1); rintro e w11 ⟨v418, rfl, ho0, hb⟩; refine ⟨_, rfl, ?_⟩; have HO419 := zM (Kd.R_lower ho0 (below_size zB0)); replace HB := zM (below_step zB0 hb); clear hb ho0; obtain ⟨Ao12, co12, eo12⟩ := Kd.R_slice HO419.1; subst eo12))
  go_ret
  exact ⟨zE, zB0⟩
 rw [if_pos c7] at H
 have c7b0 : ((t417.length : Int) == 1) = true := beq_iff_eq.mpr c7
 have c7b1 : ((t417.length : Int) != 1) = false := bne_eq_false_iff_eq.mpr c7
 clear c7
 replace H := zIp H
 obtain ⟨c8, H⟩ := H
 have c8b0 := decide_eq_true c8
 have c8b1 : decide (0 < t417.length) = true := decide_eq_true (by omega)
 clear c8
 obtain rfl := Option.some.inj H
 go_enter Try.func34, Try.ntmps34
 go_wp2_with (first | ((with_reducible refine zG Try.func18 16 #[.slice A0 l0.length c0, .slice A1 l1.length c1, .int .i64 a2, .int .i64 a3] ?_); (with_reducible refine (spec_Finals.calls k _ _ l0 _ _ l1 a2 a3 t417 _ ?side1 ?side2 ?side3 ?side4 A6.1).mono ?_); (case side1 => exact zC HR0.1); (case side2 => exact HC0.1); (case side3 => exact zC HR1.1); (case side4 => exact HC1.1); rintro e w9 ⟨v418, rfl, ho0, hb⟩; refine ⟨_, rfl, ?_⟩; have HO419 := zM (Kd.R_lower ho0 (below_size zB0)); replace HB := zM (below_step zB0 hb); clear hb ho0; obtain ⟨Ao10, co10, eo10⟩ := Kd.R_slice HO419.1; subst eo10; have p420 : 0 ≤ (0 : Int) := (by omega); have q420 : 0 < (t417.length : Int) := zA; obtain ⟨ad420, e420, hx420_0⟩ := Kd.at_int (Kd.R_reads' HO419.1).2.2 0 p420 q420; cases e420; have qi420 : (0 < t417.length) = True := eq_true (by omega); (try rw [show ((0 : Int)).toNat = 0 from rfl] at hx420_0); (try rw [Addr.add_zero'] at hx420_0); replace p420 := eq_true p420; replace q420 := eq_true q420))
 go_ret
 exact ⟨zE, zB0⟩

/-! ### spec_Ever: function 35 -/
def spec_Ever.l0 : Nat → Int → List Int → Int → Option (Bool)
 | 0, _, _, _ => none
 | k + 1, x4, x11, x12 => if x12 < (x11.length : Int) then (if 0 ≤ x12 then (if (rd x11 x12) = x4 then (some true) else (spec_Ever.l0 k x4 x11 (wrap64 (x12 + 1)))) else (none)) else (some false)
def spec_Ever.f (k : Nat) (l0 : List Int) (l1 : List (S29)) (a2 : Int) (a3 : Int) (a4 : Int) : Option (Bool) := (spec_Finals.f k l0 l1 a2 a3).bind fun t421 => (spec_Ever.l0 k a4 t421 0)
theorem spec_Ever.mono_l : ∀ k, (∀ y0 y1 y2, LeO (spec_Ever.l0 k y0 y1 y2) (spec_Ever.l0 (k + 1) y0 y1 y2))
 | 0 => fun _ _ _ r h => by simp [spec_Ever.l0] at h
 | k + 1 => by
  have ih0 := spec_Ever.mono_l k
  ·intros
   unfold spec_Ever.l0
   have mo0 := @spec_Finals.mono
   exact zL
theorem spec_Ever.mono : ∀ a0 a1 a2 a3 a4 k, LeO (spec_Ever.f k a0 a1 a2 a3 a4) (spec_Ever.f (k + 1) a0 a1 a2 a3 a4) := by
 intro a0 a1 a2 a3 a4 k
 have ih0 := spec_Ever.mono_l k
 unfold spec_Ever.f
 have mo0 := @spec_Finals.mono
 exact zL
theorem spec_Ever.calls (k : Nat) (A0 : Option Addr) (c0 : Nat) (l0 : List Int) (A1 : Option Addr) (c1 : Nat) (l1 : List (S29)) (a2 : Int) (a3 : Int) (a4 : Int) (r : Bool) (w : World) (hr0 : Kd.C (Kd.int .i64) w A0 l0.length l0) (hc0 : l0.length ≤ c0) (hr1 : Kd.C k29 w A1 l1.length l1) (hc1 : l1.length ≤ c1) (h : spec_Ever.f k l0 l1 a2 a3 a4 = some r) :
  Calls Try.prog 35 #[.slice A0 l0.length c0, .slice A1 l1.length c1, .int .i64 a2, .int .i64 a3, .int .i64 a4] w fun e w' => e = .returned (.bool r) ∧ Below w.heap.size w w' := by
 have HR0 := zM hr0
 have HC0 := zM hc0
 clear hr0 hc0
 have HR1 := zM hr1
 have HC1 := zM hc1
 clear hr1 hc1
 have HB := zM (Below.refl w.heap.size w)
 unfold spec_Ever.f at h
 have H := h
 clear h
 replace H := zO H
 obtain ⟨t421, A6, H⟩ := H
 have H' := zM H
 clear H
 go_enter Try.func35, Try.ntmps35
 go_wp2_with (first | ((with_reducible refine zG Try.func18 17 #[.slice A0 l0.length c0, .slice A1 l1.length c1, .int .i64 a2, .int .i64 a3] ?_); (with_reducible refine (spec_Finals.calls k _ _ l0 _ _ l1 a2 a3 t421 _ ?side1 ?side2 ?side3 ?side4 A6.1).mono ?_); (case side1 => exact zC HR0.1); (case side2 => exact HC0.1); (case side3 => exact zC HR1.1); (case side4 => exact HC1.1); rintro e w7 ⟨v422, rfl, ho0, hb⟩; refine ⟨_, rfl, ?_⟩; have HO423 := zM (Kd.R_lower ho0 (below_size zB0)); replace HB := zM (below_step zB0 hb); clear hb ho0))
 go_loopg [12] k (fun kq v12 w' => ∃ (x12_1 : Int), v12 = .int .i64 x12_1 ∧ Aside0 (spec_Ever.l0 kq a4 t421 x12_1 = some r) ∧ Aside0 (kq ≤ k) ∧ Aside0 (Kd.R (Kd.int .i64) 3 w' w.heap.size (fun _ => True) v422 t421) ∧ Aside0 (Below w.heap.size w w'))
 case atStart => exact ⟨(0), zJJ, H', ⟨Nat.le_refl _⟩, ⟨zR HO423.1⟩, ⟨zB0⟩⟩
 case round =>
  clear H'
  obtain ⟨x12_1, rfl, HA, HK1, HO_11, HB⟩ := hrel
  cases gk with
  | zero => exact absurd HA.1 (by simp [spec_Ever.l0])
  | succ k1 =>
   have H := HA.1
   clear HA
   simp only [spec_Ever.l0] at H
   by_cases c8 : x12_1 < (t421.length : Int)
   rotate_left
   ·rw [if_neg c8] at H
    have c8b0 := decide_eq_false c8
    clear c8
    obtain rfl := Option.some.inj H
    obtain ⟨Ao13, co13, eo13⟩ := Kd.R_slice HO_11.1
    subst eo13
    go_wp2
    go_ret
    exact ⟨zE, zB0⟩
   rw [if_pos c8] at H
   have c8b0 := decide_eq_true c8
   clear c8
   replace H := zIt H
   obtain ⟨c9b0, H⟩ := H
   by_cases c10 : (rd t421 x12_1) = a4
   ·rw [if_pos c10] at H
    have c10b0 : ((rd t421 x12_1) == a4) = true := beq_iff_eq.mpr c10
    have c10b1 : ((rd t421 x12_1) != a4) = false := bne_eq_false_iff_eq.mpr c10
    clear c10
    obtain rfl := Option.some.inj H
    obtain ⟨Ao11, co11, eo11⟩ := Kd.R_slice HO_11.1
    subst eo11
    obtain ⟨p424, q424, ad424, e424, hx424_0⟩ := zRd (Kd.at_int (Kd.R_reads' HO_11.1).2.2 x12_1)
    cases e424
    go_wp2
    go_ret
    exact ⟨zE, zB0⟩
   rw [if_neg c10] at H
   have c10b0 : ((rd t421 x12_1) == a4) = false := beq_eq_false_iff_ne.mpr c10
   have c10b1 : ((rd t421 x12_1) != a4) = true := bne_iff_ne.mpr c10
   have H' := zM H
   clear H
   obtain ⟨Ao12, co12, eo12⟩ := Kd.R_slice HO_11.1
   subst eo12
   obtain ⟨p424, q424, ad424, e424, hx424_0⟩ := zRd (Kd.at_int (Kd.R_reads' HO_11.1).2.2 x12_1)
   cases e424
   go_wp2
   go_roundg k1
   case measure => have := HK1.1; omega
   case rel => exact ⟨(wrap64 (x12_1 + 1)), zJJ, H', ⟨by have := HK1.1; omega⟩, ⟨zR HO_11.1⟩, ⟨zB0⟩⟩

end Go.Proofs.Ytnjdepmlpdjghaa.PFnFinals
