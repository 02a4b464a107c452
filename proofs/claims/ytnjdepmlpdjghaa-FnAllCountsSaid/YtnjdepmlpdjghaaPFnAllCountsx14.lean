-- made by wip/tools/myprint.py out of the seat's translation
import Derived.Test.YtnjdepmlpdjghaaPFnAllCountsx0
import Derived.Maps.OwnOps
import Derived.Maps.Views
import Derived.Test.YtnjdepmlpdjghaaPFnAllCountsx2
import Derived.Test.YtnjdepmlpdjghaaPFnAllCountsx3
import Derived.Test.YtnjdepmlpdjghaaPFnAllCountsx9
import Derived.Test.YtnjdepmlpdjghaaPFnAllCountsx13
namespace Go.Proofs.Ytnjdepmlpdjghaa.PFnAllCounts
open Go.RowKit Go.Proofs.YtnjdepmlpdjghaaW.PrintWords Go.Proofs.YtnjdepmlpdjghaaW.PrintLast Go.Proofs.YtnjdepmlpdjghaaW.PrintMore
attribute [local go_sem] max2_int min2_int max_two min_two max_three min_three max_four min_four   -- for this text's walks alone
set_option linter.unusedVariables false
set_option linter.unusedSimpArgs false
set_option maxHeartbeats 8000000
set_option maxRecDepth 100000

/-! ### spec_Finals: function 18 -/
mutual
def spec_Finals.j1 : Nat → List Bool → Option (List Int)
  | 0, _ => none
  | k + 1, x9 => spec_Finals.l1 k x9 (([] : List Int)) 0
def spec_Finals.l1 : Nat → List Bool → List Int → Int → Option (List Int)
  | 0, _, _, _ => none
  | k + 1, x9, x12, x13 => if x13 < (x9.length : Int) then (if 0 ≤ x13 then (if rdOf false x9 x13 = true then (if x12.length < 17592186044416 then (spec_Finals.l1 k x9 (x12 ++ [x13]) (wrap64 (x13 + 1))) else (none)) else (spec_Finals.l1 k x9 x12 (wrap64 (x13 + 1)))) else (none)) else (some x12)
def spec_Finals.l0 : Nat → Int → List Bool → List (List Int) → Int → Option (List Int)
  | 0, _, _, _, _ => none
  | k + 1, x3, x9, x10, x11 => if x11 < (x10.length : Int) then ((spec_l1In.f x3 0 23).bind fun t431 => (if t431 = true then (if 0 ≤ x11 then (if 0 ≤ x3 then (if x3 < ((rd_L3 x10 x11).length : Int) then (if 0 ≤ (rd (rd_L3 x10 x11) x3) then (if (rd (rd_L3 x10 x11) x3) < (x9.length : Int) then (spec_Finals.l0 k x3 (x9.set ((rd (rd_L3 x10 x11) x3) : Int).toNat true) x10 (wrap64 (x11 + 1))) else (none)) else (none)) else (none)) else (none)) else (none)) else (spec_Finals.j1 k x9))) else (spec_Finals.j1 k x9)
end
def spec_Finals.f (k : Nat) (l0 : List Int) (l1 : List (S29)) (a2 : Int) (a3 : Int) : Option (List Int) := (spec_Ends2.f k l0 l1 a2).bind fun t428 => (spec_Finals.l0 k a3 (List.replicate 65536 false) t428 0)
theorem spec_Finals.mono_l : ∀ k, (∀ y0, LeO (spec_Finals.j1 k y0) (spec_Finals.j1 (k + 1) y0)) ∧ (∀ y0 y1 y2, LeO (spec_Finals.l1 k y0 y1 y2) (spec_Finals.l1 (k + 1) y0 y1 y2)) ∧ (∀ y0 y1 y2 y3, LeO (spec_Finals.l0 k y0 y1 y2 y3) (spec_Finals.l0 (k + 1) y0 y1 y2 y3))
  | 0 => ⟨fun _ r h => by simp [spec_Finals.j1] at h, fun _ _ _ r h => by simp [spec_Finals.l1] at h, fun _ _ _ _ r h => by simp [spec_Finals.l0] at h⟩
  | k + 1 => by
    obtain ⟨ih0, ih1, ih2⟩ := spec_Finals.mono_l k
    refine ⟨?_, ?_, ?_⟩
    · intro y0
      unfold spec_Finals.j1
      have mo0 := @spec_Ends2.mono
      exact zL
    · intro y0 y1 y2
      unfold spec_Finals.l1
      have mo0 := @spec_Ends2.mono
      exact zL
    · intro y0 y1 y2 y3
      unfold spec_Finals.l0
      have mo0 := @spec_Ends2.mono
      exact zL
theorem spec_Finals.mono : ∀ a0 a1 a2 a3 k, LeO (spec_Finals.f k a0 a1 a2 a3) (spec_Finals.f (k + 1) a0 a1 a2 a3) := by
  intro a0 a1 a2 a3 k
  obtain ⟨ih0, ih1, ih2⟩ := spec_Finals.mono_l k
  unfold spec_Finals.f
  have mo0 := @spec_Ends2.mono
  exact zL
theorem spec_Finals.calls (k : Nat) (A0 : Option Addr) (c0 : Nat) (l0 : List Int) (A1 : Option Addr) (c1 : Nat) (l1 : List (S29)) (a2 : Int) (a3 : Int) (r : List Int) (w : World) (hr0 : Kd.C (Kd.int .i64) w A0 l0.length l0) (hc0 : l0.length ≤ c0) (hr1 : Kd.C k29 w A1 l1.length l1) (hc1 : l1.length ≤ c1) (h : spec_Finals.f k l0 l1 a2 a3 = some r) :
    Calls Try.prog 18 #[.slice A0 l0.length c0, .slice A1 l1.length c1, .int .i64 a2, .int .i64 a3] w fun e w' => ∃ v0_ : Value, e = .returned (v0_) ∧ Kd.R (Kd.int .i64) 3 w' w.heap.size (fun _ => True) v0_ r ∧ Below w.heap.size w w' := by
  have HR0 := zM hr0
  have HC0 := zM hc0
  clear hr0 hc0
  have HR1 := zM hr1
  have HC1 := zM hc1
  clear hr1 hc1
  have HB := zM (Below.refl w.heap.size w)
  unfold spec_Finals.f at h
  have H := h
  clear h
  generalize hy425 : ((List.replicate 65536 false) : List Bool) = y425 at H
  have Ny425 := zM hy425.symm
  clear hy425
  replace H := zO H
  obtain ⟨t428, A5, H⟩ := H
  have HC6 := zM H
  clear H
  go_enter Try.func18, Try.ntmps18
  go_upto_block 0 with (first | ((with_reducible refine gate_dst (N := 14) rfl ?_); refine Kd.R_make Kd.bool _ 4 rfl (N := 14) rfl 66 _ _ rfl 65536 rfl rfl Try.underlying66 (.bool false) 1 info4 rfl (by decide) (by omega) false (ok := fun _ => True) (okp := fun _ => True) rfl (fun _ hk => hk) trivial (by omega) (by omega) (Below.refl _ _) (Nat.le_refl _) ?_; intro v426 w7 ho8 hb hg_ hnew_; clear hg_ hnew_; (first | rw [← Ny425.1] at ho8 | (simp only [Int.reduceToNat] at ho8; rw [← Ny425.1] at ho8)); have HO427 := zM (Kd.R_lower ho8 (below_size zB1)); replace HB := zM (below_step zB1 hb); clear hb ho8) | ((with_reducible refine zG Try.func21 18 #[.slice A0 l0.length c0, .slice A1 l1.length c1, .int .i64 a2] ?_); (with_reducible refine (spec_Ends2.calls k _ _ l0 _ _ l1 a2 t428 _ ?side1 ?side2 ?side3 ?side4 A5.1).mono ?_); (case side1 => exact zC (Kd.C_below HR0.1 HB.1)); (case side2 => exact HC0.1); (case side3 => exact zC (Kd.C_below HR1.1 HB.1)); (case side4 => exact HC1.1); rintro e w9 ⟨v429, rfl, ho0, hb⟩; refine ⟨_, rfl, ?_⟩; replace HO427 := zM (Kd.R_below (zR HO427.1) hb); have HO430 := zM (Kd.S_lower ho0 (below_size zB1)); replace HB := zM (below_step zB1 hb); clear hb ho0))
  (try simp only [Act.put, List.setIfInBounds_toArray, List.set_cons_zero, List.set_cons_succ])
  go_cut [] (fun wc => ∃ (kq : Nat) (x9_5 : List Bool), Aside0 (spec_Finals.j1 kq x9_5 = some r) ∧ Aside0 (kq ≤ k) ∧ Aside0 (Kd.R Kd.bool 4 wc w.heap.size (fun _ => True) v426 x9_5) ∧ Aside0 (Below w.heap.size w wc))
  case first =>
    have H := HC6.1
    clear HC6
    have H' := zM H
    clear H
    go_wp2
    go_loopg [11] k (fun kq v11 w' => ∃ (x9_1 : List Bool) (x11_1 : Int), v11 = .int .i64 x11_1 ∧ Aside0 (spec_Finals.l0 kq a3 x9_1 t428 x11_1 = some r) ∧ Aside0 (kq ≤ k) ∧ Aside0 (Kd.R Kd.bool 4 w' w.heap.size (fun _ => True) v426 x9_1) ∧ Aside0 (Kd.S (Kd.slice 3 (Kd.int .i64)) 24 w' w.heap.size (fun _ => True) v429 t428) ∧ Aside0 (Below w.heap.size w w'))
    case atStart => exact ⟨(y425), (0), zJJ, H', ⟨Nat.le_refl _⟩, ⟨zR HO427.1⟩, ⟨zS HO430.1⟩, ⟨zB1⟩⟩
    case round =>
      clear H'
      obtain ⟨x9_1, x11_1, rfl, HA, HK1, HO_9, HO_10, HB⟩ := hrel
      cases gk with
      | zero => exact absurd HA.1 (by simp [spec_Finals.l0])
      | succ k1 =>
        have H := HA.1
        clear HA
        simp only [spec_Finals.l0] at H
        by_cases c10 : x11_1 < (t428.length : Int)
        rotate_left
        · rw [if_neg c10] at H
          have c10b0 := decide_eq_false c10
          clear c10
          (first | rw [c10b0] | (simp only [i64_w, i32_w]; rw [c10b0]) | skip)
          have H' := zM H
          clear H
          obtain ⟨Ao23, co23, eo23⟩ := Kd.S_slice HO_10.1
          subst eo23
          go_wp2
          go_meet
          case rel => exact ⟨_, (x9_1), H', ⟨by have := HK1.1; first | omega | exact Nat.le_refl _⟩, ⟨zR HO_9.1⟩, ⟨zB1⟩⟩
        rw [if_pos c10] at H
        have c10b0 := decide_eq_true c10
        clear c10
        (first | rw [c10b0] | (simp only [i64_w, i32_w]; rw [c10b0]) | skip)
        replace H := zO H
        obtain ⟨t431, A11, H⟩ := H
        by_cases c12 : t431 = true
        rotate_left
        · replace c12 := Bool.eq_false_iff.mpr c12
          subst c12
          rw [if_neg zF] at H
          have H' := zM H
          clear H
          obtain ⟨Ao22, co22, eo22⟩ := Kd.S_slice HO_10.1
          subst eo22
          go_wp2_with (first | (go_at_call 49; (with_reducible refine (spec_l1In.calls a3 0 23 false _ A11.1).mono ?_); rintro e w' ⟨rfl, ⟨nd, rfl⟩⟩))
          go_meet
          case rel => exact ⟨_, (x9_1), H', ⟨by have := HK1.1; first | omega | exact Nat.le_refl _⟩, ⟨zR HO_9.1⟩, ⟨zB1⟩⟩
        subst c12
        rw [if_pos rfl] at H
        by_cases c13 : 0 ≤ x11_1
        rotate_left
        · rw [if_neg c13] at H
          exact absurd H (by simp)
        rw [if_pos c13] at H
        have c13b0 := decide_eq_true c13
        clear c13
        by_cases c14 : 0 ≤ a3
        rotate_left
        · rw [if_neg c14] at H
          exact absurd H (by simp)
        rw [if_pos c14] at H
        have c14b0 := decide_eq_true c14
        clear c14
        by_cases c15 : a3 < ((rd_L3 t428 x11_1).length : Int)
        rotate_left
        · rw [if_neg c15] at H
          exact absurd H (by simp)
        rw [if_pos c15] at H
        have c15b0 := decide_eq_true c15
        clear c15
        by_cases c16 : 0 ≤ (rd (rd_L3 t428 x11_1) a3)
        rotate_left
        · rw [if_neg c16] at H
          exact absurd H (by simp)
        rw [if_pos c16] at H
        have c16b0 := decide_eq_true c16
        clear c16
        by_cases c17 : (rd (rd_L3 t428 x11_1) a3) < (x9_1.length : Int)
        rotate_left
        · rw [if_neg c17] at H
          exact absurd H (by simp)
        rw [if_pos c17] at H
        have c17b0 := decide_eq_true c17
        clear c17
        generalize hy434 : ((x9_1.set ((rd (rd_L3 t428 x11_1) a3) : Int).toNat true) : List Bool) = y434 at H
        have Ny434 := zM hy434.symm
        clear hy434
        have H' := zM H
        clear H
        obtain ⟨Ao19, co19, eo19⟩ := Kd.S_slice HO_10.1
        subst eo19
        go_wp2_with (first | (go_at_call 49; (with_reducible refine (spec_l1In.calls a3 0 23 true _ A11.1).mono ?_); rintro e w' ⟨rfl, ⟨nd, rfl⟩⟩; (try (rw [drewN_self wr]; generalize hq_ : World.drewN wr _ = wr; have n0_ : Aside0 (Kd.S (Kd.slice 3 (Kd.int .i64)) 24 wr w.heap.size (fun _ => True) (.slice Ao19 t428.length co19) t428) := ⟨by rw [← hq_]; exact (zS HO_10.1)⟩; have n1_ : Aside0 (Kd.R Kd.bool 4 wr w.heap.size (fun _ => True) v426 x9_1) := ⟨by rw [← hq_]; exact (zR HO_9.1)⟩; have n2_ : Aside0 (Below w.heap.size w wr) := ⟨by rw [← hq_]; exact zB1⟩; clear HO_10 HO_9 HB hq_; have HO_10 := n0_; have HO_9 := n1_; have HB := n2_; clear n0_ n1_ n2_)); obtain ⟨p432, q432, ad432, A432_0, c432_0, e432, hx432_0, hl432_0, hi432_0⟩ := zRd (at_L3 (Kd.S_reads' HO_10.1).2.2 x11_1); cases e432; obtain ⟨ce432, hce432, hMe432, hcc432⟩ := Kd.S_get HO_10.1 [] x11_1 zA (by first | exact zA | (have e_ := (Kd.S_reads' HO_10.1).1; omega)); obtain ⟨ve432_0, rfl, ge432_0⟩ := hMe432; have hv432_0 := hcc432 0 _ rfl; rw [Nat.add_zero, show ((Kd.slice 3 (Kd.int .i64))).sz = 1 from rfl, Nat.mul_one] at hv432_0; replace hv432_0 := Option.some.inj (hv432_0.symm.trans hx432_0); rw [hv432_0] at ge432_0; have HL432_0 := zM (show Kd.R (Kd.int .i64) 3 _ _ _ _ (rd_L3 t428 x11_1) from ge432_0); clear hv432_0 ge432_0; clear hcc432 hce432; have HR432_0 := zM hi432_0; have HC432_0 := zM hl432_0; clear hi432_0 hl432_0; obtain ⟨p433, q433, ad433, e433, hx433_0⟩ := zRd (Kd.at_int (zC HR432_0.1) a3); cases e433; have p18 : 0 ≤ ((rd (rd_L3 t428 x11_1) a3) : Int) := zA; have q18 : ((rd (rd_L3 t428 x11_1) a3) : Int) < ((x9_1.length : Int) : Int) := zA; obtain ⟨go18, co18, eo18, gb18, gl18, cl18, HG18⟩ := Kd.R_form HO_9.1 (by omega); (first | cases eo18 | (injection eo18 with ea_ en_ ec_; (first | subst ea_ | (injection ea_ with ea_; subst ea_)); subst ec_; clear en_)); have GB18 := zM gb18; have GG18 := zM HG18; clear gb18 gl18 HG18; obtain ⟨hx18_0, hf18_0⟩ := Kd.R_celln false HO_9.1 ((rd (rd_L3 t428 x11_1) a3) : Int) p18 q18; replace p18 := eq_true p18; replace q18 := eq_true q18; obtain ⟨hy20_, hz20_⟩ := Kd.R_celln false HO_9.1 ((rd (rd_L3 t428 x11_1) a3) : Int) zA zA; have HP20 := Kd.R_putg HO_9.1 ((rd (rd_L3 t428 x11_1) a3) : Int) true) | ((with_reducible refine gate_store (t := 4) (p := 37) rfl ?_); refine store_event (t := 4) (p := 37) (v := ?vo_w21) (w1 := (wr.setCell ⟨go18, ((rd (rd_L3 t428 x11_1) a3) : Int).toNat, none⟩ (.bool true))) ?hg ?ho ?hn ?hr ?_; (case ho => rfl); (case hg => rfl); (case hn => rfl); (case hr => exact zHH); intro w21 hw; have hg : wr.grownBy w21 (some go18) := (by rw [hw]; exact HP20.2); have hp_ : Kd.R Kd.bool 4 w21 w.heap.size (fun _ => True) (.slice (some ⟨go18, 0, none⟩) x9_1.length co18) y434 := (by rw [hw, Ny434.1]; exact HP20.1); clear HP20; have n0_ := zM hp_; have n1_ := zM (Kd.S_over' (v := (.slice (some ⟨go18, 0, none⟩) x9_1.length co18)) (zS HO_10.1) (Kd.R_typed HO_9.1) (by decide) hg); have n2_ := zM (Kd.R_over' (v := (.slice (some ⟨go18, 0, none⟩) x9_1.length co18)) (zR HL432_0.1) (Kd.R_typed HO_9.1) (by decide) hg); have n3_ := zM ((by rw [hw]; exact below_set (HB.1) GB18.1 : Below w.heap.size w w21)); clear HO_9; clear HO_10; clear HL432_0; clear HB; have HO_9 := n0_; have HO_10 := n1_; have HL432_0 := n2_; have HB := n3_; clear n0_ n1_ n2_ n3_; clear hg hw hp_))
        go_roundg k1
        case measure => have := HK1.1; omega
        case rel => exact ⟨(y434), (wrap64 (x11_1 + 1)), zJJ, H', ⟨by have := HK1.1; omega⟩, ⟨zR HO_9.1⟩, ⟨zS HO_10.1⟩, ⟨zB1⟩⟩
  case rest =>
    clear HC6
    try clear hf18
    obtain ⟨kq, x9_5, HA, HJ5, HO_9, HB⟩ := hcut
    cases kq with
    | zero => exact absurd HA.1 (by simp [spec_Finals.j1])
    | succ kj5 =>
      have H := HA.1
      clear HA
      simp only [spec_Finals.j1] at H
      generalize hy435 : ((([] : List Int)) : List Int) = y435 at H
      have Ny435 := zM hy435.symm
      clear hy435
      have H' := zM H
      clear H
      go_wp2_with (first | ((with_reducible refine gate_dst (N := 38) rfl ?_); refine Kd.R_lit (Kd.int .i64) _ 3 ?hg (N := 38) ?hd (xs := ([] : List Int)) (inner := []) (ok := fun _ => True) (okp := fun _ => True) ?hr ?hp (fun _ hk => hk) trivial (Below.refl _ _) (Nat.le_refl _) (by simp) ?_; (case hd => rfl); (case hg => rfl); (case hr => exact zHH); (case hp => exact (Reps.none _ _)); intro v436 w24 ho25 hb hg_ hnew_; clear hg_ hnew_; (first | rw [← Ny435.1] at ho25 | (simp only [Int.reduceToNat] at ho25; rw [← Ny435.1] at ho25)); replace HO_9 := zM (Kd.R_below (zR HO_9.1) hb); have HO437 := zM (Kd.R_lower ho25 (below_size zB1)); replace HB := zM (below_step zB1 hb); clear hb ho25))
      go_loopg [12, 13] kj5 (fun kq v12 v13 w' => ∃ (x12_2 : List Int) (x13_2 : Int), v13 = .int .i64 x13_2 ∧ Aside0 (spec_Finals.l1 kq x9_5 x12_2 x13_2 = some r) ∧ Aside0 (kq ≤ kj5) ∧ Aside0 (Kd.R Kd.bool 4 w' w.heap.size (fun _ => True) v426 x9_5) ∧ Aside0 (Kd.R (Kd.int .i64) 3 w' w.heap.size (fun _ => True) v12 x12_2) ∧ Aside0 (Below w.heap.size w w'))
      case atStart => exact ⟨(y435), (0), zJJ, H', ⟨Nat.le_refl _⟩, ⟨zR HO_9.1⟩, ⟨zR HO437.1⟩, ⟨zB1⟩⟩
      case round =>
        clear H'
        try clear hf18
        obtain ⟨x12_2, x13_2, rfl, HA, HK2, HO_9, HO_12, HB⟩ := hrel
        cases gk with
        | zero => exact absurd HA.1 (by simp [spec_Finals.l1])
        | succ k2 =>
          have H := HA.1
          clear HA
          simp only [spec_Finals.l1] at H
          by_cases c26 : x13_2 < (x9_5.length : Int)
          rotate_left
          · rw [if_neg c26] at H
            have c26b0 := decide_eq_false c26
            clear c26
            obtain rfl := Option.some.inj H
            obtain ⟨Ao34, co34, eo34⟩ := Kd.R_slice HO_9.1
            subst eo34
            go_wp2
            go_ret
            exact ⟨_, zE, zR HO_12.1, zB1⟩
          rw [if_pos c26] at H
          have c26b0 := decide_eq_true c26
          clear c26
          by_cases c27 : 0 ≤ x13_2
          rotate_left
          · rw [if_neg c27] at H
            exact absurd H (by simp)
          rw [if_pos c27] at H
          have c27b0 := decide_eq_true c27
          clear c27
          obtain ⟨bq28, hbq28⟩ : ∃ b_ : Bool, b_ = (rdOf false x9_5 x13_2) := ⟨_, rfl⟩
          replace H : (if bq28 = true then (if x12_2.length < 17592186044416 then (spec_Finals.l1 k2 x9_5 (x12_2 ++ [x13_2]) (wrap64 (x13_2 + 1))) else (none)) else (spec_Finals.l1 k2 x9_5 x12_2 (wrap64 (x13_2 + 1)))) = some r := by rw [← hbq28] at H; exact H
          have Nbq28 := zM hbq28
          clear hbq28
          by_cases c29 : bq28 = true
          rotate_left
          · replace c29 := Bool.eq_false_iff.mpr c29
            subst c29
            rw [if_neg zF] at H
            have H' := zM H
            clear H
            obtain ⟨Ao33, co33, eo33⟩ := Kd.R_slice HO_9.1
            subst eo33
            obtain ⟨p438, q438, ad438, e438, hx438_0⟩ := zRd (Kd.at_bool (Kd.R_reads' HO_9.1).2.2 x13_2)
            (try rw [← Nbq28.out] at hx438_0)
            cases e438
            go_wp2
            go_roundg k2
            case measure => have := HJ5.1; have := HK2.1; omega
            case rel => exact ⟨(x12_2), (wrap64 (x13_2 + 1)), zJJ, H', ⟨by have := HJ5.1; have := HK2.1; omega⟩, ⟨zR HO_9.1⟩, ⟨zR HO_12.1⟩, ⟨zB1⟩⟩
          subst c29
          rw [if_pos rfl] at H
          by_cases c30 : x12_2.length < 17592186044416
          rotate_left
          · rw [if_neg c30] at H
            exact absurd H (by simp)
          rw [if_pos c30] at H
          have LMc30 := zM c30
          clear c30
          generalize hy439 : ((x12_2 ++ [x13_2]) : List Int) = y439 at H
          have Ny439 := zM hy439.symm
          clear hy439
          have H' := zM H
          clear H
          obtain ⟨Ao31, co31, eo31⟩ := Kd.R_slice HO_9.1
          subst eo31
          obtain ⟨p438, q438, ad438, e438, hx438_0⟩ := zRd (Kd.at_bool (Kd.R_reads' HO_9.1).2.2 x13_2)
          (try rw [← Nbq28.out] at hx438_0)
          cases e438
          go_wp2_with (first | ((with_reducible refine gate_builtin (b := .append) (xs := #[.tmp 49, .tmp 51]) rfl ?_); at_builtin; refine Kd.R_append (Kd.int .i64) (w0 := w) w.heap.size rfl (.tmp 49) (.tmp 51) 24 3 (.int .i64 0) 8 rfl Try.underlying24 info3 rfl (by decide) (by omega) u12 x12_2 x13_2 [.int .i64 x13_2] (fun _ => True) (fun _ => False) rfl rfl ?aP (fun _ hk => hk.elim) ?aF ?aO ?aB ?aS ?aL ?_; (case aP => exact rfl); (case aB => exact zB1); (case aF => exact (fun _ _ => trivial)); (case aO => exact (zR HO_12.1)); (case aS => exact (below_size zB1)); (case aL => have := LMc30.out; omega); intro v440 w32 ho hb hg hat; rw [← Ny439.1] at ho; replace HO_9 := zM (Kd.R_over' (zR HO_9.1) (Kd.R_typed (zR HO_12.1)) (by decide) hg); replace HB := zM hb; have HO441 := zM ho; clear HO_12; clear ho hb hg hat))
          go_roundg k2
          case measure => have := HJ5.1; have := HK2.1; omega
          case rel => exact ⟨(y439), (wrap64 (x13_2 + 1)), zJJ, H', ⟨by have := HJ5.1; have := HK2.1; omega⟩, ⟨zR HO_9.1⟩, ⟨zR HO441.1⟩, ⟨zB1⟩⟩

/-! ### slices_Index_int_int: function 75 -/
def slices_Index_int_int.l0 : Nat → List Int → Int → Int → Int → Option (Int)
  | 0, _, _, _, _ => none
  | k + 1, x0, x1, x7, x8 => if x8 < x7 then (if 0 ≤ x8 then (if x8 < (x0.length : Int) then (if x1 = (rd x0 x8) then (some x8) else (slices_Index_int_int.l0 k x0 x1 x7 (wrap64 (x8 + 1)))) else (none)) else (none)) else (some (-1))
def slices_Index_int_int.f (k : Nat) (l0 : List Int) (a1 : Int) : Option (Int) := slices_Index_int_int.l0 k l0 a1 (l0.length : Int) 0
theorem slices_Index_int_int.mono_l : ∀ k, (∀ y0 y1 y2 y3, LeO (slices_Index_int_int.l0 k y0 y1 y2 y3) (slices_Index_int_int.l0 (k + 1) y0 y1 y2 y3))
  | 0 => fun _ _ _ _ r h => by simp [slices_Index_int_int.l0] at h
  | k + 1 => by
    have ih0 := slices_Index_int_int.mono_l k
    · intro y0 y1 y2 y3
      unfold slices_Index_int_int.l0
      exact zL
theorem slices_Index_int_int.mono : ∀ a0 a1 k, LeO (slices_Index_int_int.f k a0 a1) (slices_Index_int_int.f (k + 1) a0 a1) := by
  intro a0 a1 k
  have ih0 := slices_Index_int_int.mono_l k
  unfold slices_Index_int_int.f
  exact zL
theorem slices_Index_int_int.calls (k : Nat) (A0 : Option Addr) (c0 : Nat) (l0 : List Int) (a1 : Int) (r : Int) (w : World) (hr0 : Kd.C (Kd.int .i64) w A0 l0.length l0) (hc0 : l0.length ≤ c0) (h : slices_Index_int_int.f k l0 a1 = some r) :
    Calls Try.prog 75 #[.slice A0 l0.length c0, .int .i64 a1] w fun e w' => e = .returned (.int .i64 r) ∧ Drawn0 w w' := by
  have HR0 := zM hr0
  have HC0 := zM hc0
  clear hr0 hc0
  unfold slices_Index_int_int.f at h
  have H := h
  clear h
  have H' := zM H
  clear H
  go_enter Try.func75, Try.ntmps75
  go_wp2
  go_loopg [8] k (fun kq v8 w' => ∃ (x8_1 : Int), v8 = .int .i64 x8_1 ∧ Aside0 (slices_Index_int_int.l0 kq l0 a1 (l0.length : Int) x8_1 = some r) ∧ Aside0 (kq ≤ k) ∧ Drawn0 w w')
  case atStart => exact ⟨(0), zJJ, H', ⟨Nat.le_refl _⟩, zDD⟩
  case round =>
    clear H'
    obtain ⟨x8_1, rfl, HA, HK1, ⟨m1, rfl⟩⟩ := hrel
    cases gk with
    | zero => exact absurd HA.1 (by simp [slices_Index_int_int.l0])
    | succ k1 =>
      have H := HA.1
      clear HA
      simp only [slices_Index_int_int.l0] at H
      by_cases c3 : x8_1 < (l0.length : Int)
      rotate_left
      · rw [if_neg c3] at H
        have c3b0 := decide_eq_false c3
        clear c3
        obtain rfl := Option.some.inj H
        go_wp2
        go_ret
        exact ⟨zJJ, zDD⟩
      rw [if_pos c3] at H
      have c3b0 := decide_eq_true c3
      clear c3
      by_cases c4 : 0 ≤ x8_1
      rotate_left
      · rw [if_neg c4] at H
        exact absurd H (by simp)
      rw [if_pos c4] at H
      have c4b0 := decide_eq_true c4
      clear c4
      by_cases c5 : x8_1 < (l0.length : Int)
      rotate_left
      · rw [if_neg c5] at H
        exact absurd H (by simp)
      rw [if_pos c5] at H
      have c5b0 := decide_eq_true c5
      clear c5
      by_cases c6 : a1 = (rd l0 x8_1)
      · rw [if_pos c6] at H
        have c6b0 : (a1 == (rd l0 x8_1)) = true := beq_iff_eq.mpr c6
        have c6b1 : (a1 != (rd l0 x8_1)) = false := bne_eq_false_iff_eq.mpr c6
        clear c6
        obtain rfl := Option.some.inj H
        obtain ⟨p442, q442, ad442, e442, hx442_0⟩ := zRd (Kd.at_int HR0.1 x8_1)
        cases e442
        go_wp2
        go_ret
        exact ⟨zJJ, zDD⟩
      rw [if_neg c6] at H
      have c6b0 : (a1 == (rd l0 x8_1)) = false := beq_eq_false_iff_ne.mpr c6
      have c6b1 : (a1 != (rd l0 x8_1)) = true := bne_iff_ne.mpr c6
      have H' := zM H
      clear H
      obtain ⟨p442, q442, ad442, e442, hx442_0⟩ := zRd (Kd.at_int HR0.1 x8_1)
      cases e442
      go_wp2
      go_roundg k1
      case measure => have := HK1.1; omega
      case rel => exact ⟨(wrap64 (x8_1 + 1)), zJJ, H', ⟨by have := HK1.1; omega⟩, zDD⟩

/-! ### slices_Contains_int_int: function 50 -/
def slices_Contains_int_int.f (k : Nat) (l0 : List Int) (a1 : Int) : Option (Bool) := (slices_Index_int_int.f k l0 a1).bind fun t443 => (some (decide (t443 ≥ 0)))
theorem slices_Contains_int_int.mono : ∀ a0 a1 k, LeO (slices_Contains_int_int.f k a0 a1) (slices_Contains_int_int.f (k + 1) a0 a1) := by
  intro a0 a1 k
  unfold slices_Contains_int_int.f
  have mo0 := @slices_Index_int_int.mono
  exact zL
theorem slices_Contains_int_int.calls (k : Nat) (A0 : Option Addr) (c0 : Nat) (l0 : List Int) (a1 : Int) (r : Bool) (w : World) (hr0 : Kd.C (Kd.int .i64) w A0 l0.length l0) (hc0 : l0.length ≤ c0) (h : slices_Contains_int_int.f k l0 a1 = some r) :
    Calls Try.prog 50 #[.slice A0 l0.length c0, .int .i64 a1] w fun e w' => e = .returned (.bool r) ∧ Drawn0 w w' := by
  have HR0 := zM hr0
  have HC0 := zM hc0
  clear hr0 hc0
  unfold slices_Contains_int_int.f at h
  have H := h
  clear h
  replace H := zO H
  obtain ⟨t443, A3, H⟩ := H
  obtain rfl := Option.some.inj H
  go_enter Try.func50, Try.ntmps50
  go_wp2_with (first | ((with_reducible refine zG Try.func75 7 #[.slice A0 l0.length c0, .int .i64 a1] ?_); (with_reducible refine (slices_Index_int_int.calls k _ _ l0 a1 t443 _ ?side1 ?side2 A3.1).mono ?_); (case side1 => exact zC HR0.1); (case side2 => exact HC0.1); rintro e w' ⟨rfl, ⟨nd, rfl⟩⟩; refine ⟨_, rfl, ?_⟩))
  go_ret
  exact ⟨zJJ, zDD⟩

/-! ### impl_Ever: function 19 -/
def impl_Ever.f (k : Nat) (l0 : List Int) (l1 : List (S29)) (a2 : Int) (a3 : Int) (a4 : Int) : Option (Bool) := (impl_Finals.f k l0 l1 a2 a3).bind fun t444 => ((slices_Contains_int_int.f k t444 a4).bind fun t447 => (some t447))
theorem impl_Ever.mono : ∀ a0 a1 a2 a3 a4 k, LeO (impl_Ever.f k a0 a1 a2 a3 a4) (impl_Ever.f (k + 1) a0 a1 a2 a3 a4) := by
  intro a0 a1 a2 a3 a4 k
  unfold impl_Ever.f
  have mo0 := @impl_Finals.mono
  have mo1 := @slices_Contains_int_int.mono
  exact zL
theorem impl_Ever.calls (k : Nat) (A0 : Option Addr) (c0 : Nat) (l0 : List Int) (A1 : Option Addr) (c1 : Nat) (l1 : List (S29)) (a2 : Int) (a3 : Int) (a4 : Int) (r : Bool) (w : World) (hr0 : Kd.C (Kd.int .i64) w A0 l0.length l0) (hc0 : l0.length ≤ c0) (hr1 : Kd.C k29 w A1 l1.length l1) (hc1 : l1.length ≤ c1) (h : impl_Ever.f k l0 l1 a2 a3 a4 = some r) :
    Calls Try.prog 19 #[.slice A0 l0.length c0, .slice A1 l1.length c1, .int .i64 a2, .int .i64 a3, .int .i64 a4] w fun e w' => e = .returned (.bool r) ∧ Below w.heap.size w w' := by
  have HR0 := zM hr0
  have HC0 := zM hc0
  clear hr0 hc0
  have HR1 := zM hr1
  have HC1 := zM hc1
  clear hr1 hc1
  have HB := zM (Below.refl w.heap.size w)
  unfold impl_Ever.f at h
  have H := h
  clear h
  replace H := zO H
  obtain ⟨t444, A6, H⟩ := H
  replace H := zO H
  obtain ⟨t447, A7, H⟩ := H
  obtain rfl := Option.some.inj H
  go_enter Try.func19, Try.ntmps19
  go_wp2_with (first | ((with_reducible refine zG Try.func17 15 #[.slice A0 l0.length c0, .slice A1 l1.length c1, .int .i64 a2, .int .i64 a3] ?_); (with_reducible refine (impl_Finals.calls k _ _ l0 _ _ l1 a2 a3 t444 _ ?side1 ?side2 ?side3 ?side4 A6.1).mono ?_); (case side1 => exact zC HR0.1); (case side2 => exact HC0.1); (case side3 => exact zC HR1.1); (case side4 => exact HC1.1); rintro e w8 ⟨v445, rfl, ho0, hb⟩; refine ⟨_, rfl, ?_⟩; have HO446 := zM (Kd.R_lower ho0 (below_size zB1)); replace HB := zM (below_step zB1 hb); clear hb ho0; obtain ⟨Ao9, co9, eo9⟩ := Kd.R_slice HO446.1; subst eo9) | ((with_reducible refine zG Try.func50 17 #[.slice Ao9 t444.length co9, .int .i64 a4] ?_); (with_reducible refine (slices_Contains_int_int.calls k _ _ t444 a4 t447 _ ?side1 ?side2 A7.1).mono ?_); (case side1 => exact zC (Kd.R_reads' HO446.1).2.2); (case side2 => exact (Kd.R_reads' HO446.1).2.1); rintro e w' ⟨rfl, ⟨nd, rfl⟩⟩; refine ⟨_, rfl, ?_⟩))
  go_ret
  exact ⟨zE, zB1⟩

/-! ### laws_FnAllCounts: function 3 -/
def twoX : List S29 := [⟨[1, 1, 0, 0], 5, 0⟩, ⟨[1, 1, 0, 0], 5, 0⟩]
def laws_FnAllCounts.f (k : Nat) (l0 : List Int) : Option Bool := (laws_big.f l0).bind fun b => if b = true then some true else
  (impl_CountCode.f k 20 1 3).bind fun p => (impl_LoseCode.f k 20 1 3).bind fun q => (impl_Place.f k (List.replicate 24 0) 3 p.1).bind fun a => (impl_Place.f k (List.replicate 24 0) 3 q.1).bind fun c =>
  (laws_at.f l0 1).bind fun v => if Int.tmod v 2 = 0 then
    (impl_Always.f k a.1 twoX 8 20 2).bind fun t => if t = true then (impl_Finals.f k a.1 twoX 8 20).bind fun x => (spec_Finals.f k a.1 twoX 8 20).bind fun y => laws_sameInts.f k x y else none
  else (impl_Ever.f k c.1 twoX 12 20 2).bind fun t => if t = true then (impl_Ever.f k c.1 twoX 12 20 1).bind fun u => (if u = true then (impl_Ever.f k c.1 twoX 12 20 3).bind fun z => some (!z) else none) else none
/-- A row that was made: read from then on. -/
structure Rw (W0 W : World) (v : Value) (A : Option Addr) (c : Nat) (xs : List Int) : Prop where
  hv : v = .slice A xs.length c
  hl : xs.length ≤ c
  hf : Kd.F (Kd.int .i64) W (fun k => k < W.heap.size) A xs.length xs
theorem Rw.of {W0 W : World} {v : Value} {xs : List Int} (h : Kd.R (Kd.int .i64) 3 W W0.heap.size (fun _ => True) v xs) : ∃ A c, v = .slice A xs.length c ∧ xs.length ≤ c ∧ Kd.F (Kd.int .i64) W (fun k => k < W.heap.size) A xs.length xs := by
  obtain ⟨A, c, e⟩ := Kd.R_slice h
  subst e
  exact ⟨A, c, rfl, (Kd.R_reads' h).2.1, Kd.F_mono (Kd.F_bound (Kd.R_F h)) (fun _ hk => hk.2)⟩
theorem F_up {α : Type} {d : Kd α} {W W2 : World} {A : Option Addr} {n : Nat} {xs : List α} (h : Kd.F d W (fun k => k < W.heap.size) A n xs) (hb : Below W.heap.size W W2) : Kd.F d W2 (fun k => k < W2.heap.size) A n xs := Kd.F_mono (Kd.F_below h hb) (fun _ hk => Nat.lt_of_lt_of_le hk hb.size)
theorem three_setC {w w1 : World} {gh : Nat} {a b c a0 b0 c0 : Value} {t : Nat} (hw : w1 = ((w.setCell ⟨gh, 0, none⟩ a).setCell ⟨gh, 1, none⟩ b).setCell ⟨gh, 2, none⟩ c) (hb : w.heap[gh]? = some (.cells #[a0, b0, c0] t (0, 0))) {B : Nat} {wB : World} (hB : Below B wB w) (hg : B ≤ gh) : w1.heap[gh]? = some (.cells #[a, b, c] t (0, 0)) ∧ Below B wB w1 := by
  subst hw
  refine ⟨?_, ((hB.setCell hg _).setCell hg _).setCell hg _⟩
  exact blk_put (cs := #[a, b, c0]) (blk_put (cs := #[a, b0, c0]) (blk_put hb 0 a rfl) 1 b rfl) 2 c rfl
theorem twoF {W : World} {A : Option Addr} {c : Nat} (hl : ([1, 1, 0, 0] : List Int).length ≤ c) (hf : Kd.F (Kd.int .i64) W (fun k => k < W.heap.size) A ([1, 1, 0, 0] : List Int).length [1, 1, 0, 0]) :
    Reps (Kd.FK k29 W (fun _ => True)) k29.sz twoX [.slice A ([1, 1, 0, 0] : List Int).length c, .int .i64 5, .int .i64 0, .slice A ([1, 1, 0, 0] : List Int).length c, .int .i64 5, .int .i64 0] :=
  Reps.c3 (k29_mkF W _ (⟨[1, 1, 0, 0], 5, 0⟩ : S29) hl (Kd.F_mono hf (fun _ _ => trivial))) (Reps.c3 (k29_mkF W _ (⟨[1, 1, 0, 0], 5, 0⟩ : S29) hl (Kd.F_mono hf (fun _ _ => trivial))) (Reps.none _ _))
theorem laws_FnAllCounts.calls (k : Nat) (A0 : Option Addr) (c0 : Nat) (l0 : List Int) (r : Bool) (w : World) (hr0 : Kd.C (Kd.int .u8) w A0 l0.length l0) (hc0 : l0.length ≤ c0) (h : laws_FnAllCounts.f k l0 = some r) :
    Calls Try.prog 3 #[.slice A0 l0.length c0] w fun e w' => e = .returned (.bool r) ∧ Below w.heap.size w w' := by
  have HR0 := zM hr0
  have HC0 := zM hc0
  have HB := zM (Below.refl w.heap.size w)
  unfold laws_FnAllCounts.f at h
  obtain ⟨b, hb, h_⟩ := Option.bind_eq_some_iff.mp h; clear h; have h := h_; clear h_
  have AB := zM hb
  clear hr0 hc0 hb
  cases b with
  | true =>
    obtain rfl := Option.some.inj h
    clear h
    go_enter Try.func3, Try.ntmps3
    go_wp2_with (first
      | (go_at_call 10; (refine (laws_big.calls A0 c0 l0 true _ (Kd.C_below HR0.1 HB.1) HC0.1 AB.out).mono ?_); rintro e w1 ⟨rfl, hd⟩; have n0_ := zM (below_step HB.1 hd.below); clear HB hd; have HB := n0_; clear n0_))
    go_ret
    exact ⟨rfl, HB.1⟩
  | false =>
    rw [if_neg (by decide)] at h
    obtain ⟨⟨p1, p2⟩, hp, h_⟩ := Option.bind_eq_some_iff.mp h; clear h; have h := h_; clear h_
    obtain ⟨⟨q1, q2⟩, hq, h_⟩ := Option.bind_eq_some_iff.mp h; clear h; have h := h_; clear h_
    obtain ⟨zs, hz⟩ : ∃ z : List Int, z = List.replicate 24 0 := ⟨_, rfl⟩
    obtain ⟨gs, hgs⟩ : ∃ z : List Int, z = [1, 1, 0, 0] := ⟨_, rfl⟩
    rw [← hz] at h
    obtain ⟨⟨a1, a2⟩, ha, h_⟩ := Option.bind_eq_some_iff.mp h; clear h; have h := h_; clear h_
    obtain ⟨⟨b1, b2⟩, hd, h_⟩ := Option.bind_eq_some_iff.mp h; clear h; have h := h_; clear h_
    obtain ⟨v, hv, h_⟩ := Option.bind_eq_some_iff.mp h; clear h; have h := h_; clear h_
    dsimp only at ha hd h
    have AP := zM hp
    have AQ := zM hq
    have AA := zM ha
    have AD := zM hd
    have AV := zM hv
    have YZ := zM hz
    have YG := zM hgs
    clear hp hq ha hd hv hz hgs
    by_cases c2 : Int.tmod v 2 = 0
    rotate_left
    · rw [if_neg c2] at h
      have d1 : (Int.tmod v 2 == 0) = false := beq_eq_false_iff_ne.mpr c2
      obtain ⟨t, ht, h_⟩ := Option.bind_eq_some_iff.mp h; clear h; have h := h_; clear h_
      cases t with
      | false => exact absurd h (by simp)
      | true =>
      rw [if_pos rfl] at h
      obtain ⟨u, hx, h_⟩ := Option.bind_eq_some_iff.mp h; clear h; have h := h_; clear h_
      cases u with
      | false => exact absurd h (by simp)
      | true =>
      rw [if_pos rfl] at h
      obtain ⟨z, hy, h_⟩ := Option.bind_eq_some_iff.mp h; clear h; have h := h_; clear h_
      obtain rfl := Option.some.inj h
      have AW := zM ht
      have AX := zM hx
      have AY := zM hy
      clear ht hx hy h c2
      go_enter Try.func3, Try.ntmps3
      go_wp2_with (first
        | (go_at_call 19; (refine (impl_Ever.calls k A6 c6 b1 A10 c10 twoX 12 20 3 z w13 (Kd.F_now HR6.1) HL6.1 (Kd.F_now HR10.1) HL10.1 AY.out).mono ?_); rintro e w14 ⟨rfl, hb⟩; have n0_ := zM (F_up HR3.1 hb); have n1_ := zM (F_up HR4.1 hb); have n2_ := zM (F_up HRm1.out hb); have n3_ := zM (F_up HR5.1 hb); have n4_ := zM (F_up HRm2.out hb); have n5_ := zM (F_up HR6.1 hb); have n6_ := zM (F_up HR7.1 hb); have n7_ := zM (F_up HR10.1 hb); have nb_ := zM (below_step HB.1 hb); clear HB HR3 HR4 HRm1 HR5 HRm2 HR6 HR7 HR10; have HB := nb_; have HR3 := n0_; have HR4 := n1_; have HRm1 := n2_; have HR5 := n3_; have HRm2 := n4_; have HR6 := n5_; have HR7 := n6_; have HR10 := n7_; clear nb_ n0_ n1_ n2_ n3_ n4_ n5_ n6_ n7_; clear hb)
        | (go_at_call 19; (refine (impl_Ever.calls k A6 c6 b1 A10 c10 twoX 12 20 1 true w12 (Kd.F_now HR6.1) HL6.1 (Kd.F_now HR10.1) HL10.1 AX.out).mono ?_); rintro e w13 ⟨rfl, hb⟩; have n0_ := zM (F_up HR3.1 hb); have n1_ := zM (F_up HR4.1 hb); have n2_ := zM (F_up HRm1.out hb); have n3_ := zM (F_up HR5.1 hb); have n4_ := zM (F_up HRm2.out hb); have n5_ := zM (F_up HR6.1 hb); have n6_ := zM (F_up HR7.1 hb); have n7_ := zM (F_up HR10.1 hb); have nb_ := zM (below_step HB.1 hb); clear HB HR3 HR4 HRm1 HR5 HRm2 HR6 HR7 HR10; have HB := nb_; have HR3 := n0_; have HR4 := n1_; have HRm1 := n2_; have HR5 := n3_; have HRm2 := n4_; have HR6 := n5_; have HR7 := n6_; have HR10 := n7_; clear nb_ n0_ n1_ n2_ n3_ n4_ n5_ n6_ n7_; clear hb)
        | (go_at_call 19; (refine (impl_Ever.calls k A6 c6 b1 A10 c10 twoX 12 20 2 true w11 (Kd.F_now HR6.1) HL6.1 (Kd.F_now HR10.1) HL10.1 AW.out).mono ?_); rintro e w12 ⟨rfl, hb⟩; have n0_ := zM (F_up HR3.1 hb); have n1_ := zM (F_up HR4.1 hb); have n2_ := zM (F_up HRm1.out hb); have n3_ := zM (F_up HR5.1 hb); have n4_ := zM (F_up HRm2.out hb); have n5_ := zM (F_up HR6.1 hb); have n6_ := zM (F_up HR7.1 hb); have n7_ := zM (F_up HR10.1 hb); have nb_ := zM (below_step HB.1 hb); clear HB HR3 HR4 HRm1 HR5 HRm2 HR6 HR7 HR10; have HB := nb_; have HR3 := n0_; have HR4 := n1_; have HRm1 := n2_; have HR5 := n3_; have HRm2 := n4_; have HR6 := n5_; have HR7 := n6_; have HR10 := n7_; clear nb_ n0_ n1_ n2_ n3_ n4_ n5_ n6_ n7_; clear hb)
        | (go_at_call 14; (refine (laws_at.calls A0 c0 l0 1 v _ (Kd.C_below HR0.1 HB.1) HC0.1 AV.out).mono ?_); rintro e w11 ⟨rfl, hd⟩; have hb := hd.below; have n0_ := zM (F_up HR3.1 hb); have n1_ := zM (F_up HR4.1 hb); have n2_ := zM (F_up HRm1.out hb); have n3_ := zM (F_up HR5.1 hb); have n4_ := zM (F_up HRm2.out hb); have n5_ := zM (F_up HR6.1 hb); have n6_ := zM (F_up HR7.1 hb); have n7_ := zM (F_up HR10.1 hb); have nb_ := zM (below_step HB.1 hb); clear HB HR3 HR4 HRm1 HR5 HRm2 HR6 HR7 HR10; have HB := nb_; have HR3 := n0_; have HR4 := n1_; have HRm1 := n2_; have HR5 := n3_; have HRm2 := n4_; have HR6 := n5_; have HR7 := n6_; have HR10 := n7_; clear nb_ n0_ n1_ n2_ n3_ n4_ n5_ n6_ n7_; clear hb hd)
        | ((with_reducible refine gate_dst (N := 39) rfl ?_); refine Kd.N_lit k29 _ 29 ?hg (N' := 39) ?hd (xs := twoX) (inner := [.slice A7 gs.length c7, .int .i64 5, .int .i64 0, .slice A7 gs.length c7, .int .i64 5, .int .i64 0]) (ok := fun _ => True) (okp := fun _ => True) ?hr ?hp (fun _ hk => hk) trivial (Below.refl _ _) (Nat.le_refl _) (by decide) ?_; (case hd => rfl); (case hg => rfl); (case hr => exact zHH); (case hp => have hq := twoF (W := w9) (A := A7) (c := c7) (by have h_ := HL7.1; rw [YG.out] at h_; exact h_) (by have h_ := HR7.1; rw [YG.out] at h_; exact h_); rw [YG.out]; exact hq); intro v10 w10 ho hb hg_ hnew_; clear hg_ hnew_ hch0 hch1 hch2; obtain ⟨A10, c10, e_⟩ := Kd.N_slice ho; subst e_; have hr10 := Kd.N_reads' ho; have hf10 := Kd.F_mono (Kd.F_bound (Kd.N_F ho)) (fun (_ : Nat) hk => hk.2); clear ho; have n0_ := zM (F_up HR3.1 hb); have n1_ := zM (F_up HR4.1 hb); have n2_ := zM (F_up HRm1.out hb); have n3_ := zM (F_up HR5.1 hb); have n4_ := zM (F_up HRm2.out hb); have n5_ := zM (F_up HR6.1 hb); have n6_ := zM (F_up HR7.1 hb); have nb_ := zM (below_step HB.1 hb); clear HB HR3 HR4 HRm1 HR5 HRm2 HR6 HR7; have HB := nb_; have HR3 := n0_; have HR4 := n1_; have HRm1 := n2_; have HR5 := n3_; have HRm2 := n4_; have HR6 := n5_; have HR7 := n6_; clear nb_ n0_ n1_ n2_ n3_ n4_ n5_ n6_; have HL10 := zM hr10.2.1; have HR10 := zM hf10; clear hb hr10 hf10)
        | ((with_reducible refine gate_store (t := 29) (p := 11) rfl ?_); refine store_event (t := 29) (p := 11) (v := ?vo_) (w1 := (((w8.setCell ⟨gx, 0, none⟩ (.slice A7 gs.length c7)).setCell ⟨gx, 1, none⟩ (.int .i64 5)).setCell ⟨gx, 2, none⟩ (.int .i64 0))) ?hg ?ho ?hn ?hr ?_; (case ho => rfl); (case hg => rfl); (case hn => rfl); (case hr => have hz0 := (blk_cell BKX.out 0).trans rfl; have hz1 := (blk_cell BKX.out 1).trans rfl; have hz2 := (blk_cell BKX.out 2).trans rfl; have hf0 := blk_frozen BKX.out 0; have hf1 := blk_frozen BKX.out 1; have hf2 := blk_frozen BKX.out 2; first | (go_simp; done) | (go_simp; rfl)); intro w9 hw; obtain ⟨n0_, hb⟩ := three_setC hw BKX.out HBX.out HGX.out; have n2_ := zM n0_; clear BKX HBX hw n0_; have BKX := n2_; clear n2_; have n0_ := zM (F_up HR3.1 hb); have n1_ := zM (F_up HR4.1 hb); have n2_ := zM (F_up HRm1.out hb); have n3_ := zM (F_up HR5.1 hb); have n4_ := zM (F_up HRm2.out hb); have n5_ := zM (F_up HR6.1 hb); have n6_ := zM (F_up HR7.1 hb); have nb_ := zM (below_step HB.1 hb); clear HB HR3 HR4 HRm1 HR5 HRm2 HR6 HR7; have HB := nb_; have HR3 := n0_; have HR4 := n1_; have HRm1 := n2_; have HR5 := n3_; have HRm2 := n4_; have HR6 := n5_; have HR7 := n6_; clear nb_ n0_ n1_ n2_ n3_ n4_ n5_ n6_; clear hb HB7; have hch0 : w9.cell? ⟨gx, 0, none⟩ = some (.slice A7 gs.length c7) := (blk_cell BKX.out 0).trans rfl; have hch1 : w9.cell? ⟨gx, 1, none⟩ = some (.int .i64 5) := (blk_cell BKX.out 1).trans rfl; have hch2 : w9.cell? ⟨gx, 2, none⟩ = some (.int .i64 0) := (blk_cell BKX.out 2).trans rfl)
        | ((with_reducible refine zBx 11 29 #[.slice none 0 0, .int .i64 0, .int .i64 0] ?_); intro gx hg w8 hbox hb; have HGX := zM (show w7.heap.size ≤ gx from Nat.le_of_eq hg.symm); have BKX := zM hbox; have HB7 := HB; have HBX := zM hb; clear hg hbox hb)
        | ((with_reducible refine gate_dst (N := 35) rfl ?_); refine Kd.R_lit (Kd.int .i64) _ 3 ?hg (N := 35) ?hd (xs := [1, 1, 0, 0]) (inner := [.int .i64 1, .int .i64 1, .int .i64 0, .int .i64 0]) (ok := fun _ => True) (okp := fun _ => True) ?hr ?hp (fun _ hk => hk) trivial (Below.refl _ _) (Nat.le_refl _) (by simp) ?_; (case hd => rfl); (case hg => rfl); (case hr => exact zHH); (case hp => exact Reps.one rfl (Reps.one rfl (Reps.one rfl (Reps.one rfl (Reps.none _ _))))); intro v7 w7 ho hb hg_ hnew_; clear hg_ hnew_; rw [← YG.out] at ho; obtain ⟨A7, c7, e_, hl7, hf7⟩ := Rw.of ho; subst e_; clear ho; have n0_ := zM (F_up HR3.1 hb); have n1_ := zM (F_up HR4.1 hb); have n2_ := zM (F_up HRm1.out hb); have n3_ := zM (F_up HR5.1 hb); have n4_ := zM (F_up HRm2.out hb); have n5_ := zM (F_up HR6.1 hb); have nb_ := zM (below_step HB.1 hb); clear HB HR3 HR4 HRm1 HR5 HRm2 HR6; have HB := nb_; have HR3 := n0_; have HR4 := n1_; have HRm1 := n2_; have HR5 := n3_; have HRm2 := n4_; have HR6 := n5_; clear nb_ n0_ n1_ n2_ n3_ n4_ n5_; have HL7 := zM hl7; have HR7 := zM hf7; clear hb hl7 hf7)
        | (go_at_call 13; (refine (impl_Place.calls k Am2 cm2 zs 3 A4 c4 q1 b1 b2 wm2 (Kd.F_now HRm2.out) HLm2.out (Kd.F_now HR4.1) HL4.1 AD.out).mono ?_); rintro e w6 ⟨v6, rfl, ho, hb⟩; obtain ⟨A6, c6, e_, hl6, hf6⟩ := Rw.of ho; subst e_; clear ho; have n0_ := zM (F_up HR3.1 hb); have n1_ := zM (F_up HR4.1 hb); have n2_ := zM (F_up HRm1.out hb); have n3_ := zM (F_up HR5.1 hb); have n4_ := zM (F_up HRm2.out hb); have nb_ := zM (below_step HB.1 hb); clear HB HR3 HR4 HRm1 HR5 HRm2; have HB := nb_; have HR3 := n0_; have HR4 := n1_; have HRm1 := n2_; have HR5 := n3_; have HRm2 := n4_; clear nb_ n0_ n1_ n2_ n3_ n4_; have HL6 := zM hl6; have HR6 := zM hf6; clear hb hl6 hf6)
        | ((with_reducible refine gate_dst (N := 30) rfl ?_); refine Kd.R_make (Kd.int .i64) _ 3 rfl (N := 30) rfl 24 _ _ rfl 24 rfl rfl Try.underlying24 (.int .i64 0) 8 info3 rfl (by decide) (by omega) 0 (ok := fun _ => True) (okp := fun _ => True) rfl (fun _ hk => hk) trivial (by omega) (by omega) (Below.refl _ _) (Nat.le_refl _) ?_; intro vm2 wm2 ho hb hg_ hnew_; clear hg_ hnew_; rw [show (24 : Int).toNat = 24 from rfl, ← YZ.out] at ho; obtain ⟨Am2, cm2, e_, hlm2, hfm2⟩ := Rw.of ho; subst e_; clear ho; have n0_ := zM (F_up HR3.1 hb); have n1_ := zM (F_up HR4.1 hb); have n2_ := zM (F_up HRm1.out hb); have n3_ := zM (F_up HR5.1 hb); have nb_ := zM (below_step HB.1 hb); clear HB HR3 HR4 HRm1 HR5; have HB := nb_; have HR3 := n0_; have HR4 := n1_; have HRm1 := n2_; have HR5 := n3_; clear nb_ n0_ n1_ n2_ n3_; have HLm2 := zM hlm2; have HRm2 := zM hfm2; clear hb hlm2 hfm2)
        | (go_at_call 13; (refine (impl_Place.calls k Am1 cm1 zs 3 A3 c3 p1 a1 a2 wm1 (Kd.F_now HRm1.out) HLm1.out (Kd.F_now HR3.1) HL3.1 AA.out).mono ?_); rintro e w5 ⟨v5, rfl, ho, hb⟩; obtain ⟨A5, c5, e_, hl5, hf5⟩ := Rw.of ho; subst e_; clear ho; have n0_ := zM (F_up HR3.1 hb); have n1_ := zM (F_up HR4.1 hb); have n2_ := zM (F_up HRm1.out hb); have nb_ := zM (below_step HB.1 hb); clear HB HR3 HR4 HRm1; have HB := nb_; have HR3 := n0_; have HR4 := n1_; have HRm1 := n2_; clear nb_ n0_ n1_ n2_; have HL5 := zM hl5; have HR5 := zM hf5; clear hb hl5 hf5)
        | ((with_reducible refine gate_dst (N := 24) rfl ?_); refine Kd.R_make (Kd.int .i64) _ 3 rfl (N := 24) rfl 24 _ _ rfl 24 rfl rfl Try.underlying24 (.int .i64 0) 8 info3 rfl (by decide) (by omega) 0 (ok := fun _ => True) (okp := fun _ => True) rfl (fun _ hk => hk) trivial (by omega) (by omega) (Below.refl _ _) (Nat.le_refl _) ?_; intro vm1 wm1 ho hb hg_ hnew_; clear hg_ hnew_; rw [show (24 : Int).toNat = 24 from rfl, ← YZ.out] at ho; obtain ⟨Am1, cm1, e_, hlm1, hfm1⟩ := Rw.of ho; subst e_; clear ho; have n0_ := zM (F_up HR3.1 hb); have n1_ := zM (F_up HR4.1 hb); have nb_ := zM (below_step HB.1 hb); clear HB HR3 HR4; have HB := nb_; have HR3 := n0_; have HR4 := n1_; clear nb_ n0_ n1_; have HLm1 := zM hlm1; have HRm1 := zM hfm1; clear hb hlm1 hfm1)
        | (go_at_call 12; (refine (impl_LoseCode.calls k 20 1 3 q1 q2 _ AQ.out).mono ?_); rintro e w4 ⟨v4, rfl, ho, hb⟩; obtain ⟨A4, c4, e_, hl4, hf4⟩ := Rw.of ho; subst e_; clear ho; have n0_ := zM (F_up HR3.1 hb); have nb_ := zM (below_step HB.1 hb); clear HB HR3; have HB := nb_; have HR3 := n0_; clear nb_ n0_; have HL4 := zM hl4; have HR4 := zM hf4; clear hb hl4 hf4)
        | (go_at_call 11; (refine (impl_CountCode.calls k 20 1 3 p1 p2 _ AP.out).mono ?_); rintro e w3 ⟨v3, rfl, ho, hb⟩; obtain ⟨A3, c3, e_, hl3, hf3⟩ := Rw.of ho; subst e_; clear ho; have nb_ := zM (below_step HB.1 hb); clear HB ; have HB := nb_; clear nb_ ; have HL3 := zM hl3; have HR3 := zM hf3; clear hb hl3 hf3)
        | (go_at_call 10; (refine (laws_big.calls A0 c0 l0 false _ (Kd.C_below HR0.1 HB.1) HC0.1 AB.out).mono ?_); rintro e w1 ⟨rfl, hd⟩; have hb := hd.below; have nb_ := zM (below_step HB.1 hb); clear HB ; have HB := nb_; clear nb_ ; clear hb hd))
      go_ret
      exact ⟨rfl, HB.1⟩
    rw [if_pos c2] at h
    have d1 : (Int.tmod v 2 == 0) = true := beq_iff_eq.mpr c2
    obtain ⟨t, ht, h_⟩ := Option.bind_eq_some_iff.mp h; clear h; have h := h_; clear h_
    cases t with
    | false => exact absurd h (by simp)
    | true =>
    rw [if_pos rfl] at h
    obtain ⟨x1, hx, h_⟩ := Option.bind_eq_some_iff.mp h; clear h; have h := h_; clear h_
    obtain ⟨y1, hy, h_⟩ := Option.bind_eq_some_iff.mp h; clear h; have h := h_; clear h_
    have AW := zM ht
    have AX := zM hx
    have AY := zM hy
    have AZ := zM h
    clear ht hx hy h c2
    go_enter Try.func3, Try.ntmps3
    go_wp2_with (first
      | (go_at_call 16; (refine (laws_sameInts.calls k A13 c13 x1 A14 c14 y1 r _ (Kd.F_now HR13.1) HL13.1 (Kd.F_now HR14.1) HL14.1 AZ.out).mono ?_); rintro e w15 ⟨rfl, hd⟩; have hb := hd.below; have n0_ := zM (F_up HR3.1 hb); have n1_ := zM (F_up HR4.1 hb); have n2_ := zM (F_up HRm1.out hb); have n3_ := zM (F_up HR5.1 hb); have n4_ := zM (F_up HRm2.out hb); have n5_ := zM (F_up HR6.1 hb); have n6_ := zM (F_up HR7.1 hb); have n7_ := zM (F_up HR10.1 hb); have n8_ := zM (F_up HR13.1 hb); have n9_ := zM (F_up HR14.1 hb); have nb_ := zM (below_step HB.1 hb); clear HB HR3 HR4 HRm1 HR5 HRm2 HR6 HR7 HR10 HR13 HR14; have HB := nb_; have HR3 := n0_; have HR4 := n1_; have HRm1 := n2_; have HR5 := n3_; have HRm2 := n4_; have HR6 := n5_; have HR7 := n6_; have HR10 := n7_; have HR13 := n8_; have HR14 := n9_; clear nb_ n0_ n1_ n2_ n3_ n4_ n5_ n6_ n7_ n8_ n9_; clear hb hd)
      | (go_at_call 18; (refine (spec_Finals.calls k A5 c5 a1 A10 c10 twoX 8 20 y1 _ (Kd.F_now HR5.1) HL5.1 (Kd.F_now HR10.1) HL10.1 AY.out).mono ?_); rintro e w14 ⟨v14, rfl, ho, hb⟩; obtain ⟨A14, c14, e_, hl14, hf14⟩ := Rw.of ho; subst e_; clear ho; have n0_ := zM (F_up HR3.1 hb); have n1_ := zM (F_up HR4.1 hb); have n2_ := zM (F_up HRm1.out hb); have n3_ := zM (F_up HR5.1 hb); have n4_ := zM (F_up HRm2.out hb); have n5_ := zM (F_up HR6.1 hb); have n6_ := zM (F_up HR7.1 hb); have n7_ := zM (F_up HR10.1 hb); have n8_ := zM (F_up HR13.1 hb); have nb_ := zM (below_step HB.1 hb); clear HB HR3 HR4 HRm1 HR5 HRm2 HR6 HR7 HR10 HR13; have HB := nb_; have HR3 := n0_; have HR4 := n1_; have HRm1 := n2_; have HR5 := n3_; have HRm2 := n4_; have HR6 := n5_; have HR7 := n6_; have HR10 := n7_; have HR13 := n8_; clear nb_ n0_ n1_ n2_ n3_ n4_ n5_ n6_ n7_ n8_; have HL14 := zM hl14; have HR14 := zM hf14; clear hb hl14 hf14)
      | (go_at_call 17; (refine (impl_Finals.calls k A5 c5 a1 A10 c10 twoX 8 20 x1 _ (Kd.F_now HR5.1) HL5.1 (Kd.F_now HR10.1) HL10.1 AX.out).mono ?_); rintro e w13 ⟨v13, rfl, ho, hb⟩; obtain ⟨A13, c13, e_, hl13, hf13⟩ := Rw.of ho; subst e_; clear ho; have n0_ := zM (F_up HR3.1 hb); have n1_ := zM (F_up HR4.1 hb); have n2_ := zM (F_up HRm1.out hb); have n3_ := zM (F_up HR5.1 hb); have n4_ := zM (F_up HRm2.out hb); have n5_ := zM (F_up HR6.1 hb); have n6_ := zM (F_up HR7.1 hb); have n7_ := zM (F_up HR10.1 hb); have nb_ := zM (below_step HB.1 hb); clear HB HR3 HR4 HRm1 HR5 HRm2 HR6 HR7 HR10; have HB := nb_; have HR3 := n0_; have HR4 := n1_; have HRm1 := n2_; have HR5 := n3_; have HRm2 := n4_; have HR6 := n5_; have HR7 := n6_; have HR10 := n7_; clear nb_ n0_ n1_ n2_ n3_ n4_ n5_ n6_ n7_; have HL13 := zM hl13; have HR13 := zM hf13; clear hb hl13 hf13)
      | (go_at_call 15; (refine (impl_Always.calls k A5 c5 a1 A10 c10 twoX 8 20 2 true _ (Kd.F_now HR5.1) HL5.1 (Kd.F_now HR10.1) HL10.1 AW.out).mono ?_); rintro e w12 ⟨rfl, hb⟩; have n0_ := zM (F_up HR3.1 hb); have n1_ := zM (F_up HR4.1 hb); have n2_ := zM (F_up HRm1.out hb); have n3_ := zM (F_up HR5.1 hb); have n4_ := zM (F_up HRm2.out hb); have n5_ := zM (F_up HR6.1 hb); have n6_ := zM (F_up HR7.1 hb); have n7_ := zM (F_up HR10.1 hb); have nb_ := zM (below_step HB.1 hb); clear HB HR3 HR4 HRm1 HR5 HRm2 HR6 HR7 HR10; have HB := nb_; have HR3 := n0_; have HR4 := n1_; have HRm1 := n2_; have HR5 := n3_; have HRm2 := n4_; have HR6 := n5_; have HR7 := n6_; have HR10 := n7_; clear nb_ n0_ n1_ n2_ n3_ n4_ n5_ n6_ n7_; clear hb)
      | (go_at_call 14; (refine (laws_at.calls A0 c0 l0 1 v _ (Kd.C_below HR0.1 HB.1) HC0.1 AV.out).mono ?_); rintro e w11 ⟨rfl, hd⟩; have hb := hd.below; have n0_ := zM (F_up HR3.1 hb); have n1_ := zM (F_up HR4.1 hb); have n2_ := zM (F_up HRm1.out hb); have n3_ := zM (F_up HR5.1 hb); have n4_ := zM (F_up HRm2.out hb); have n5_ := zM (F_up HR6.1 hb); have n6_ := zM (F_up HR7.1 hb); have n7_ := zM (F_up HR10.1 hb); have nb_ := zM (below_step HB.1 hb); clear HB HR3 HR4 HRm1 HR5 HRm2 HR6 HR7 HR10; have HB := nb_; have HR3 := n0_; have HR4 := n1_; have HRm1 := n2_; have HR5 := n3_; have HRm2 := n4_; have HR6 := n5_; have HR7 := n6_; have HR10 := n7_; clear nb_ n0_ n1_ n2_ n3_ n4_ n5_ n6_ n7_; clear hb hd)
      | ((with_reducible refine gate_dst (N := 39) rfl ?_); refine Kd.N_lit k29 _ 29 ?hg (N' := 39) ?hd (xs := twoX) (inner := [.slice A7 gs.length c7, .int .i64 5, .int .i64 0, .slice A7 gs.length c7, .int .i64 5, .int .i64 0]) (ok := fun _ => True) (okp := fun _ => True) ?hr ?hp (fun _ hk => hk) trivial (Below.refl _ _) (Nat.le_refl _) (by decide) ?_; (case hd => rfl); (case hg => rfl); (case hr => exact zHH); (case hp => have hq := twoF (W := w9) (A := A7) (c := c7) (by have h_ := HL7.1; rw [YG.out] at h_; exact h_) (by have h_ := HR7.1; rw [YG.out] at h_; exact h_); rw [YG.out]; exact hq); intro v10 w10 ho hb hg_ hnew_; clear hg_ hnew_ hch0 hch1 hch2; obtain ⟨A10, c10, e_⟩ := Kd.N_slice ho; subst e_; have hr10 := Kd.N_reads' ho; have hf10 := Kd.F_mono (Kd.F_bound (Kd.N_F ho)) (fun (_ : Nat) hk => hk.2); clear ho; have n0_ := zM (F_up HR3.1 hb); have n1_ := zM (F_up HR4.1 hb); have n2_ := zM (F_up HRm1.out hb); have n3_ := zM (F_up HR5.1 hb); have n4_ := zM (F_up HRm2.out hb); have n5_ := zM (F_up HR6.1 hb); have n6_ := zM (F_up HR7.1 hb); have nb_ := zM (below_step HB.1 hb); clear HB HR3 HR4 HRm1 HR5 HRm2 HR6 HR7; have HB := nb_; have HR3 := n0_; have HR4 := n1_; have HRm1 := n2_; have HR5 := n3_; have HRm2 := n4_; have HR6 := n5_; have HR7 := n6_; clear nb_ n0_ n1_ n2_ n3_ n4_ n5_ n6_; have HL10 := zM hr10.2.1; have HR10 := zM hf10; clear hb hr10 hf10)
      | ((with_reducible refine gate_store (t := 29) (p := 11) rfl ?_); refine store_event (t := 29) (p := 11) (v := ?vo_) (w1 := (((w8.setCell ⟨gx, 0, none⟩ (.slice A7 gs.length c7)).setCell ⟨gx, 1, none⟩ (.int .i64 5)).setCell ⟨gx, 2, none⟩ (.int .i64 0))) ?hg ?ho ?hn ?hr ?_; (case ho => rfl); (case hg => rfl); (case hn => rfl); (case hr => have hz0 := (blk_cell BKX.out 0).trans rfl; have hz1 := (blk_cell BKX.out 1).trans rfl; have hz2 := (blk_cell BKX.out 2).trans rfl; have hf0 := blk_frozen BKX.out 0; have hf1 := blk_frozen BKX.out 1; have hf2 := blk_frozen BKX.out 2; first | (go_simp; done) | (go_simp; rfl)); intro w9 hw; obtain ⟨n0_, hb⟩ := three_setC hw BKX.out HBX.out HGX.out; have n2_ := zM n0_; clear BKX HBX hw n0_; have BKX := n2_; clear n2_; have n0_ := zM (F_up HR3.1 hb); have n1_ := zM (F_up HR4.1 hb); have n2_ := zM (F_up HRm1.out hb); have n3_ := zM (F_up HR5.1 hb); have n4_ := zM (F_up HRm2.out hb); have n5_ := zM (F_up HR6.1 hb); have n6_ := zM (F_up HR7.1 hb); have nb_ := zM (below_step HB.1 hb); clear HB HR3 HR4 HRm1 HR5 HRm2 HR6 HR7; have HB := nb_; have HR3 := n0_; have HR4 := n1_; have HRm1 := n2_; have HR5 := n3_; have HRm2 := n4_; have HR6 := n5_; have HR7 := n6_; clear nb_ n0_ n1_ n2_ n3_ n4_ n5_ n6_; clear hb HB7; have hch0 : w9.cell? ⟨gx, 0, none⟩ = some (.slice A7 gs.length c7) := (blk_cell BKX.out 0).trans rfl; have hch1 : w9.cell? ⟨gx, 1, none⟩ = some (.int .i64 5) := (blk_cell BKX.out 1).trans rfl; have hch2 : w9.cell? ⟨gx, 2, none⟩ = some (.int .i64 0) := (blk_cell BKX.out 2).trans rfl)
      | ((with_reducible refine zBx 11 29 #[.slice none 0 0, .int .i64 0, .int .i64 0] ?_); intro gx hg w8 hbox hb; have HGX := zM (show w7.heap.size ≤ gx from Nat.le_of_eq hg.symm); have BKX := zM hbox; have HB7 := HB; have HBX := zM hb; clear hg hbox hb)
      | ((with_reducible refine gate_dst (N := 35) rfl ?_); refine Kd.R_lit (Kd.int .i64) _ 3 ?hg (N := 35) ?hd (xs := [1, 1, 0, 0]) (inner := [.int .i64 1, .int .i64 1, .int .i64 0, .int .i64 0]) (ok := fun _ => True) (okp := fun _ => True) ?hr ?hp (fun _ hk => hk) trivial (Below.refl _ _) (Nat.le_refl _) (by simp) ?_; (case hd => rfl); (case hg => rfl); (case hr => exact zHH); (case hp => exact Reps.one rfl (Reps.one rfl (Reps.one rfl (Reps.one rfl (Reps.none _ _))))); intro v7 w7 ho hb hg_ hnew_; clear hg_ hnew_; rw [← YG.out] at ho; obtain ⟨A7, c7, e_, hl7, hf7⟩ := Rw.of ho; subst e_; clear ho; have n0_ := zM (F_up HR3.1 hb); have n1_ := zM (F_up HR4.1 hb); have n2_ := zM (F_up HRm1.out hb); have n3_ := zM (F_up HR5.1 hb); have n4_ := zM (F_up HRm2.out hb); have n5_ := zM (F_up HR6.1 hb); have nb_ := zM (below_step HB.1 hb); clear HB HR3 HR4 HRm1 HR5 HRm2 HR6; have HB := nb_; have HR3 := n0_; have HR4 := n1_; have HRm1 := n2_; have HR5 := n3_; have HRm2 := n4_; have HR6 := n5_; clear nb_ n0_ n1_ n2_ n3_ n4_ n5_; have HL7 := zM hl7; have HR7 := zM hf7; clear hb hl7 hf7)
      | (go_at_call 13; (refine (impl_Place.calls k Am2 cm2 zs 3 A4 c4 q1 b1 b2 wm2 (Kd.F_now HRm2.out) HLm2.out (Kd.F_now HR4.1) HL4.1 AD.out).mono ?_); rintro e w6 ⟨v6, rfl, ho, hb⟩; obtain ⟨A6, c6, e_, hl6, hf6⟩ := Rw.of ho; subst e_; clear ho; have n0_ := zM (F_up HR3.1 hb); have n1_ := zM (F_up HR4.1 hb); have n2_ := zM (F_up HRm1.out hb); have n3_ := zM (F_up HR5.1 hb); have n4_ := zM (F_up HRm2.out hb); have nb_ := zM (below_step HB.1 hb); clear HB HR3 HR4 HRm1 HR5 HRm2; have HB := nb_; have HR3 := n0_; have HR4 := n1_; have HRm1 := n2_; have HR5 := n3_; have HRm2 := n4_; clear nb_ n0_ n1_ n2_ n3_ n4_; have HL6 := zM hl6; have HR6 := zM hf6; clear hb hl6 hf6)
      | ((with_reducible refine gate_dst (N := 30) rfl ?_); refine Kd.R_make (Kd.int .i64) _ 3 rfl (N := 30) rfl 24 _ _ rfl 24 rfl rfl Try.underlying24 (.int .i64 0) 8 info3 rfl (by decide) (by omega) 0 (ok := fun _ => True) (okp := fun _ => True) rfl (fun _ hk => hk) trivial (by omega) (by omega) (Below.refl _ _) (Nat.le_refl _) ?_; intro vm2 wm2 ho hb hg_ hnew_; clear hg_ hnew_; rw [show (24 : Int).toNat = 24 from rfl, ← YZ.out] at ho; obtain ⟨Am2, cm2, e_, hlm2, hfm2⟩ := Rw.of ho; subst e_; clear ho; have n0_ := zM (F_up HR3.1 hb); have n1_ := zM (F_up HR4.1 hb); have n2_ := zM (F_up HRm1.out hb); have n3_ := zM (F_up HR5.1 hb); have nb_ := zM (below_step HB.1 hb); clear HB HR3 HR4 HRm1 HR5; have HB := nb_; have HR3 := n0_; have HR4 := n1_; have HRm1 := n2_; have HR5 := n3_; clear nb_ n0_ n1_ n2_ n3_; have HLm2 := zM hlm2; have HRm2 := zM hfm2; clear hb hlm2 hfm2)
      | (go_at_call 13; (refine (impl_Place.calls k Am1 cm1 zs 3 A3 c3 p1 a1 a2 wm1 (Kd.F_now HRm1.out) HLm1.out (Kd.F_now HR3.1) HL3.1 AA.out).mono ?_); rintro e w5 ⟨v5, rfl, ho, hb⟩; obtain ⟨A5, c5, e_, hl5, hf5⟩ := Rw.of ho; subst e_; clear ho; have n0_ := zM (F_up HR3.1 hb); have n1_ := zM (F_up HR4.1 hb); have n2_ := zM (F_up HRm1.out hb); have nb_ := zM (below_step HB.1 hb); clear HB HR3 HR4 HRm1; have HB := nb_; have HR3 := n0_; have HR4 := n1_; have HRm1 := n2_; clear nb_ n0_ n1_ n2_; have HL5 := zM hl5; have HR5 := zM hf5; clear hb hl5 hf5)
      | ((with_reducible refine gate_dst (N := 24) rfl ?_); refine Kd.R_make (Kd.int .i64) _ 3 rfl (N := 24) rfl 24 _ _ rfl 24 rfl rfl Try.underlying24 (.int .i64 0) 8 info3 rfl (by decide) (by omega) 0 (ok := fun _ => True) (okp := fun _ => True) rfl (fun _ hk => hk) trivial (by omega) (by omega) (Below.refl _ _) (Nat.le_refl _) ?_; intro vm1 wm1 ho hb hg_ hnew_; clear hg_ hnew_; rw [show (24 : Int).toNat = 24 from rfl, ← YZ.out] at ho; obtain ⟨Am1, cm1, e_, hlm1, hfm1⟩ := Rw.of ho; subst e_; clear ho; have n0_ := zM (F_up HR3.1 hb); have n1_ := zM (F_up HR4.1 hb); have nb_ := zM (below_step HB.1 hb); clear HB HR3 HR4; have HB := nb_; have HR3 := n0_; have HR4 := n1_; clear nb_ n0_ n1_; have HLm1 := zM hlm1; have HRm1 := zM hfm1; clear hb hlm1 hfm1)
      | (go_at_call 12; (refine (impl_LoseCode.calls k 20 1 3 q1 q2 _ AQ.out).mono ?_); rintro e w4 ⟨v4, rfl, ho, hb⟩; obtain ⟨A4, c4, e_, hl4, hf4⟩ := Rw.of ho; subst e_; clear ho; have n0_ := zM (F_up HR3.1 hb); have nb_ := zM (below_step HB.1 hb); clear HB HR3; have HB := nb_; have HR3 := n0_; clear nb_ n0_; have HL4 := zM hl4; have HR4 := zM hf4; clear hb hl4 hf4)
      | (go_at_call 11; (refine (impl_CountCode.calls k 20 1 3 p1 p2 _ AP.out).mono ?_); rintro e w3 ⟨v3, rfl, ho, hb⟩; obtain ⟨A3, c3, e_, hl3, hf3⟩ := Rw.of ho; subst e_; clear ho; have nb_ := zM (below_step HB.1 hb); clear HB ; have HB := nb_; clear nb_ ; have HL3 := zM hl3; have HR3 := zM hf3; clear hb hl3 hf3)
      | (go_at_call 10; (refine (laws_big.calls A0 c0 l0 false _ (Kd.C_below HR0.1 HB.1) HC0.1 AB.out).mono ?_); rintro e w1 ⟨rfl, hd⟩; have hb := hd.below; have nb_ := zM (below_step HB.1 hb); clear HB ; have HB := nb_; clear nb_ ; clear hb hd))
    go_ret
    exact ⟨rfl, HB.1⟩
/-- THE ONE PURE STATEMENT of laws_FnAllCounts: yours. -/
def laws_FnAllCounts.Pure : Prop := ∀ (l0 : List Int), l0.length ≤ maxLen → l0.length * 1 ≤ 140737488351232 → (∀ x ∈ l0, (Lit.int .u8 x).wf = true) → ∃ k, laws_FnAllCounts.f k l0 = some true
theorem laws_FnAllCounts.walk (P : laws_FnAllCounts.Pure) (a0 : Option Addr) (len0 cap0 : Nat) (z0 : List Int) (w : World) (w0 : (a0 = none ∧ len0 = 0 ∧ cap0 = 0 ∧ z0 = []) ∨ ∃ x, a0 = some x ∧ len0 ≤ cap0 ∧ cap0 ≤ maxLen ∧ z0.length = cap0 ∧ (∀ i, i < z0.length → w.cell? (x.add i) = some (.int .u8 (z0.getD i 0))) ∧ ∀ n ∈ z0, (Lit.int .u8 n).wf = true) (y0 : len0 * 1 ≤ 140737488351232) :
  Calls Try.prog 3 #[.slice a0 len0 cap0] w fun e w' => e = .returned (.bool true) ∧ Below w.heap.size w w' := by
 obtain ⟨l0, rfl, hr0, hm0, hw0, hc0⟩ := ReadsInt.ofRowC w0
 obtain ⟨k, h⟩ := P l0 hm0 y0 hw0
 refine (laws_FnAllCounts.calls k _ _ l0 true w (Kd.C_of_reads (d := (0 : Int)) (h1 := fun _ => rfl) hr0) hc0 h).mono ?_
 rintro e w' ⟨rfl, hd⟩
 exact ⟨rfl, hd⟩

end Go.Proofs.Ytnjdepmlpdjghaa.PFnAllCounts
