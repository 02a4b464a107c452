-- made by wip/tools/myprint.py out of the seat's translation
import Derived.Test.YtaakcbgpmabaaaaDoorPFnStoriesx0
import Derived.Test.YtaakcbgpmabaaaaDoorPFnStoriesx10
import Derived.Test.YtaakcbgpmabaaaaDoorPFnStoriesx12
namespace Go.Proofs.YtaakcbgpmabaaaaDoor.PFnStories
open Go.RowKit Go.Proofs.YtaakcbgpmabaaaaDoorW.PrintWords Go.Proofs.YtaakcbgpmabaaaaDoorW.PrintLast Go.Proofs.YtaakcbgpmabaaaaDoorW.PrintMore
attribute [local go_sem] max2_int min2_int max_two min_two max_three min_three max_four min_four   -- for this text's walks alone
set_option linter.unusedVariables false
set_option linter.unusedSimpArgs false
set_option maxHeartbeats 8000000
set_option maxRecDepth 100000

/-! ### strings_genSplit: function 39 -/
mutual
def strings_genSplit.j0 : Nat → ByteArray → ByteArray → Int → Int → Option (List ByteArray)
 | 0, _, _, _, _ => none
 | k + 1, x0, x1, x2, x3 => if 0 ≤ (mn x3 (wrap64 ((x0.size : Int) + 1))) then (if (mn x3 (wrap64 ((x0.size : Int) + 1)) : Int).toNat ≤ 17592186044416 then (strings_genSplit.l0 k x0 x1 x2 (wrap64 ((mn x3 (wrap64 ((x0.size : Int) + 1))) - 1)) (List.replicate (mn x3 (wrap64 ((x0.size : Int) + 1)) : Int).toNat (⟨#[]⟩ : ByteArray)) 0) else (none)) else (none)
def strings_genSplit.l0 : Nat → ByteArray → ByteArray → Int → Int → List ByteArray → Int → Option (List ByteArray)
 | 0, _, _, _, _, _, _ => none
 | k + 1, x0, x1, x2, x3, x9, x10 => if x10 < x3 then ((strings_Index.f x0 x1).bind fun t651 => (if t651 < 0 then (if 0 ≤ x10 then (if x10 < (x9.length : Int) then (if 0 ≤ (wrap64 (x10 + 1)) then (if (wrap64 (x10 + 1)) ≤ (x9.length : Int) then (some ((x9.set (x10 : Int).toNat x0).take ((wrap64 (x10 + 1)) : Int).toNat)) else (none)) else (none)) else (none)) else (none)) else (if 0 ≤ (wrap64 (t651 + x2)) then (if (wrap64 (t651 + x2)) ≤ (x0.size : Int) then (if 0 ≤ x10 then (if x10 < (x9.length : Int) then (if 0 ≤ (wrap64 (t651 + (x1.size : Int))) then (if (wrap64 (t651 + (x1.size : Int))) ≤ (x0.size : Int) then (strings_genSplit.l0 k (x0.extract ((wrap64 (t651 + (x1.size : Int))) : Int).toNat x0.size) x1 x2 x3 (x9.set (x10 : Int).toNat (x0.extract 0 ((wrap64 (t651 + x2)) : Int).toNat)) (wrap64 (x10 + 1))) else (none)) else (none)) else (none)) else (none)) else (none)) else (none)))) else (if 0 ≤ x10 then (if x10 < (x9.length : Int) then (if 0 ≤ (wrap64 (x10 + 1)) then (if (wrap64 (x10 + 1)) ≤ (x9.length : Int) then (some ((x9.set (x10 : Int).toNat x0).take ((wrap64 (x10 + 1)) : Int).toNat)) else (none)) else (none)) else (none)) else (none))
end
def strings_genSplit.f (k : Nat) (a0 : ByteArray) (a1 : ByteArray) (a2 : Int) (a3 : Int) : Option (List ByteArray) := if a3 = 0 then (some ([] : List ByteArray)) else (if a1.toList = ([] : List UInt8) then ((strings_explode.f a0 a3).bind fun t644 => (some t644)) else (if a3 < 0 then ((strings_Count.f a0 a1).bind fun t647 => (strings_genSplit.j0 k a0 a1 a2 (wrap64 (t647 + 1)))) else (strings_genSplit.j0 k a0 a1 a2 a3)))
theorem strings_genSplit.mono_l : ∀ k, (∀ y0 y1 y2 y3, LeO (strings_genSplit.j0 k y0 y1 y2 y3) (strings_genSplit.j0 (k + 1) y0 y1 y2 y3)) ∧ (∀ y0 y1 y2 y3 y4 y5, LeO (strings_genSplit.l0 k y0 y1 y2 y3 y4 y5) (strings_genSplit.l0 (k + 1) y0 y1 y2 y3 y4 y5))
 | 0 => ⟨fun _ _ _ _ r h => by simp [strings_genSplit.j0] at h, fun _ _ _ _ _ _ r h => by simp [strings_genSplit.l0] at h⟩
 | k + 1 => by
  obtain ⟨ih0, ih1⟩ := strings_genSplit.mono_l k
  refine ⟨?_, ?_⟩
  ·intros
   unfold strings_genSplit.j0
   exact zL
  ·intros
   unfold strings_genSplit.l0
   exact zL
theorem strings_genSplit.mono : ∀ a0 a1 a2 a3 k, LeO (strings_genSplit.f k a0 a1 a2 a3) (strings_genSplit.f (k + 1) a0 a1 a2 a3) := by
 intro a0 a1 a2 a3 k
 obtain ⟨ih0, ih1⟩ := strings_genSplit.mono_l k
 unfold strings_genSplit.f
 exact zL
theorem strings_genSplit.calls (k : Nat) (a0 : ByteArray) (a1 : ByteArray) (a2 : Int) (a3 : Int) (r : List ByteArray) (w : World) (h : strings_genSplit.f k a0 a1 a2 a3 = some r) :
  Calls Tryd.prog 39 #[.string a0, .string a1, .int .i64 a2, .int .i64 a3] w fun e w' => ∃ v0_ : Value, e = .returned (v0_) ∧ Kd.R Kd.string 9 w' w.heap.size (fun _ => True) v0_ r ∧ Below w.heap.size w w' := by
 have HB := zM (Below.refl w.heap.size w)
 unfold strings_genSplit.f at h
 have H := h
 clear h
 by_cases c5 : a3 = 0
 ·rw [if_pos c5] at H
  have c5b0 : (a3 == 0) = true := beq_iff_eq.mpr c5
  have c5b1 : (a3 != 0) = false := bne_eq_false_iff_eq.mpr c5
  clear c5
  obtain rfl := Option.some.inj H
  go_enter Tryd.func39, Tryd.ntmps39
  go_wp2
  go_ret
  exact ⟨_, zE, by first | exact Kd.R_nil _ _ _ _ _ | exact Kd.N_nil _ _ _ _ _ | exact Kd.V_nil _ _ _ _ _ | exact Kd.Q_nil _ _ _ _ _ | exact Kd.S_nil _ _ _ _ _, zB3⟩
 rw [if_neg c5] at H
 have c5b0 : (a3 == 0) = false := beq_eq_false_iff_ne.mpr c5
 have c5b1 : (a3 != 0) = true := bne_iff_ne.mpr c5
 by_cases c6 : a1.toList = ([] : List UInt8)
 ·rw [if_pos c6] at H
  have c6b0 : (a1.toList == ([] : List UInt8)) = true := beq_iff_eq.mpr c6
  have c6b1 : (a1.toList != ([] : List UInt8)) = false := bne_eq_false_iff_eq.mpr c6
  clear c6
  replace H := zO H
  obtain ⟨t644, A7, H⟩ := H
  obtain rfl := Option.some.inj H
  go_enter Tryd.func39, Tryd.ntmps39
  go_wp2_with (first | ((with_reducible refine gate_callee (f := 52) rfl ?_); refine goesL_ (some 18) rfl rfl Tryd.func52 (by kernel_rfl) rfl #[.string a0, .int .i64 a3] rfl zT ?_; (with_reducible refine (strings_explode.calls a0 a3 t644 _ A7.1).mono ?_); rintro e w8 ⟨v645, rfl, ho0, hb⟩; refine ⟨_, rfl, ?_⟩; have HO646 := zM (Kd.R_lower ho0 (below_size zB3)); replace HB := zM (below_step zB3 hb); clear hb ho0))
  go_ret
  exact ⟨_, zE, zR HO646.1, zB3⟩
 rw [if_neg c6] at H
 have c6b0 : (a1.toList == ([] : List UInt8)) = false := beq_eq_false_iff_ne.mpr c6
 have c6b1 : (a1.toList != ([] : List UInt8)) = true := bne_iff_ne.mpr c6
 have HC9 := zM H
 clear H
 go_enter Tryd.func39, Tryd.ntmps39
 go_upto_if 20 with (fail)
 go_cut [3] (fun v3 wc => ∃ (kq : Nat) (x3_8 : Int), v3 = .int .i64 x3_8 ∧ Aside0 (strings_genSplit.j0 kq a0 a1 a2 x3_8 = some r) ∧ Aside0 (kq ≤ k) ∧ Aside0 (Below w.heap.size w wc))
 case first =>
  have H := HC9.1
  clear HC9
  by_cases c10 : a3 < 0
  rotate_left
  ·rw [if_neg c10] at H
   have c10b0 := decide_eq_false c10
   clear c10
   (first | rw [c10b0] | (simp only [i64_w, i32_w]; rw [c10b0]) | skip)
   have H' := zM H
   clear H
   go_wp2
   go_meet
   case rel => exact ⟨_, (a3), zJJ, H', ⟨by first | omega | exact Nat.le_refl _⟩, ⟨zB3⟩⟩
  rw [if_pos c10] at H
  have c10b0 := decide_eq_true c10
  clear c10
  (first | rw [c10b0] | (simp only [i64_w, i32_w]; rw [c10b0]) | skip)
  replace H := zO H
  obtain ⟨t647, A11, H⟩ := H
  have H' := zM H
  clear H
  go_wp2_with (first | ((with_reducible refine gate_callee (f := 53) rfl ?_); refine goesL_ (some 23) rfl rfl Tryd.func53 (by kernel_rfl) rfl #[.string a0, .string a1] rfl zT ?_; (with_reducible refine (strings_Count.calls a0 a1 t647 _ A11.1).mono ?_); rintro e w' ⟨rfl, ⟨nd, rfl⟩⟩; refine ⟨_, rfl, ?_⟩))
  go_meet
  case rel => exact ⟨_, (wrap64 (t647 + 1)), zJJ, H', ⟨by first | omega | exact Nat.le_refl _⟩, ⟨zB3⟩⟩
 case rest =>
  clear HC9
  obtain ⟨kq, x3_8, rfl, HA, HJ8, HB⟩ := hcut
  cases kq with
  | zero => exact absurd HA.1 (by simp [strings_genSplit.j0])
  | succ kj8 =>
   have H := HA.1
   clear HA
   simp only [strings_genSplit.j0] at H
   obtain ⟨ji12, hji12⟩ : ∃ j_ : Int, (mn x3_8 (wrap64 ((a0.size : Int) + 1))) = j_ := ⟨_, rfl⟩
   replace H : (if 0 ≤ (ji12) then (if (ji12 : Int).toNat ≤ 17592186044416 then (strings_genSplit.l0 kj8 a0 a1 a2 (wrap64 ((ji12) - 1)) (List.replicate (ji12 : Int).toNat (⟨#[]⟩ : ByteArray)) 0) else (none)) else (none)) = some r := by first | (rw [hji12] at H; exact H) | (simp only [hji12] at H ⊢; exact H)
   have hji12_ : (if (wrap64 ((a0.size : Int) + 1)) < x3_8 then (wrap64 ((a0.size : Int) + 1)) else x3_8) = ji12 := hji12
   replace H := zIp H
   obtain ⟨c13, H⟩ := H
   have c13b0 := eq_true c13
   have c13b1 : decide (0 ≤ (ji12)) = true := decide_eq_true c13
   clear c13
   replace H := zIp H
   obtain ⟨c14, H⟩ := H
   have c14b0 := eq_true c14
   have c14b1 : decide ((ji12 : Int).toNat ≤ 17592186044416) = true := decide_eq_true c14
   clear c14
   generalize hy648 : ((List.replicate (ji12 : Int).toNat (⟨#[]⟩ : ByteArray)) : List ByteArray) = y648 at H
   have Ny648 := zM hy648.symm
   clear hy648
   have H' := zM H
   clear H
   go_wp2_with (first | ((with_reducible refine gate_dst (N := 31) rfl ?_); refine Kd.R_make Kd.string _ 9 rfl (N := 31) rfl 46 _ _ rfl ji12 rfl rfl Tryd.underlying46 (.string ⟨#[]⟩) 16 info9 rfl (by decide) (by omega) (⟨#[]⟩ : ByteArray) (ok := fun _ => True) (okp := fun _ => True) rfl (fun _ hk => hk) trivial zA (Nat.le_trans (Nat.mul_le_mul_right _ (zA : ji12.toNat ≤ 17592186044416)) (by omega)) (Below.refl _ _) (Nat.le_refl _) ?_; intro v649 w15 ho16 hb hg_ hnew_; clear hg_ hnew_; (first | rw [← Ny648.1] at ho16 | (simp only [Int.reduceToNat] at ho16; rw [← Ny648.1] at ho16)); have HO650 := zM (Kd.R_lower ho16 (below_size zB3)); replace HB := zM (below_step zB3 hb); clear hb ho16))
   go_loopg [0, 10] kj8 (fun kq v0 v10 w' => ∃ (x0_2 : ByteArray) (x9_2 : List ByteArray) (x10_2 : Int), v0 = .string x0_2 ∧ v10 = .int .i64 x10_2 ∧ Aside0 (strings_genSplit.l0 kq x0_2 a1 a2 (wrap64 ((ji12) - 1)) x9_2 x10_2 = some r) ∧ Aside0 (kq ≤ kj8) ∧ Aside0 (Kd.R Kd.string 9 w' w.heap.size (fun _ => True) v649 x9_2) ∧ Aside0 (Below w.heap.size w w'))
   case atStart => exact ⟨(a0), (y648), (0), zJJ, zJJ, H', ⟨Nat.le_refl _⟩, ⟨zR HO650.1⟩, ⟨zB3⟩⟩
   case round =>
    clear H'
    obtain ⟨x0_2, x9_2, x10_2, rfl, rfl, HA, HK2, HO_9, HB⟩ := hrel
    cases gk with
    | zero => exact absurd HA.1 (by simp [strings_genSplit.l0])
    | succ k2 =>
     have H := HA.1
     clear HA
     simp only [strings_genSplit.l0] at H
     by_cases c17 : x10_2 < (wrap64 ((ji12) - 1))
     rotate_left
     ·rw [if_neg c17] at H
      have c17b0 := decide_eq_false c17
      clear c17
      replace H := zIt H
      obtain ⟨c40b0, H⟩ := H
      replace H := zIt H
      obtain ⟨c41b0, H⟩ := H
      generalize hy657 : ((x9_2.set (x10_2 : Int).toNat x0_2) : List ByteArray) = y657 at H
      have Ny657 := zM hy657.symm
      clear hy657
      obtain ⟨ji43, hji43⟩ : ∃ j_ : Int, (wrap64 (x10_2 + 1)) = j_ := ⟨_, rfl⟩
      replace H : (if 0 ≤ (ji43) then (if (ji43) ≤ (x9_2.length : Int) then (some (y657.take ((ji43) : Int).toNat)) else (none)) else (none)) = some r := by first | (rw [hji43] at H; exact H) | (simp only [hji43] at H ⊢; exact H)
      have hji43w : (IntKind.i64.wrap (x10_2 + 1)) = ji43 := (i64_w _).trans hji43
      replace H := zIp H
      obtain ⟨c44, H⟩ := H
      have c44b0 := eq_true c44
      have c44b1 : decide (0 ≤ (ji43)) = true := decide_eq_true c44
      clear c44
      replace H := zIp H
      obtain ⟨c45, H⟩ := H
      have c45b0 := eq_true c45
      have c45b1 : decide ((ji43) ≤ (x9_2.length : Int)) = true := decide_eq_true c45
      clear c45
      generalize hy658 : ((y657.take ((ji43) : Int).toNat) : List ByteArray) = y658 at H
      have Ny658 := zM hy658.symm
      clear hy658
      obtain rfl := Option.some.inj H
      have p42 : 0 ≤ (x10_2 : Int) := zA
      have q42 : (x10_2 : Int) < ((x9_2.length : Int) : Int) := zA
      obtain ⟨go42, co42, eo42, gb42, gl42, cl42, HG42⟩ := Kd.R_form HO_9.1 (by omega)
      (first | cases eo42 | (injection eo42 with ea_ en_ ec_; (first | subst ea_ | (injection ea_ with ea_; subst ea_)); subst ec_; clear en_))
      have GB42 := zM gb42
      have GG42 := zM HG42
      clear gb42 gl42 HG42
      obtain ⟨hx42_0, hf42_0⟩ := Kd.R_celln (⟨#[]⟩ : ByteArray) HO_9.1 (x10_2 : Int) p42 q42
      replace p42 := eq_true p42
      replace q42 := eq_true q42
      have HP46 := Kd.R_putg HO_9.1 (x10_2 : Int) x0_2
      go_wp2_with (first | ((with_reducible refine gate_store (t := 9) (p := 61) rfl ?_); refine store_event (t := 9) (p := 61) (v := ?vo_w47) (w1 := (wr.setCell ⟨go42, (x10_2 : Int).toNat, none⟩ (.string x0_2))) ?hg ?ho ?hn ?hr ?_; (case ho => rfl); (case hg => rfl); (case hn => rfl); (case hr => exact zHH); intro w47 hw; have hg : wr.grownBy w47 (some go42) := (by rw [hw]; exact HP46.2); have hp_ : Kd.R Kd.string 9 w47 w.heap.size (fun _ => True) (.slice (some ⟨go42, 0, none⟩) x9_2.length co42) y657 := (by rw [hw, Ny657.1]; exact HP46.1); clear HP46; replace HO_9 := zM hp_; replace HB := zM ((by rw [hw]; exact below_set (HB.1) GB42.1 : Below w.heap.size w w47)); clear hg hw hp_; have q48 : ((ji43) : Int) ≤ ((x9_2.length : Int) : Int) := zA; obtain ⟨i048, hi048, _, hsz48, _⟩ := info_parts info9; have hcut48 := cut_to (P := Tryd.prog) 46 9 .i64 Tryd.underlying46 hi048 (some ⟨go42, 0, none⟩) x9_2.length co42 (ji43) zA q48 (Kd.R_reads' HO_9.1).2.1; have hr48 := Kd.R_take (m := ((ji43) : Int).toNat) HO_9.1 (by first | omega | (have hl_ := (Kd.R_reads' HO_9.1).1; omega)); have hy48 : y658.length = ((ji43) : Int).toNat := (by first | (rw [Ny658.1, List.length_take]; omega) | (have hl_ := (Kd.R_reads' HO_9.1).1; rw [Ny658.1, List.length_take]; omega)); rw [← Ny658.1] at hr48; rw [← hy48] at hr48 hcut48; clear hy48 hi048 hsz48 HO_9; have HO660 := zM hr48; clear hr48; replace q48 := eq_true q48))
      go_ret
      exact ⟨_, by first | rfl | (simp [errW_none, errW_some] <;> rfl) | (simp only [← hji12, ← hji43]; first | rfl | (simp [errW_none, errW_some] <;> rfl)) | (simp [*, errW_none, errW_some] <;> rfl), zR HO660.1, zB3⟩
     rw [if_pos c17] at H
     have c17b0 := decide_eq_true c17
     clear c17
     replace H := zO H
     obtain ⟨t651, A18, H⟩ := H
     by_cases c19 : t651 < 0
     ·rw [if_pos c19] at H
      have c19b0 := decide_eq_true c19
      clear c19
      replace H := zIt H
      obtain ⟨c20b0, H⟩ := H
      replace H := zIt H
      obtain ⟨c21b0, H⟩ := H
      generalize hy652 : ((x9_2.set (x10_2 : Int).toNat x0_2) : List ByteArray) = y652 at H
      have Ny652 := zM hy652.symm
      clear hy652
      obtain ⟨ji23, hji23⟩ : ∃ j_ : Int, (wrap64 (x10_2 + 1)) = j_ := ⟨_, rfl⟩
      replace H : (if 0 ≤ (ji23) then (if (ji23) ≤ (x9_2.length : Int) then (some (y652.take ((ji23) : Int).toNat)) else (none)) else (none)) = some r := by first | (rw [hji23] at H; exact H) | (simp only [hji23] at H ⊢; exact H)
      (try rw [hji23] at A18)
      have hji23w : (IntKind.i64.wrap (x10_2 + 1)) = ji23 := (i64_w _).trans hji23
      replace H := zIp H
      obtain ⟨c24, H⟩ := H
      have c24b0 := eq_true c24
      have c24b1 : decide (0 ≤ (ji23)) = true := decide_eq_true c24
      clear c24
      replace H := zIp H
      obtain ⟨c25, H⟩ := H
      have c25b0 := eq_true c25
      have c25b1 : decide ((ji23) ≤ (x9_2.length : Int)) = true := decide_eq_true c25
      clear c25
      generalize hy653 : ((y652.take ((ji23) : Int).toNat) : List ByteArray) = y653 at H
      have Ny653 := zM hy653.symm
      clear hy653
      obtain rfl := Option.some.inj H
      go_wp2_with (first | ((with_reducible refine gate_callee (f := 54) rfl ?_); refine goesL_ (some 39) rfl rfl Tryd.func54 (by kernel_rfl) rfl #[.string x0_2, .string a1] rfl zT ?_; (with_reducible refine (strings_Index.calls x0_2 a1 t651 _ A18.1).mono ?_); rintro e w' ⟨rfl, ⟨nd, rfl⟩⟩; refine ⟨_, rfl, ?_⟩; (try (rw [drewN_self wr]; generalize hq_ : World.drewN wr _ = wr; have n0_ : Aside0 (Kd.R Kd.string 9 wr w.heap.size (fun _ => True) v649 x9_2) := ⟨by rw [← hq_]; exact (zR HO_9.1)⟩; have n1_ : Aside0 (Below w.heap.size w wr) := ⟨by rw [← hq_]; exact zB3⟩; clear HO_9 HB hq_; have HO_9 := n0_; have HB := n1_; clear n0_ n1_)); have p22 : 0 ≤ (x10_2 : Int) := zA; have q22 : (x10_2 : Int) < ((x9_2.length : Int) : Int) := zA; obtain ⟨go22, co22, eo22, gb22, gl22, cl22, HG22⟩ := Kd.R_form HO_9.1 (by omega); (first | cases eo22 | (injection eo22 with ea_ en_ ec_; (first | subst ea_ | (injection ea_ with ea_; subst ea_)); subst ec_; clear en_)); have GB22 := zM gb22; have GG22 := zM HG22; clear gb22 gl22 HG22; obtain ⟨hx22_0, hf22_0⟩ := Kd.R_celln (⟨#[]⟩ : ByteArray) HO_9.1 (x10_2 : Int) p22 q22; replace p22 := eq_true p22; replace q22 := eq_true q22; obtain ⟨hy26_, hz26_⟩ := Kd.R_celln (⟨#[]⟩ : ByteArray) HO_9.1 (x10_2 : Int) zA zA; have HP26 := Kd.R_putg HO_9.1 (x10_2 : Int) x0_2) | ((with_reducible refine gate_store (t := 9) (p := 61) rfl ?_); refine store_event (t := 9) (p := 61) (v := ?vo_w27) (w1 := (wr.setCell ⟨go22, (x10_2 : Int).toNat, none⟩ (.string x0_2))) ?hg ?ho ?hn ?hr ?_; (case ho => rfl); (case hg => rfl); (case hn => rfl); (case hr => exact zHH); intro w27 hw; have hg : wr.grownBy w27 (some go22) := (by rw [hw]; exact HP26.2); have hp_ : Kd.R Kd.string 9 w27 w.heap.size (fun _ => True) (.slice (some ⟨go22, 0, none⟩) x9_2.length co22) y652 := (by rw [hw, Ny652.1]; exact HP26.1); clear HP26; replace HO_9 := zM hp_; replace HB := zM ((by rw [hw]; exact below_set (HB.1) GB22.1 : Below w.heap.size w w27)); clear hg hw hp_; have q28 : ((ji23) : Int) ≤ ((x9_2.length : Int) : Int) := zA; obtain ⟨i028, hi028, _, hsz28, _⟩ := info_parts info9; have hcut28 := cut_to (P := Tryd.prog) 46 9 .i64 Tryd.underlying46 hi028 (some ⟨go22, 0, none⟩) x9_2.length co22 (ji23) zA q28 (Kd.R_reads' HO_9.1).2.1; have hr28 := Kd.R_take (m := ((ji23) : Int).toNat) HO_9.1 (by first | omega | (have hl_ := (Kd.R_reads' HO_9.1).1; omega)); have hy28 : y653.length = ((ji23) : Int).toNat := (by first | (rw [Ny653.1, List.length_take]; omega) | (have hl_ := (Kd.R_reads' HO_9.1).1; rw [Ny653.1, List.length_take]; omega)); rw [← Ny653.1] at hr28; rw [← hy28] at hr28 hcut28; clear hy28 hi028 hsz28 HO_9; have HO655 := zM hr28; clear hr28; replace q28 := eq_true q28))
      go_ret
      exact ⟨_, by first | rfl | (simp [errW_none, errW_some] <;> rfl) | (simp only [← hji12, ← hji23]; first | rfl | (simp [errW_none, errW_some] <;> rfl)) | (simp [*, errW_none, errW_some] <;> rfl), zR HO655.1, zB3⟩
     rw [if_neg c19] at H
     have c19b0 := decide_eq_false c19
     clear c19
     obtain ⟨ji29, hji29⟩ : ∃ j_ : Int, (wrap64 (t651 + a2)) = j_ := ⟨_, rfl⟩
     replace H : (if 0 ≤ (ji29) then (if (ji29) ≤ (x0_2.size : Int) then (if 0 ≤ x10_2 then (if x10_2 < (x9_2.length : Int) then (if 0 ≤ (wrap64 (t651 + (a1.size : Int))) then (if (wrap64 (t651 + (a1.size : Int))) ≤ (x0_2.size : Int) then (strings_genSplit.l0 k2 (x0_2.extract ((wrap64 (t651 + (a1.size : Int))) : Int).toNat x0_2.size) a1 a2 (wrap64 ((ji12) - 1)) (x9_2.set (x10_2 : Int).toNat (x0_2.extract 0 ((ji29) : Int).toNat)) (wrap64 (x10_2 + 1))) else (none)) else (none)) else (none)) else (none)) else (none)) else (none)) = some r := by first | (rw [hji29] at H; exact H) | (simp only [hji29] at H ⊢; exact H)
     (try rw [hji29] at A18)
     have hji29w : (IntKind.i64.wrap (t651 + a2)) = ji29 := (i64_w _).trans hji29
     replace H := zIp H
     obtain ⟨c30, H⟩ := H
     have c30b0 := eq_true c30
     have c30b1 : decide (0 ≤ (ji29)) = true := decide_eq_true c30
     clear c30
     replace H := zIp H
     obtain ⟨c31, H⟩ := H
     have c31b0 := eq_true c31
     have c31b1 : decide ((ji29) ≤ (x0_2.size : Int)) = true := decide_eq_true c31
     clear c31
     replace H := zIt H
     obtain ⟨c32b0, H⟩ := H
     replace H := zIt H
     obtain ⟨c33b0, H⟩ := H
     generalize hy656 : ((x9_2.set (x10_2 : Int).toNat (x0_2.extract 0 ((ji29) : Int).toNat)) : List ByteArray) = y656 at H
     have Ny656 := zM hy656.symm
     clear hy656
     obtain ⟨ji35, hji35⟩ : ∃ j_ : Int, (wrap64 (t651 + (a1.size : Int))) = j_ := ⟨_, rfl⟩
     replace H : (if 0 ≤ (ji35) then (if (ji35) ≤ (x0_2.size : Int) then (strings_genSplit.l0 k2 (x0_2.extract ((ji35) : Int).toNat x0_2.size) a1 a2 (wrap64 ((ji12) - 1)) y656 (wrap64 (x10_2 + 1))) else (none)) else (none)) = some r := by first | (rw [hji35] at H; exact H) | (simp only [hji35] at H ⊢; exact H)
     (try rw [hji35] at A18)
     have hji35w : (IntKind.i64.wrap (t651 + (a1.size : Int))) = ji35 := (i64_w _).trans hji35
     replace H := zIp H
     obtain ⟨c36, H⟩ := H
     have c36b0 := eq_true c36
     have c36b1 : decide (0 ≤ (ji35)) = true := decide_eq_true c36
     clear c36
     replace H := zIp H
     obtain ⟨c37, H⟩ := H
     have c37b0 := eq_true c37
     have c37b1 : decide ((ji35) ≤ (x0_2.size : Int)) = true := decide_eq_true c37
     clear c37
     have H' := zM H
     clear H
     go_wp2_with (first | ((with_reducible refine gate_callee (f := 54) rfl ?_); refine goesL_ (some 39) rfl rfl Tryd.func54 (by kernel_rfl) rfl #[.string x0_2, .string a1] rfl zT ?_; (with_reducible refine (strings_Index.calls x0_2 a1 t651 _ A18.1).mono ?_); rintro e w' ⟨rfl, ⟨nd, rfl⟩⟩; refine ⟨_, rfl, ?_⟩; (try (rw [drewN_self wr]; generalize hq_ : World.drewN wr _ = wr; have n0_ : Aside0 (Kd.R Kd.string 9 wr w.heap.size (fun _ => True) v649 x9_2) := ⟨by rw [← hq_]; exact (zR HO_9.1)⟩; have n1_ : Aside0 (Below w.heap.size w wr) := ⟨by rw [← hq_]; exact zB3⟩; clear HO_9 HB hq_; have HO_9 := n0_; have HB := n1_; clear n0_ n1_)); have p34 : 0 ≤ (x10_2 : Int) := zA; have q34 : (x10_2 : Int) < ((x9_2.length : Int) : Int) := zA; obtain ⟨go34, co34, eo34, gb34, gl34, cl34, HG34⟩ := Kd.R_form HO_9.1 (by omega); (first | cases eo34 | (injection eo34 with ea_ en_ ec_; (first | subst ea_ | (injection ea_ with ea_; subst ea_)); subst ec_; clear en_)); have GB34 := zM gb34; have GG34 := zM HG34; clear gb34 gl34 HG34; obtain ⟨hx34_0, hf34_0⟩ := Kd.R_celln (⟨#[]⟩ : ByteArray) HO_9.1 (x10_2 : Int) p34 q34; replace p34 := eq_true p34; replace q34 := eq_true q34; obtain ⟨hy38_, hz38_⟩ := Kd.R_celln (⟨#[]⟩ : ByteArray) HO_9.1 (x10_2 : Int) zA zA; have HP38 := Kd.R_putg HO_9.1 (x10_2 : Int) (x0_2.extract 0 ((ji29) : Int).toNat)) | ((with_reducible refine gate_store (t := 9) (p := 49) rfl ?_); refine store_event (t := 9) (p := 49) (v := ?vo_w39) (w1 := (wr.setCell ⟨go34, (x10_2 : Int).toNat, none⟩ (.string (x0_2.extract 0 ((ji29) : Int).toNat)))) ?hg ?ho ?hn ?hr ?_; (case ho => rfl); (case hg => rfl); (case hn => rfl); (case hr => exact zHH); intro w39 hw; have hg : wr.grownBy w39 (some go34) := (by rw [hw]; exact HP38.2); have hp_ : Kd.R Kd.string 9 w39 w.heap.size (fun _ => True) (.slice (some ⟨go34, 0, none⟩) x9_2.length co34) y656 := (by rw [hw, Ny656.1]; exact HP38.1); clear HP38; replace HO_9 := zM hp_; replace HB := zM ((by rw [hw]; exact below_set (HB.1) GB34.1 : Below w.heap.size w w39)); clear hg hw hp_))
     go_roundg k2
     case measure => have := HJ8.1; have := HK2.1; omega
     case rel => exact ⟨(x0_2.extract ((ji35) : Int).toNat x0_2.size), (y656), (wrap64 (x10_2 + 1)), (by first | rfl | (simp; done) | (simp only [← hji35] <;> (first | rfl | simp)) | (simp [*]; done)), zJJ, H', ⟨by have := HJ8.1; have := HK2.1; omega⟩, ⟨zR HO_9.1⟩, ⟨zB3⟩⟩

/-! ### strings_Split: function 24 -/
def strings_Split.f (k : Nat) (a0 : ByteArray) (a1 : ByteArray) : Option (List ByteArray) := (strings_genSplit.f k a0 a1 0 (-1)).bind fun t661 => (some t661)
theorem strings_Split.mono : ∀ a0 a1 k, LeO (strings_Split.f k a0 a1) (strings_Split.f (k + 1) a0 a1) := by
 intro a0 a1 k
 unfold strings_Split.f
 have mo0 := @strings_genSplit.mono
 exact zL
theorem strings_Split.calls (k : Nat) (a0 : ByteArray) (a1 : ByteArray) (r : List ByteArray) (w : World) (h : strings_Split.f k a0 a1 = some r) :
  Calls Tryd.prog 24 #[.string a0, .string a1] w fun e w' => ∃ v0_ : Value, e = .returned (v0_) ∧ Kd.R Kd.string 9 w' w.heap.size (fun _ => True) v0_ r ∧ Below w.heap.size w w' := by
 have HB := zM (Below.refl w.heap.size w)
 unfold strings_Split.f at h
 have H := h
 clear h
 replace H := zO H
 obtain ⟨t661, A3, H⟩ := H
 obtain rfl := Option.some.inj H
 go_enter Tryd.func24, Tryd.ntmps24
 go_wp2_with (first | ((with_reducible refine gate_callee (f := 39) rfl ?_); refine goesL_ (some 7) rfl rfl Tryd.func39 (by kernel_rfl) rfl #[.string a0, .string a1, .int .i64 0, .int .i64 (-1)] rfl zT ?_; (with_reducible refine (strings_genSplit.calls k a0 a1 0 (-1) t661 _ A3.1).mono ?_); rintro e w4 ⟨v662, rfl, ho0, hb⟩; refine ⟨_, rfl, ?_⟩; have HO663 := zM (Kd.R_lower ho0 (below_size zB3)); replace HB := zM (below_step zB3 hb); clear hb ho0))
 go_ret
 exact ⟨_, zE, zR HO663.1, zB3⟩

/-! ### impl_number: function 25 -/
mutual
def impl_number.j0 : Nat → ByteArray → Bool → Option (Int × Bool)
 | 0, _, _ => none
 | k + 1, x0, x15 => if x15 = true then (some (0, false)) else (impl_number.l0 k x0 0 (x0.size : Int) 0)
def impl_number.l0 : Nat → ByteArray → Int → Int → Int → Option (Int × Bool)
 | 0, _, _, _, _ => none
 | k + 1, x0, x6, x17, x18 => if x18 < x17 then (if 0 ≤ x18 then (if x18 < (x0.size : Int) then (if (bt x0 x18) < 48 then (some (0, false)) else (if (bt x0 x18) > 57 then (some (0, false)) else (impl_number.l0 k x0 (wrap64 ((wrap64 (10 * x6)) + (((bt x0 x18) - 48) % 256))) x17 (wrap64 (x18 + 1))))) else (none)) else (none)) else ((impl_digits.f k x6).bind fun t664 => (some (x6, (t664.toList == x0.toList))))
end
def impl_number.f (k : Nat) (a0 : ByteArray) (a1 : Int) : Option (Int × Bool) := if a0.toList = ([] : List UInt8) then (impl_number.j0 k a0 true) else (impl_number.j0 k a0 (decide ((a0.size : Int) > a1)))
theorem impl_number.mono_l : ∀ k, (∀ y0 y1, LeO (impl_number.j0 k y0 y1) (impl_number.j0 (k + 1) y0 y1)) ∧ (∀ y0 y1 y2 y3, LeO (impl_number.l0 k y0 y1 y2 y3) (impl_number.l0 (k + 1) y0 y1 y2 y3))
 | 0 => ⟨fun _ _ r h => by simp [impl_number.j0] at h, fun _ _ _ _ r h => by simp [impl_number.l0] at h⟩
 | k + 1 => by
  obtain ⟨ih0, ih1⟩ := impl_number.mono_l k
  refine ⟨?_, ?_⟩
  ·intros
   unfold impl_number.j0
   have mo0 := @impl_digits.mono
   exact zL
  ·intros
   unfold impl_number.l0
   have mo0 := @impl_digits.mono
   exact zL
theorem impl_number.mono : ∀ a0 a1 k, LeO (impl_number.f k a0 a1) (impl_number.f (k + 1) a0 a1) := by
 intro a0 a1 k
 obtain ⟨ih0, ih1⟩ := impl_number.mono_l k
 unfold impl_number.f
 have mo0 := @impl_digits.mono
 exact zL
theorem impl_number.calls (k : Nat) (a0 : ByteArray) (a1 : Int) (r1 : Int) (r2 : Bool) (w : World) (h : impl_number.f k a0 a1 = some (r1, r2)) :
  Calls Tryd.prog 25 #[.string a0, .int .i64 a1] w fun e w' => e = .returned (.tuple #[.int .i64 r1, .bool r2]) ∧ Drawn0 w w' := by
 unfold impl_number.f at h
 have H := h
 clear h
 have HC3 := zM H
 clear H
 go_enter Tryd.func25, Tryd.ntmps25
 go_upto_region 1 with (fail)
 go_cut [15] (fun v15 wc => ∃ (kq : Nat) (x15_2 : Bool), v15 = .bool x15_2 ∧ Aside0 (impl_number.j0 kq a0 x15_2 = some (r1, r2)) ∧ Aside0 (kq ≤ k) ∧ Drawn0 w wc)
 case first =>
  have H := HC3.1
  clear HC3
  by_cases c4 : a0.toList = ([] : List UInt8)
  ·rw [if_pos c4] at H
   have c4b0 : (a0.toList == ([] : List UInt8)) = true := beq_iff_eq.mpr c4
   have c4b1 : (a0.toList != ([] : List UInt8)) = false := bne_eq_false_iff_eq.mpr c4
   clear c4
   (first | rw [c4b0] | (simp only [i64_w, i32_w]; rw [c4b0]) | skip)
   have H' := zM H
   clear H
   go_wp2
   go_meet
   case rel => exact ⟨_, (true), zJJ, H', ⟨by first | omega | exact Nat.le_refl _⟩, zDD⟩
  rw [if_neg c4] at H
  have c4b0 : (a0.toList == ([] : List UInt8)) = false := beq_eq_false_iff_ne.mpr c4
  have c4b1 : (a0.toList != ([] : List UInt8)) = true := bne_iff_ne.mpr c4
  (first | rw [c4b0] | (simp only [i64_w, i32_w]; rw [c4b0]) | skip)
  have H' := zM H
  clear H
  go_wp2
  go_meet
  case rel => exact ⟨_, (decide ((a0.size : Int) > a1)), zJJ, H', ⟨by first | omega | exact Nat.le_refl _⟩, zDD⟩
 case rest =>
  clear HC3
  obtain ⟨kq, x15_2, rfl, HA, HJ2, ⟨mc2, rfl⟩⟩ := hcut
  cases kq with
  | zero => exact absurd HA.1 (by simp [impl_number.j0])
  | succ kj2 =>
   have H := HA.1
   clear HA
   simp only [impl_number.j0] at H
   by_cases c5 : x15_2 = true
   ·subst c5
    rw [if_pos rfl] at H
    simp only [Option.some.injEq, Prod.mk.injEq] at H
    obtain ⟨rfl, rfl⟩ := H
    go_wp2
    go_ret2
    exact ⟨zJJ, zDD⟩
   replace c5 := Bool.eq_false_iff.mpr c5
   subst c5
   rw [if_neg zF] at H
   have H' := zM H
   clear H
   go_wp2
   go_loopg [6, 18] kj2 (fun kq v6 v18 w' => ∃ (x6_2 : Int) (x18_2 : Int), v6 = .int .i64 x6_2 ∧ v18 = .int .i64 x18_2 ∧ Aside0 (impl_number.l0 kq a0 x6_2 (a0.size : Int) x18_2 = some (r1, r2)) ∧ Aside0 (kq ≤ kj2) ∧ Drawn0 w w')
   case atStart => exact ⟨(0), (0), zJJ, zJJ, H', ⟨Nat.le_refl _⟩, zDD⟩
   case round =>
    clear H'
    obtain ⟨x6_2, x18_2, rfl, rfl, HA, HK2, ⟨m2, rfl⟩⟩ := hrel
    cases gk with
    | zero => exact absurd HA.1 (by simp [impl_number.l0])
    | succ k2 =>
     have H := HA.1
     clear HA
     simp only [impl_number.l0] at H
     by_cases c6 : x18_2 < (a0.size : Int)
     rotate_left
     ·rw [if_neg c6] at H
      have c6b0 := decide_eq_false c6
      clear c6
      replace H := zO H
      obtain ⟨t664, A14, H⟩ := H
      simp only [Option.some.injEq, Prod.mk.injEq] at H
      obtain ⟨rfl, rfl⟩ := H
      go_wp2_with (first | ((with_reducible refine gate_callee (f := 40) rfl ?_); refine goesL_ (some 42) rfl rfl Tryd.func40 (by kernel_rfl) rfl #[.int .i64 x6_2] rfl zT ?_; (with_reducible refine (impl_digits.calls k2 x6_2 t664 _ A14.1).mono ?_); rintro e w' ⟨rfl, ⟨nd, rfl⟩⟩; refine ⟨_, rfl, ?_⟩))
      go_ret2
      exact ⟨zJJ, zDD⟩
     rw [if_pos c6] at H
     have c6b0 := decide_eq_true c6
     clear c6
     replace H := zIt H
     obtain ⟨c7b0, H⟩ := H
     replace H := zIt H
     obtain ⟨c8b0, H⟩ := H
     by_cases c10 : (bt a0 x18_2) < 48
     ·rw [if_pos c10] at H
      have c10b0 := decide_eq_true c10
      clear c10
      simp only [Option.some.injEq, Prod.mk.injEq] at H
      obtain ⟨rfl, rfl⟩ := H
      have p9 : 0 ≤ (x18_2 : Int) := zA
      have q9 : x18_2 < (a0.size : Int) := zA
      have hx9 := bt_at a0 x18_2
      replace p9 := eq_true p9
      replace q9 := eq_true q9
      go_wp2
      go_ret2
      exact ⟨zJJ, zDD⟩
     rw [if_neg c10] at H
     have c10b0 := decide_eq_false c10
     clear c10
     by_cases c12 : (bt a0 x18_2) > 57
     ·rw [if_pos c12] at H
      have c12b0 := decide_eq_true c12
      clear c12
      simp only [Option.some.injEq, Prod.mk.injEq] at H
      obtain ⟨rfl, rfl⟩ := H
      have p9 : 0 ≤ (x18_2 : Int) := zA
      have q9 : x18_2 < (a0.size : Int) := zA
      have hx9 := bt_at a0 x18_2
      replace p9 := eq_true p9
      replace q9 := eq_true q9
      have p11 : 0 ≤ (x18_2 : Int) := zA
      have q11 : x18_2 < (a0.size : Int) := zA
      have hx11 := bt_at a0 x18_2
      replace p11 := eq_true p11
      replace q11 := eq_true q11
      go_wp2
      go_ret2
      exact ⟨zJJ, zDD⟩
     rw [if_neg c12] at H
     have c12b0 := decide_eq_false c12
     clear c12
     have H' := zM H
     clear H
     have p9 : 0 ≤ (x18_2 : Int) := zA
     have q9 : x18_2 < (a0.size : Int) := zA
     have hx9 := bt_at a0 x18_2
     replace p9 := eq_true p9
     replace q9 := eq_true q9
     have p11 : 0 ≤ (x18_2 : Int) := zA
     have q11 : x18_2 < (a0.size : Int) := zA
     have hx11 := bt_at a0 x18_2
     replace p11 := eq_true p11
     replace q11 := eq_true q11
     have p13 : 0 ≤ (x18_2 : Int) := zA
     have q13 : x18_2 < (a0.size : Int) := zA
     have hx13 := bt_at a0 x18_2
     replace p13 := eq_true p13
     replace q13 := eq_true q13
     go_wp2
     go_roundg k2
     case measure => have := HJ2.1; have := HK2.1; omega
     case rel => exact ⟨(wrap64 ((wrap64 (10 * x6_2)) + (((bt a0 x18_2) - 48) % 256))), (wrap64 (x18_2 + 1)), zJJ, zJJ, H', ⟨by have := HJ2.1; have := HK2.1; omega⟩, zDD⟩

/-! ### impl_from: function 26 -/
def impl_from.f (a0 : Int) (a1 : Int) (a2 : Int) : Option (Bool) := if a0 ≥ a1 then (some (decide (a0 ≤ a2))) else (some false)
theorem impl_from.calls (a0 : Int) (a1 : Int) (a2 : Int) (r : Bool) (w : World) (h : impl_from.f a0 a1 a2 = some r) :
  Calls Tryd.prog 26 #[.int .i64 a0, .int .i64 a1, .int .i64 a2] w fun e w' => e = .returned (.bool r) ∧ Drawn0 w w' := by
 unfold impl_from.f at h
 have H := h
 clear h
 by_cases c4 : a0 ≥ a1
 ·rw [if_pos c4] at H
  have c4b0 := decide_eq_true c4
  clear c4
  obtain rfl := Option.some.inj H
  go_enter Tryd.func26, Tryd.ntmps26
  go_wp2
  go_ret
  exact ⟨zJJ, zDD⟩
 rw [if_neg c4] at H
 have c4b0 := decide_eq_false c4
 clear c4
 obtain rfl := Option.some.inj H
 go_enter Tryd.func26, Tryd.ntmps26
 go_wp2
 go_ret
 exact ⟨zJJ, zDD⟩

end Go.Proofs.YtaakcbgpmabaaaaDoor.PFnStories
