-- made by wip/tools/myprint.py out of the seat's translation
import Derived.Test.YtgbjengnkbomoaaPFnRacesx0
namespace Go.Proofs.Ytgbjengnkbomoaa.PFnRaces
open Go.RowKit Go.Proofs.YtgbjengnkbomoaaW.PrintWords Go.Proofs.YtgbjengnkbomoaaW.PrintLast Go.Proofs.YtgbjengnkbomoaaW.PrintMore
attribute [local go_sem] max2_int min2_int max_two min_two max_three min_three max_four min_four   -- for this text's walks alone
set_option linter.unusedVariables false
set_option linter.unusedSimpArgs false
set_option maxHeartbeats 8000000
set_option maxRecDepth 100000

/-! ### spec_l20Swap: function 40 -/
def spec_l20Swap.f (a0_0 : Int) (a0_1 : Int) (a0_2 : Int) (a0_3 : Int) (a0_4 : Int) : Option (Bool) := if a0_3 ≥ 0 then (some (decide (a0_4 ≥ 0))) else (some false)
theorem spec_l20Swap.calls (a0_0 : Int) (a0_1 : Int) (a0_2 : Int) (a0_3 : Int) (a0_4 : Int) (r : Bool) (w : World) (h : spec_l20Swap.f a0_0 a0_1 a0_2 a0_3 a0_4 = some r) :
  Calls Try.prog 40 #[.agg #[.int .i64 a0_0, .int .i64 a0_1, .int .i64 a0_2, .int .i64 a0_3, .int .i64 a0_4]] w fun e w' => e = .returned (.bool r) ∧ Below w.heap.size w w' := by
 have hu31 := Try.underlying31
 have HB := zM (Below.refl w.heap.size w)
 unfold spec_l20Swap.f at h
 have H := h
 clear h
 by_cases c2 : a0_3 ≥ 0
 ·rw [if_pos c2] at H
  have c2b0 := decide_eq_true c2
  clear c2
  obtain rfl := Option.some.inj H
  go_enter Try.func40, Try.ntmps40
  go_wp2_with (first | ((with_reducible refine zBx 1 31 #[.int .i64 a0_0, .int .i64 a0_1, .int .i64 a0_2, .int .i64 a0_3, .int .i64 a0_4] ?_); intro gb668 hg w3 hbox hb; have BK668 := zM hbox; have GW668 := zM (zW hg (below_size zB1)); have GE668 := zM (zW hg (below_size zB1)); replace HB := zM (below_step zB1 hb); clear hb hbox hg; have hcz4 := zc_5 (w := w3) BK668.1))
  go_ret
  exact ⟨zE, zB1⟩
 rw [if_neg c2] at H
 have c2b0 := decide_eq_false c2
 clear c2
 obtain rfl := Option.some.inj H
 go_enter Try.func40, Try.ntmps40
 go_wp2_with (first | ((with_reducible refine zBx 1 31 #[.int .i64 a0_0, .int .i64 a0_1, .int .i64 a0_2, .int .i64 a0_3, .int .i64 a0_4] ?_); intro gb668 hg w5 hbox hb; have BK668 := zM hbox; have GW668 := zM (zW hg (below_size zB1)); have GE668 := zM (zW hg (below_size zB1)); replace HB := zM (below_step zB1 hb); clear hb hbox hg; have hcz6 := zc_5 (w := w5) BK668.1))
 go_ret
 exact ⟨zE, zB1⟩

/-! ### spec_l1Max: function 63 -/
def spec_l1Max.f (a0 : Int) (a1 : Int) : Option (Int) := if a0 > a1 then (some a0) else (some a1)
theorem spec_l1Max.calls (a0 : Int) (a1 : Int) (r : Int) (w : World) (h : spec_l1Max.f a0 a1 = some r) :
  Calls Try.prog 63 #[.int .i64 a0, .int .i64 a1] w fun e w' => e = .returned (.int .i64 r) ∧ Drawn0 w w' := by
 unfold spec_l1Max.f at h
 have H := h
 clear h
 by_cases c3 : a0 > a1
 ·rw [if_pos c3] at H
  have c3b0 := decide_eq_true c3
  clear c3
  obtain rfl := Option.some.inj H
  go_enter Try.func63, Try.ntmps63
  go_wp2
  go_ret
  exact ⟨zJJ, zDD⟩
 rw [if_neg c3] at H
 have c3b0 := decide_eq_false c3
 clear c3
 obtain rfl := Option.some.inj H
 go_enter Try.func63, Try.ntmps63
 go_wp2
 go_ret
 exact ⟨zJJ, zDD⟩

/-! ### spec_ClockJoin: function 41 -/
def spec_ClockJoin.l0 : Nat → List Int → List Int → List Int → Int → Option (List Int)
 | 0, _, _, _, _ => none
 | k + 1, x0, x1, x5, x6 => if x6 < (x0.length : Int) then (if (x0.length : Int) = (x1.length : Int) then (if 0 ≤ x6 then (if x6 < (x1.length : Int) then ((spec_l1Max.f (rd x0 x6) (rd x1 x6)).bind fun t677 => (if x6 < (x5.length : Int) then (spec_ClockJoin.l0 k x0 x1 (x5.set (x6 : Int).toNat t677) (wrap64 (x6 + 1))) else (none))) else (none)) else (none)) else (some x5)) else (some x5)
def spec_ClockJoin.f (k : Nat) (l0 : List Int) (l1 : List Int) : Option (List Int) := (some (([] : List Int) : List Int)).bind fun y669 => (if y669.length + l0.length < 17592186044416 then (spec_ClockJoin.l0 k l0 l1 (y669 ++ l0) 0) else (none))
theorem spec_ClockJoin.mono_l : ∀ k, (∀ y0 y1 y2 y3, LeO (spec_ClockJoin.l0 k y0 y1 y2 y3) (spec_ClockJoin.l0 (k + 1) y0 y1 y2 y3))
 | 0 => fun _ _ _ _ r h => by simp [spec_ClockJoin.l0] at h
 | k + 1 => by
  have ih0 := spec_ClockJoin.mono_l k
  ·intros
   unfold spec_ClockJoin.l0
   exact zL
theorem spec_ClockJoin.mono : ∀ a0 a1 k, LeO (spec_ClockJoin.f k a0 a1) (spec_ClockJoin.f (k + 1) a0 a1) := by
 intro a0 a1 k
 have ih0 := spec_ClockJoin.mono_l k
 unfold spec_ClockJoin.f
 exact zL
def spec_ClockJoin.T5 : Bool × List (List Nat × List Nat) := (true, [([], []), ([], []), ([], []), ([], []), ([2, 3], [2, 3]), ([4], [4]), ([], []), ([], []), ([6, 7], [6, 7]), ([8], [8]), ([5, 9], [5, 9]), ([0, 1, 0, 1, 2, 3, 4, 5, 6, 7, 8, 9, 10], [0, 1]), ([11, 10, 10, 0, 1, 2, 3, 4, 5, 6, 7, 8, 9, 10], [10, 11])])
def spec_ClockJoin.B5 : List Nat := [0, 0, 0, 0, 12, 28, 0, 0, 192, 448, 1020, 2047, 4095]
theorem spec_ClockJoin.tab5 : rtab .any (opsOf Try.f41 5) = spec_ClockJoin.T5 := by kernel_rfl
theorem spec_ClockJoin.bits5 : waitsOk spec_ClockJoin.T5.2 spec_ClockJoin.B5 = true := by kernel_rfl
theorem spec_ClockJoin.calls (k : Nat) (A0 : Option Addr) (c0 : Nat) (l0 : List Int) (A1 : Option Addr) (c1 : Nat) (l1 : List Int) (r : List Int) (w : World) (hr0 : Kd.C (Kd.int .i64) w A0 l0.length l0) (hc0 : l0.length ≤ c0) (hr1 : Kd.C (Kd.int .i64) w A1 l1.length l1) (hc1 : l1.length ≤ c1) (h : spec_ClockJoin.f k l0 l1 = some r) :
  Calls Try.prog 41 #[.slice A0 l0.length c0, .slice A1 l1.length c1] w fun e w' => ∃ v0_ : Value, e = .returned (v0_) ∧ Kd.R (Kd.int .i64) 3 w' w.heap.size (fun _ => True) v0_ r ∧ Below w.heap.size w w' := by
 have HR0 := zM hr0
 have HC0 := zM hc0
 clear hr0 hc0
 have HR1 := zM hr1
 have HC1 := zM hc1
 clear hr1 hc1
 have HB := zM (Below.refl w.heap.size w)
 unfold spec_ClockJoin.f at h
 have H := h
 clear h
 replace H := zY H
 obtain ⟨y669, Ny669, H⟩ := H
 replace H := zIn H
 obtain ⟨LMc3, H⟩ := H
 generalize hy672 : ((y669 ++ l0) : List Int) = y672 at H
 have Ny672 := zM hy672.symm
 clear hy672
 have H' := zM H
 clear H
 go_enter Try.func41, Try.ntmps41
 go_wp2_with (first | ((with_reducible refine gate_dst (N := 7) rfl ?_); (try (refine gate_guard (by rfl) ?_; dsimp only)); refine Kd.R_lit (Kd.int .i64) _ 3 ?hg (N := 7) ?hd (xs := ([] : List Int)) (inner := []) (ok := fun _ => True) (okp := fun _ => True) ?hr ?hp (fun _ hk => hk) trivial (Below.refl _ _) (Nat.le_refl _) (by simp) ?_; (case hd => rfl); (case hg => rfl); (case hr => exact zHH); (case hp => exact (Reps.none _ _)); intro v670 w4 ho5 hb hg_ hnew_; clear hg_ hnew_; (first | rw [← Ny669.1] at ho5 | (simp only [Int.reduceToNat] at ho5; rw [← Ny669.1] at ho5)); have HO671 := zM (Kd.R_lower ho5 (below_size zB1)); replace HB := zM (below_step zB1 hb); clear hb ho5) | ((with_reducible refine gate_builtin (b := .append) (xs := #[.tmp 7, .tmp 8]) rfl ?_); (try (refine gate_guard (by rfl) ?_; dsimp only)); at_builtin; refine Kd.R_append_rows (Kd.int .i64) (w0 := w) w.heap.size rfl (.tmp 7) (.tmp 8) 29 3 (.int .i64 0) 8 rfl Try.underlying29 info3 rfl (by decide) (by omega) v670 y669 l0 _ _ _ (fun _ => True) (fun _ => False) rfl rfl ?aO ?aR (fun _ _ h => h) (fun _ h => h.elim) ?aF ?aB ?aS ?aL ?_; (case aR => exact zC (Kd.C_below HR0.1 HB.1)); (case aB => exact zB1); (case aF => exact (fun _ _ => trivial)); (case aO => exact (zR HO671.1)); (case aS => exact (below_size zB1)); (case aL => have := LMc3.out; omega); intro v673 w6 ho hb hg hat; rw [← Ny672.1] at ho; replace HB := zM hb; have HO674 := zM ho; clear HO671; clear ho hb hg hat))
 go_loopg [6] k (fun kq v6 w' => ∃ (x5_1 : List Int) (x6_1 : Int), v6 = .int .i64 x6_1 ∧ Aside0 (spec_ClockJoin.l0 kq l0 l1 x5_1 x6_1 = some r) ∧ Aside0 (kq ≤ k) ∧ Aside0 (Kd.R (Kd.int .i64) 3 w' w.heap.size (fun _ => True) v673 x5_1) ∧ Aside0 (Below w.heap.size w w'))
 case atStart => exact ⟨(y672), (0), zJJ, H', ⟨Nat.le_refl _⟩, ⟨zR HO674.1⟩, ⟨zB1⟩⟩
 case round =>
  clear H'
  obtain ⟨x5_1, x6_1, rfl, HA, HK1, HO_5, HB⟩ := hrel
  cases gk with
  | zero => exact absurd HA.1 (by simp [spec_ClockJoin.l0])
  | succ k1 =>
   have H := HA.1
   clear HA
   simp only [spec_ClockJoin.l0] at H
   by_cases c7 : x6_1 < (l0.length : Int)
   rotate_left
   ·rw [if_neg c7] at H
    have c7b0 := decide_eq_false c7
    clear c7
    obtain rfl := Option.some.inj H
    go_wp2
    go_ret
    exact ⟨_, zE, zR HO_5.1, zB1⟩
   rw [if_pos c7] at H
   have c7b0 := decide_eq_true c7
   clear c7
   by_cases c8 : (l0.length : Int) = (l1.length : Int)
   rotate_left
   ·rw [if_neg c8] at H
    have c8b0 : ((l0.length : Int) == (l1.length : Int)) = false := beq_eq_false_iff_ne.mpr c8
    have c8b1 : ((l0.length : Int) != (l1.length : Int)) = true := bne_iff_ne.mpr c8
    have c8b2 : (l0.length == l1.length) = false := by first | simpa using c8 | (simp at c8 ⊢; omega)
    obtain rfl := Option.some.inj H
    go_wp2
    go_ret
    exact ⟨_, zE, zR HO_5.1, zB1⟩
   rw [if_pos c8] at H
   have c8b0 : ((l0.length : Int) == (l1.length : Int)) = true := beq_iff_eq.mpr c8
   have c8b1 : ((l0.length : Int) != (l1.length : Int)) = false := bne_eq_false_iff_eq.mpr c8
   have c8b2 : (l0.length == l1.length) = true := by first | simpa using c8 | (simp at c8 ⊢; omega)
   clear c8
   replace H := zIt H
   obtain ⟨c9b0, H⟩ := H
   replace H := zIt H
   obtain ⟨c10b0, H⟩ := H
   replace H := zO H
   obtain ⟨t677, A11, H⟩ := H
   replace H := zIt H
   obtain ⟨c12b0, H⟩ := H
   generalize hy678 : ((x5_1.set (x6_1 : Int).toNat t677) : List Int) = y678 at H
   have Ny678 := zM hy678.symm
   clear hy678
   have H' := zM H
   clear H
   try go_wp2
   replace HO_5 := zM (Kd.R_drew HO_5.1)
   replace HB := zM (below_drew1 HB.1)
   obtain ⟨p675, q675, ad675, e675, hx675_0⟩ := zRd (Kd.at_int HR0.1 x6_1)
   have hw675_0 := hx675_0
   cases e675
   replace hx675_0 := zHx HB.1 hx675_0
   obtain ⟨p676, q676, ad676, e676, hx676_0⟩ := zRd (Kd.at_int HR1.1 x6_1)
   have hw676_0 := hx676_0
   cases e676
   replace hx676_0 := zHx HB.1 hx676_0
   refine start_ (n := 13) (S := fun w' => w'.cell? (ad675.add (x6_1).toNat) = some (.int .i64 (rd l0 x6_1)) ∧ w'.cell? (ad676.add (x6_1).toNat) = some (.int .i64 (rd l1 x6_1))) (ds := [12]) #[false, false, false, false, false, false, false, false, false, false, false, false, false] (by kernel_rfl) rfl rfl ⟨((HB.1.cell (World.block_lt_of_cell? w _ hw675_0)).trans hw675_0), ((HB.1.cell (World.block_lt_of_cell? w _ hw676_0)).trans hw676_0)⟩ (fun hHeld => ?_); refine with_tabW spec_ClockJoin.tab5 spec_ClockJoin.bits5 (fun HT_ HW_ => ?_)
   generalize wr.drew = w14 at HO_5 HB hx675_0 hx676_0 hHeld ⊢
   refine zPu 0 ?_
   refine zPu 1 ?_
   refine zPu 2 ?_
   refine zPu 3 ?_
   refine zPu 4 ?_
   refine zPu 6 ?_
   refine zPu 7 ?_
   refine zPu 8 ?_
   refine zTk2 5 hHeld ?_
   refine zTk2 9 hHeld ?_
   refine zOn 10 (some 33) fun K hK => ?_
   refine zGs Try.func63 #[.int .i64 (rd l0 x6_1), .int .i64 (rd l1 x6_1)] ?_
   with_reducible refine (spec_l1Max.calls (rd l0 x6_1) (rd l1 x6_1) t677 _ A11.1).mono ?_
   rintro e w' ⟨rfl, ⟨nd, rfl⟩⟩
   refine ⟨_, rfl, ?_⟩
   have p13 : 0 ≤ (x6_1 : Int) := zA
   have q13 : (x6_1 : Int) < ((x5_1.length : Int) : Int) := zA
   obtain ⟨go13, co13, eo13, gb13, gl13, cl13, HG13⟩ := Kd.R_form HO_5.1 (by omega)
   (first | cases eo13 | (injection eo13 with ea_ en_ ec_; (first | subst ea_ | (injection ea_ with ea_; subst ea_)); subst ec_; clear en_))
   have GB13 := zM gb13
   have GG13 := zM HG13
   clear gb13 gl13 HG13
   obtain ⟨hx13_0, hf13_0⟩ := Kd.R_celln 0 HO_5.1 (x6_1 : Int) p13 q13
   replace p13 := eq_true p13
   replace q13 := eq_true q13
   have HP15 := Kd.R_putn HO_5.1 (x6_1 : Int) t677
   rw [← Ny678.1] at HP15
   have HQ15 := zM HP15
   clear HP15
   refine hK.out _ _ ⟨((HB.1.cell (World.block_lt_of_cell? w _ hw675_0)).trans hw675_0), ((HB.1.cell (World.block_lt_of_cell? w _ hw676_0)).trans hw676_0)⟩ (fun hHeld => ?_)
   clear hK K
   refine zNo ?_
   refine zPu 11 ?_
   refine last_ (i := 12) (N := none) #[true, true, true, true, true, true, true, true, true, true, true, true, true] rfl rfl (one_of HT_.1 (by kernel_rfl)) (by decide) (fun K hK => ?_)
   refine skip_ (w1 := ?_) (by rfl) rfl ?_ ?_
   rotate_left
   ·go_simp
    rfl
   refine hK.out _ _ ?_
   clear hK K
   refine done_ (done_of HT_.1 (by kernel_rfl)) ?_
   try go_wp2
   go_roundg k1
   case measure => have := HK1.1; omega
   case rel => exact ⟨(y678), (wrap64 (x6_1 + 1)), zJJ, H', ⟨by have := HK1.1; omega⟩, ⟨zR HQ15.out⟩, ⟨zB1⟩⟩

end Go.Proofs.Ytgbjengnkbomoaa.PFnRaces
