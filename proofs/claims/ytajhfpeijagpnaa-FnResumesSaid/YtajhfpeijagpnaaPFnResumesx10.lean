-- made by wip/tools/myprint.py out of the seat's translation
import Derived.Test.YtajhfpeijagpnaaPFnResumesx0
import Derived.Test.YtajhfpeijagpnaaPFnResumesx6
import Derived.Test.YtajhfpeijagpnaaPFnResumesx9
namespace Go.Proofs.Ytajhfpeijagpnaa.PFnResumes
open Go.RowKit Go.Proofs.YtajhfpeijagpnaaW.PrintWords Go.Proofs.YtajhfpeijagpnaaW.PrintLast Go.Proofs.YtajhfpeijagpnaaW.PrintMore
attribute [local go_sem] max2_int min2_int max_two min_two max_three min_three max_four min_four   -- for this text's walks alone
set_option linter.unusedVariables false
set_option linter.unusedSimpArgs false
theorem zc10_3 {w : World} {g : Nat} {a0 a1 a2 : Value} {t : TypeId} (h : w.heap[g]? = some (.cells #[a0, a1, a2] t (0, 0))) : w.cell? ⟨g, 0, none⟩ = some a0 ∧ w.cell? ⟨g, 1, none⟩ = some a1 ∧ w.cell? ⟨g, 2, none⟩ = some a2 ∧ w.frozen? ⟨g, 0, none⟩ = false ∧ w.frozen? ⟨g, 1, none⟩ = false ∧ w.frozen? ⟨g, 2, none⟩ = false := ⟨(blk_cell h 0).trans rfl, (blk_cell h 1).trans rfl, (blk_cell h 2).trans rfl, blk_frozen h 0, blk_frozen h 1, blk_frozen h 2⟩
abbrev zq10_0 : Array Bool := #[true, true, true, true, true, true, true, true, true, true, false, false]
theorem zR10 {p q : Prop} (x : q) (h : q → p := by intro h; (with_reducible repeat (first | apply Kd.R_alloc | apply Kd.R_drewN | apply Kd.R_drew)); exact h) : p := h x
theorem zK10 {p q : Prop} (x : q) (h : q → p := by intro h; (with_reducible repeat (first | refine blk_drewN ?_ _ | refine blk_drew ?_ | refine blk_alloc ?_ _)); exact h) : p := h x
theorem zA10 {p : Prop} [Decidable p] (h : decide p = true := by first | (with_reducible assumption) | assumption) : p := of_decide_eq_true h
theorem zT10 {p : Prop} (h : p := by (try simp only [List.map_toArray, List.map_cons, List.map_nil]); first | done | rfl | (simp only [List.length_drop, List.length_take]; rfl)) : p := h
theorem zC10 {p q : Prop} (x : q) (h : q → p := by intro h; repeat (first | exact h | (with_reducible refine Kd.C_alloc ?_ _) | (with_reducible refine Kd.C_drewN ?_ _) | (with_reducible refine Kd.C_drew ?_))) : p := h x
theorem zb10 {W w w1 : World} {g : Nat} {o : Obj} (x : W.heap[g]? = some o) (hb : Below w.heap.size w w1) (h : W.heap[g]? = some o → w.heap[g]? = some o := by intro h; (with_reducible repeat (first | refine blk_drewN ?_ _ | refine blk_drew ?_ | refine blk_alloc ?_ _)); exact h) : w1.heap[g]? = some o := blk_below (h x) hb
theorem zg10 {W w w1 : World} {g : Nat} {o : Obj} {row : Option Nat} (x : W.heap[g]? = some o) (hg : w.grownBy w1 row) (hne : some g ≠ row) (h : W.heap[g]? = some o → w.heap[g]? = some o := by intro h; (with_reducible repeat (first | refine blk_drewN ?_ _ | refine blk_drew ?_ | refine blk_alloc ?_ _)); exact h) : w1.heap[g]? = some o := blk_grown (h x) hg hne
theorem zP10 {p q : Prop} (x : q) (h : q → p := by intro h; (with_reducible repeat (first | refine blk_drewN ?_ _ | refine blk_drew ?_ | refine blk_alloc ?_ _)); exact h) : p := h x
theorem zV10 {a b : Act} (h : a = b := by simp only [Act.put, List.setIfInBounds_toArray, List.set_cons_zero, List.set_cons_succ, i64_w, i32_w]; rfl) : a = b := h
theorem zE10 {p : Prop} (h : p := by first | rfl | (simp [errW_none, errW_some] <;> rfl) | (simp [*, errW_none, errW_some] <;> rfl)) : p := h
theorem zB10_0 {p : Prop} (h : p := by repeat (first | (with_reducible first | exact HB.out | apply below_alloc | apply pw_below_drewN | apply below_drew1) | exact HB.out)) : p := h
theorem zB10_1 {p : Prop} (h : p := by repeat (first | (with_reducible first | exact HB.out | apply below_alloc | apply pw_below_drewN | apply below_drew1 | refine below_set ?_ GE464.out) | exact HB.out)) : p := h
theorem zB10_2 {p : Prop} (h : p := by repeat (first | (with_reducible first | exact HB.out | apply below_alloc | apply pw_below_drewN | apply below_drew1 | refine below_set ?_ GE486.out) | exact HB.out)) : p := h

/-! ### impl_HartBytes: function 44 -/
def impl_HartBytes.f (k : Nat) (l0_0 : List Int) (a0_1 : Int) (a0_2 : Int) : Option (List Int) := (impl_HartOk.f k l0_0 a0_1 a0_2).bind fun t465 => (if t465 = true then ((impl_twoBytes.f k l0_0).bind fun t466 => ((some (([(a0_1) % 256, (a0_2) % 256] : List Int) : List Int)).bind fun y469 => (if t466.length + y469.length < 140737488355328 then (some (t466 ++ y469)) else (none)))) else (some ([] : List Int)))
theorem impl_HartBytes.mono : ∀ a0 a1 a2 k, LeO (impl_HartBytes.f k a0 a1 a2) (impl_HartBytes.f (k + 1) a0 a1 a2) := by
 intro a0 a1 a2 k
 unfold impl_HartBytes.f
 repeat' first
   | (with_reducible exact impl_HartOk.mono _ _ _ _)
   | (with_reducible exact impl_twoBytes.mono _ _)
   | (with_reducible exact LeO.refl _)
   | (with_reducible exact LeO.none _)
   | (with_reducible refine LeO.ite ?_ ?_)
   | (with_reducible refine LeO.bind ?_ (fun _ => ?_))
   | exact impl_HartOk.mono _ _ _ _
   | exact impl_twoBytes.mono _ _
   | exact LeO.none _
   | refine LeO.ite ?_ ?_
   | refine LeO.bind ?_ (fun _ => ?_)
def impl_HartBytes.T3 : Bool × List (List Nat × List Nat) := (true, [([], []), ([0], [0]), ([1], [1]), ([], []), ([3], [3]), ([4], [4]), ([], []), ([6], [6]), ([7], [7]), ([5, 8], [5, 8]), ([2, 9, 2], [2, 9]), ([10, 10, 0, 1, 2, 3, 4, 5, 6, 7, 8, 9, 10], [10])])
def impl_HartBytes.B3 : List Nat := [0, 1, 3, 0, 8, 24, 0, 64, 192, 504, 1023, 2047]
theorem impl_HartBytes.tab3 : rtab .any (opsOf Try.f44 3) = impl_HartBytes.T3 := by kernel_rfl
theorem impl_HartBytes.bits3 : waitsOk impl_HartBytes.T3.2 impl_HartBytes.B3 = true := by kernel_rfl
set_option maxHeartbeats 8000000 in
set_option maxRecDepth 100000 in
theorem impl_HartBytes.calls (k : Nat) (A0_0 : Option Addr) (c0_0 : Nat) (l0_0 : List Int) (a0_1 : Int) (a0_2 : Int) (r : List Int) (w : World) (hr0_0 : Kd.C (Kd.int .i64) w A0_0 l0_0.length l0_0) (hc0_0 : l0_0.length ≤ c0_0) (h : impl_HartBytes.f k l0_0 a0_1 a0_2 = some r) :
  Calls Try.prog 44 #[.agg #[.slice A0_0 l0_0.length c0_0, .int .i64 a0_1, .int .i64 a0_2]] w fun e w' => ∃ v0_ : Value, e = .returned (v0_) ∧ Kd.R (Kd.int .u8) 5 w' w.heap.size (fun _ => True) v0_ r ∧ Below w.heap.size w w' := by
 have hu47 := Try.underlying47
 have HR0_0 := Aside0.mk hr0_0
 have HC0_0 := Aside0.mk hc0_0
 clear hr0_0 hc0_0
 have HB := Aside0.mk (Below.refl w.heap.size w)
 have H : ((impl_HartOk.f k l0_0 a0_1 a0_2).bind fun t465 => (if t465 = true then ((impl_twoBytes.f k l0_0).bind fun t466 => ((some (([(a0_1) % 256, (a0_2) % 256] : List Int) : List Int)).bind fun y469 => (if t466.length + y469.length < 140737488355328 then (some (t466 ++ y469)) else (none)))) else (some ([] : List Int)))) = some r := h
 clear h
 replace H := Option.bind_eq_some_iff.mp H
 obtain ⟨t465, A20, H⟩ := H
 replace H : (if t465 = true then ((impl_twoBytes.f k l0_0).bind fun t466 => ((some (([(a0_1) % 256, (a0_2) % 256] : List Int) : List Int)).bind fun y469 => (if t466.length + y469.length < 140737488355328 then (some (t466 ++ y469)) else (none)))) else (some ([] : List Int))) = some r := H
 have A2 := Aside0.mk A20
 clear A20
 by_cases c3 : t465 = true
 rotate_left
 ·replace c3 := Bool.eq_false_iff.mpr c3
  subst c3
  have H1 : (some ([] : List Int)) = some r := by rw [if_neg (show ¬ (false = true) by decide)] at H; exact H
  clear H
  have H := H1
  clear H1
  obtain rfl := Option.some.inj H
  go_enter Try.func44, Try.ntmps44
  go_wp2_with (first | ((with_reducible refine gate_dst (N := 1) rfl ?_); refine box_event ?hg (N := 1) ?hd (cs := #[.slice A0_0 l0_0.length c0_0, .int .i64 a0_1, .int .i64 a0_2]) (t := 47) ?hr ?_; (case hd => rfl); (case hg => rfl); (case hr => first | (go_simp; done) | (go_simp; rfl)); intro gb464 hg w16 hbox hb; have n0_ := Aside0.mk (below_step (zB10_0) hb); have n1_ := Aside0.mk (hbox); have n2_ := Aside0.mk ((by rw [hg]; exact (below_size (zB10_0)) : w.heap.size ≤ gb464)); have n3_ := Aside0.mk ((by rw [hg]; exact (below_size (zB10_0)) : w.heap.size ≤ gb464)); clear HB; have HB := n0_; have BK464 := n1_; have GW464 := n2_; have GE464 := n3_; clear n0_ n1_ n2_ n3_; clear hb hbox hg; obtain ⟨hcz17_0, hcz17_1, hcz17_2, hfz17_0, hfz17_1, hfz17_2⟩ := zc10_3 (w := w16) BK464.out) | ((with_reducible refine gate_callee (f := 74) rfl ?_); refine goesL_ (some 4) rfl rfl Try.func74 (by kernel_rfl) rfl #[.agg #[.slice A0_0 l0_0.length c0_0, .int .i64 a0_1, .int .i64 a0_2]] rfl zT10 ?_; (with_reducible refine (impl_HartOk.calls k _ _ l0_0 a0_1 a0_2 false _ ?side1 ?side2 A2.out).mono ?_); (case side1 => exact zC10 (Kd.C_below HR0_0.out HB.out)); (case side2 => exact HC0_0.out); rintro e w18 ⟨rfl, hb⟩; refine ⟨_, rfl, ?_⟩; have n0_ := Aside0.mk (zb10 BK464.out hb); have n1_ := Aside0.mk (below_step (zB10_1) hb); clear BK464; clear HB; have BK464 := n0_; have HB := n1_; clear n0_ n1_; (try clear hb); (try clear hb2); (try clear hk); (try clear hi)))
  go_ret
  exact ⟨_, zE10, by first | exact Kd.R_nil _ _ _ _ _ | exact Kd.N_nil _ _ _ _ _ | exact Kd.V_nil _ _ _ _ _ | exact Kd.Q_nil _ _ _ _ _ | exact Kd.S_nil _ _ _ _ _, zB10_1⟩
 subst c3
 have H1 : ((impl_twoBytes.f k l0_0).bind fun t466 => ((some (([(a0_1) % 256, (a0_2) % 256] : List Int) : List Int)).bind fun y469 => (if t466.length + y469.length < 140737488355328 then (some (t466 ++ y469)) else (none)))) = some r := by rw [if_pos rfl] at H; exact H
 clear H
 have H := H1
 clear H1
 replace H := Option.bind_eq_some_iff.mp H
 obtain ⟨t466, A40, H⟩ := H
 replace H : ((some (([(a0_1) % 256, (a0_2) % 256] : List Int) : List Int)).bind fun y469 => (if t466.length + y469.length < 140737488355328 then (some (t466 ++ y469)) else (none))) = some r := H
 have A4 := Aside0.mk A40
 clear A40
 obtain ⟨y469, hy469⟩ : ∃ y_ : List Int, y_ = (([(a0_1) % 256, (a0_2) % 256] : List Int)) := ⟨_, rfl⟩
 replace H : (if t466.length + y469.length < 140737488355328 then (some (t466 ++ y469)) else (none)) = some r := by first | (rw [hy469]; with_reducible exact H) | (have H2_ := (Option.bind_some _ _).symm.trans H; rw [hy469]; with_reducible exact H2_) | (have H2_ := (Option.bind_some _ _).symm.trans H; with_reducible exact H2_) | with_reducible exact H | (rw [hy469]; exact H) | exact H
 have Ny469 := Aside0.mk hy469
 clear hy469
 by_cases c5 : t466.length + y469.length < 140737488355328
 rotate_left
 ·rw [if_neg c5] at H
  exact absurd H (by simp)
 rw [if_pos c5] at H
 have LMc5 := Aside0.mk c5
 clear c5
 obtain ⟨y472, hy472⟩ : ∃ y_ : List Int, y_ = (t466 ++ y469) := ⟨_, rfl⟩
 replace H : (some y472) = some r := by first | (rw [hy472]; with_reducible exact H) | (have H2_ := (Option.bind_some _ _).symm.trans H; rw [hy472]; with_reducible exact H2_) | (have H2_ := (Option.bind_some _ _).symm.trans H; with_reducible exact H2_) | with_reducible exact H | (rw [hy472]; exact H) | exact H
 have Ny472 := Aside0.mk hy472
 clear hy472
 obtain rfl := Option.some.inj H
 go_enter Try.func44, Try.ntmps44
 try go_wp2_with (first | ((with_reducible refine gate_dst (N := 1) rfl ?_); refine box_event ?hg (N := 1) ?hd (cs := #[.slice A0_0 l0_0.length c0_0, .int .i64 a0_1, .int .i64 a0_2]) (t := 47) ?hr ?_; (case hd => rfl); (case hg => rfl); (case hr => first | (go_simp; done) | (go_simp; rfl)); intro gb464 hg w6 hbox hb; have n0_ := Aside0.mk (below_step (zB10_0) hb); have n1_ := Aside0.mk (hbox); have n2_ := Aside0.mk ((by rw [hg]; exact (below_size (zB10_0)) : w.heap.size ≤ gb464)); have n3_ := Aside0.mk ((by rw [hg]; exact (below_size (zB10_0)) : w.heap.size ≤ gb464)); clear HB; have HB := n0_; have BK464 := n1_; have GW464 := n2_; have GE464 := n3_; clear n0_ n1_ n2_ n3_; clear hb hbox hg; obtain ⟨hcz7_0, hcz7_1, hcz7_2, hfz7_0, hfz7_1, hfz7_2⟩ := zc10_3 (w := w6) BK464.out) | ((with_reducible refine gate_callee (f := 74) rfl ?_); refine goesL_ (some 4) rfl rfl Try.func74 (by kernel_rfl) rfl #[.agg #[.slice A0_0 l0_0.length c0_0, .int .i64 a0_1, .int .i64 a0_2]] rfl zT10 ?_; (with_reducible refine (impl_HartOk.calls k _ _ l0_0 a0_1 a0_2 true _ ?side1 ?side2 A2.out).mono ?_); (case side1 => exact zC10 (Kd.C_below HR0_0.out HB.out)); (case side2 => exact HC0_0.out); rintro e w8 ⟨rfl, hb⟩; refine ⟨_, rfl, ?_⟩; have n0_ := Aside0.mk (zb10 BK464.out hb); have n1_ := Aside0.mk (below_step (zB10_1) hb); clear BK464; clear HB; have BK464 := n0_; have HB := n1_; clear n0_ n1_; (try clear hb); (try clear hb2); (try clear hk); (try clear hi)))
 have n0_ := Aside0.mk (blk_drew BK464.out)
 have n1_ := Aside0.mk (below_drew1 HB.out)
 clear BK464 HB
 have BK464 := n0_
 have HB := n1_
 clear n0_ n1_
 refine start_ (n := 12) (S := fun w' => w'.cell? ⟨gb464, 0, none⟩ = some (.slice A0_0 l0_0.length c0_0) ∧ w'.cell? ⟨gb464, 1, none⟩ = some (.int .i64 a0_1) ∧ w'.cell? ⟨gb464, 2, none⟩ = some (.int .i64 a0_2)) (ds := []) #[false, false, false, false, false, false, false, false, false, false, false, false] (by kernel_rfl) rfl rfl ⟨(blk_cell BK464.out 0).trans rfl, (blk_cell BK464.out 1).trans rfl, (blk_cell BK464.out 2).trans rfl⟩ (fun hHeld => ?_); refine with_tabW impl_HartBytes.tab3 impl_HartBytes.bits3 (fun HT_ HW_ => ?_)
 generalize w8.drew = w9 at BK464 HB hHeld ⊢
 refine pure_ (i := 0) (N := some 6) (v := ?_) (a' := ?_) #[true, false, false, false, false, false, false, false, false, false, false, false] rfl rfl (any_of HT_.out (by kernel_rfl)) (fun _ _ _ h => h) (Or.inl ⟨by rfl, ?_⟩) ?_ ?_
 rotate_left
 ·intro w'
  go_simp
  with_reducible rfl
 rotate_left
 ·exact zV10
 refine pure_ (i := 3) (N := some 9) (v := ?_) (a' := ?_) #[true, false, false, true, false, false, false, false, false, false, false, false] rfl rfl (any_of HT_.out (by kernel_rfl)) (fun _ _ _ h => h) (Or.inl ⟨by rfl, ?_⟩) ?_ ?_
 rotate_left
 ·intro w'
  go_simp
  with_reducible rfl
 rotate_left
 ·exact zV10
 refine pure_ (i := 6) (N := some 12) (v := ?_) (a' := ?_) #[true, false, false, true, false, false, true, false, false, false, false, false] rfl rfl (any_of HT_.out (by kernel_rfl)) (fun _ _ _ h => h) (Or.inl ⟨by rfl, ?_⟩) ?_ ?_
 rotate_left
 ·intro w'
  go_simp
  with_reducible rfl
 rotate_left
 ·exact zV10
 refine take_ (i := 1) (N := some 7) (v := ?_) (a' := ?_) #[true, true, false, true, false, false, true, false, false, false, false, false] rfl rfl (take_ofW HT_.out HW_.out (by kernel_rfl)) (fun _ _ _ h => h) (Or.inl ⟨by rfl, ?_⟩) hHeld ?_ ?_
 rotate_left
 ·rintro w' ⟨s0, s1, s2⟩
  go_simp
  with_reducible rfl
 rotate_left
 ·exact zV10
 refine take_ (i := 4) (N := some 10) (v := ?_) (a' := ?_) #[true, true, false, true, true, false, true, false, false, false, false, false] rfl rfl (take_ofW HT_.out HW_.out (by kernel_rfl)) (fun _ _ _ h => h) (Or.inl ⟨by rfl, ?_⟩) hHeld ?_ ?_
 rotate_left
 ·rintro w' ⟨s0, s1, s2⟩
  go_simp
  with_reducible rfl
 rotate_left
 ·exact zV10
 refine pure_ (i := 5) (N := some 11) (v := ?_) (a' := ?_) #[true, true, false, true, true, true, true, false, false, false, false, false] rfl rfl (any_of HT_.out (by kernel_rfl)) (fun _ _ _ h => h) (Or.inl ⟨by rfl, ?_⟩) ?_ ?_
 rotate_left
 ·intro w'
  go_simp
  with_reducible rfl
 rotate_left
 ·exact zV10
 refine take_ (i := 7) (N := some 13) (v := ?_) (a' := ?_) #[true, true, false, true, true, true, true, true, false, false, false, false] rfl rfl (take_ofW HT_.out HW_.out (by kernel_rfl)) (fun _ _ _ h => h) (Or.inl ⟨by rfl, ?_⟩) hHeld ?_ ?_
 rotate_left
 ·rintro w' ⟨s0, s1, s2⟩
  go_simp
  with_reducible rfl
 rotate_left
 ·exact zV10
 refine pure_ (i := 8) (N := some 14) (v := ?_) (a' := ?_) #[true, true, false, true, true, true, true, true, true, false, false, false] rfl rfl (any_of HT_.out (by kernel_rfl)) (fun _ _ _ h => h) (Or.inl ⟨by rfl, ?_⟩) ?_ ?_
 rotate_left
 ·intro w'
  go_simp
  with_reducible rfl
 rotate_left
 ·exact zV10
 refine join_ (σ := Value × Value) 2 zq10_0 (fun s_ => [(8, s_.1), (15, s_.2)]) (fun s_ w' => (w'.cell? ⟨gb464, 0, none⟩ = some (.slice A0_0 l0_0.length c0_0) ∧ w'.cell? ⟨gb464, 1, none⟩ = some (.int .i64 a0_1) ∧ w'.cell? ⟨gb464, 2, none⟩ = some (.int .i64 a0_2)) ∧ (Kd.R (Kd.int .u8) 5 w' w.heap.size (fun k_ => some k_ ≠ (s_.2 : Value).ownBlock) s_.1 t466) ∧ (Kd.R (Kd.int .u8) 5 w' w.heap.size (fun k_ => some k_ ≠ (s_.1 : Value).ownBlock) s_.2 y469) ∧ (w'.heap[gb464]? = some (.cells #[.slice A0_0 l0_0.length c0_0, .int .i64 a0_1, .int .i64 a0_2] 47 (0, 0))) ∧ (Below w.heap.size w w')) ?_ ?_
 rotate_left
 ·intro hCont
  refine two_ (i := 2) (j := 9) (Ni := some 8) (Nj := some 15) #[true, true, true, true, true, true, true, true, true, false, false, false] #[true, true, false, true, true, true, true, true, true, true, false, false] rfl rfl rfl rfl (two_of HT_.out (by kernel_rfl)) (by decide) (by decide) (fun K hK => ?_) (fun K hK => ?_)
  ·skip
   refine goes_ Try.func85 (by kernel_rfl) rfl #[.slice A0_0 l0_0.length c0_0] (by rfl) rfl rfl zT10 ?_
   with_reducible refine (impl_twoBytes.calls k _ _ l0_0 t466 _ ?side1 ?side2 A4.out).mono ?_
   (case side1 => exact zC10 (Kd.C_below HR0_0.out HB.out))
   (case side2 => exact HC0_0.out)
   rintro e w10 ⟨v467, rfl, ho0, hb⟩
   refine ⟨_, rfl, ?_⟩
   have n0_ := Aside0.mk (Kd.R_lower ho0 (below_size (zB10_1)))
   have n1_ := Aside0.mk (zb10 BK464.out hb)
   have n2_ := Aside0.mk (below_step (zB10_1) hb)
   clear BK464 HB
   have HO468 := n0_
   have BK464 := n1_
   have HB := n2_
   clear n0_ n1_ n2_
   (try clear hb)
   (try clear hb2)
   (try clear hk)
   (try clear hi)
   (try clear ho0)
   refine hK.out _ _ ⟨(blk_cell BK464.out 0).trans rfl, (blk_cell BK464.out 1).trans rfl, (blk_cell BK464.out 2).trans rfl⟩ (fun hHeld => ?_)
   clear hK K
   refine norm_ (a' := ?_) ?_ ?_
   rotate_left
   ·show Act.put _ (some 8) _ = _
    simp only [Act.put, List.setIfInBounds_toArray, List.set_cons_zero, List.set_cons_succ, i64_w, i32_w]
    rfl
   refine one_ (i := 9) (N := some 15) zq10_0 rfl rfl (one_of HT_.out (by kernel_rfl)) (by decide) (fun K hK => ?_)
   refine Kd.R_lit_step (Kd.int .u8) _ 5 ?hg (N := 15) ?hd (xs := ([(a0_1) % 256, (a0_2) % 256] : List Int)) (inner := [.int .u8 ((a0_1) % 256), .int .u8 ((a0_2) % 256)]) (ok := fun _ => True) (okp := fun _ => True) ?hr ?hp (fun _ hk => hk) trivial (Below.refl _ _) (Nat.le_refl _) (by simp) ?_; (case hd => rfl); (case hg => rfl); (case hr => first | (go_simp; done) | (go_simp; rfl)); (case hp => exact (Reps.one (show Kd.M (Kd.int .u8) _ _ _ ((a0_1) % 256) [.int .u8 ((a0_1) % 256)] from rfl) (Reps.one (show Kd.M (Kd.int .u8) _ _ _ ((a0_2) % 256) [.int .u8 ((a0_2) % 256)] from rfl) (Reps.none _ _))))
   intro v470 w11 ho12 hb hg_ hnew_
   clear hg_ hnew_
   (first | rw [← Ny469.out] at ho12 | (simp only [Int.reduceToNat] at ho12; rw [← Ny469.out] at ho12))
   have n0_ := Aside0.mk (Kd.R_elder' (zR10 HO468.out) (Kd.R_base ho12) hb)
   have n1_ := Aside0.mk (Kd.R_lower (Kd.R_new' ho12 (Kd.R_lt (zR10 HO468.out))) (below_size (zB10_1)))
   have n2_ := Aside0.mk (zb10 BK464.out hb)
   have n3_ := Aside0.mk (below_step (zB10_1) hb)
   clear HO468 BK464 HB
   have HO468 := n0_
   have HO471 := n1_
   have BK464 := n2_
   have HB := n3_
   clear n0_ n1_ n2_ n3_ hb ho12
   refine hK.out _ _ ⟨(blk_cell BK464.out 0).trans rfl, (blk_cell BK464.out 1).trans rfl, (blk_cell BK464.out 2).trans rfl⟩ (fun hHeld => ?_)
   clear hK K
   refine norm_ (a' := ?_) ?_ ?_
   rotate_left
   ·show Act.put _ (some 15) _ = _
    simp only [Act.put, List.setIfInBounds_toArray, List.set_cons_zero, List.set_cons_succ, i64_w, i32_w]
    rfl
   exact norm_ (by simp only [putAll, Act.put, List.setIfInBounds_toArray, List.set_cons_zero, List.set_cons_succ]) (hCont (v467, v470) _ ⟨hHeld, (by (with_reducible repeat (first | apply Kd.R_alloc | apply Kd.R_drewN | apply Kd.R_drew)); exact Kd.R_mono HO468.out (fun _ hk => hk.2)), (by (with_reducible repeat (first | apply Kd.R_alloc | apply Kd.R_drewN | apply Kd.R_drew)); exact Kd.R_mono HO471.out (fun _ hk => hk.2)), (zK10 BK464.out), (zB10_1)⟩)
  ·skip
   refine Kd.R_lit_step (Kd.int .u8) _ 5 ?hg (N := 15) ?hd (xs := ([(a0_1) % 256, (a0_2) % 256] : List Int)) (inner := [.int .u8 ((a0_1) % 256), .int .u8 ((a0_2) % 256)]) (ok := fun _ => True) (okp := fun _ => True) ?hr ?hp (fun _ hk => hk) trivial (Below.refl _ _) (Nat.le_refl _) (by simp) ?_; (case hd => rfl); (case hg => rfl); (case hr => first | (go_simp; done) | (go_simp; rfl)); (case hp => exact (Reps.one (show Kd.M (Kd.int .u8) _ _ _ ((a0_1) % 256) [.int .u8 ((a0_1) % 256)] from rfl) (Reps.one (show Kd.M (Kd.int .u8) _ _ _ ((a0_2) % 256) [.int .u8 ((a0_2) % 256)] from rfl) (Reps.none _ _))))
   intro v470 w10 ho11 hb hg_ hnew_
   clear hg_ hnew_
   (first | rw [← Ny469.out] at ho11 | (simp only [Int.reduceToNat] at ho11; rw [← Ny469.out] at ho11))
   have n0_ := Aside0.mk (Kd.R_lower ho11 (below_size (zB10_1)))
   have n1_ := Aside0.mk (zb10 BK464.out hb)
   have n2_ := Aside0.mk (below_step (zB10_1) hb)
   clear BK464 HB
   have HO471 := n0_
   have BK464 := n1_
   have HB := n2_
   clear n0_ n1_ n2_ hb ho11
   refine hK.out _ _ ⟨(blk_cell BK464.out 0).trans rfl, (blk_cell BK464.out 1).trans rfl, (blk_cell BK464.out 2).trans rfl⟩ (fun hHeld => ?_)
   clear hK K
   refine norm_ (a' := ?_) ?_ ?_
   rotate_left
   ·show Act.put _ (some 15) _ = _
    simp only [Act.put, List.setIfInBounds_toArray, List.set_cons_zero, List.set_cons_succ, i64_w, i32_w]
    rfl
   refine one_ (i := 2) (N := some 8) zq10_0 rfl rfl (one_of HT_.out (by kernel_rfl)) (by decide) (fun K hK => ?_)
   refine goes_ Try.func85 (by kernel_rfl) rfl #[.slice A0_0 l0_0.length c0_0] (by rfl) rfl rfl zT10 ?_
   with_reducible refine (impl_twoBytes.calls k _ _ l0_0 t466 _ ?side1 ?side2 A4.out).mono ?_
   (case side1 => exact zC10 (Kd.C_below HR0_0.out HB.out))
   (case side2 => exact HC0_0.out)
   rintro e w12 ⟨v467, rfl, ho0, hb⟩
   refine ⟨_, rfl, ?_⟩
   have n0_ := Aside0.mk (Kd.R_elder' (zR10 HO471.out) (Kd.R_base ho0) hb)
   have n1_ := Aside0.mk (Kd.R_lower (Kd.R_new' ho0 (Kd.R_lt (zR10 HO471.out))) (below_size (zB10_1)))
   have n2_ := Aside0.mk (zb10 BK464.out hb)
   have n3_ := Aside0.mk (below_step (zB10_1) hb)
   clear HO471 BK464 HB
   have HO471 := n0_
   have HO468 := n1_
   have BK464 := n2_
   have HB := n3_
   clear n0_ n1_ n2_ n3_
   (try clear hb)
   (try clear hb2)
   (try clear hk)
   (try clear hi)
   (try clear ho0)
   refine hK.out _ _ ⟨(blk_cell BK464.out 0).trans rfl, (blk_cell BK464.out 1).trans rfl, (blk_cell BK464.out 2).trans rfl⟩ (fun hHeld => ?_)
   clear hK K
   refine norm_ (a' := ?_) ?_ ?_
   rotate_left
   ·show Act.put _ (some 8) _ = _
    simp only [Act.put, List.setIfInBounds_toArray, List.set_cons_zero, List.set_cons_succ, i64_w, i32_w]
    rfl
   exact norm_ (by simp only [putAll, Act.put, List.setIfInBounds_toArray, List.set_cons_zero, List.set_cons_succ]) (hCont (v467, v470) _ ⟨hHeld, (by (with_reducible repeat (first | apply Kd.R_alloc | apply Kd.R_drewN | apply Kd.R_drew)); exact Kd.R_mono HO468.out (fun _ hk => hk.2)), (by (with_reducible repeat (first | apply Kd.R_alloc | apply Kd.R_drewN | apply Kd.R_drew)); exact Kd.R_mono HO471.out (fun _ hk => hk.2)), (zK10 BK464.out), (zB10_1)⟩)
 rintro ⟨v467, v470⟩ w13 ⟨hS_, h0_, h1_, h2_, h3_⟩
 have n0_ : Aside0 (Kd.R (Kd.int .u8) 5 w13 w.heap.size (fun k_ => some k_ ≠ (v470 : Value).ownBlock) v467 t466) := ⟨h0_⟩
 have n1_ : Aside0 (Kd.R (Kd.int .u8) 5 w13 w.heap.size (fun k_ => some k_ ≠ (v467 : Value).ownBlock) v470 y469) := ⟨h1_⟩
 have n2_ : Aside0 (w13.heap[gb464]? = some (.cells #[.slice A0_0 l0_0.length c0_0, .int .i64 a0_1, .int .i64 a0_2] 47 (0, 0))) := ⟨h2_⟩
 have n3_ : Aside0 (Below w.heap.size w w13) := ⟨h3_⟩
 clear BK464 HB h0_ h1_ h2_ h3_
 have HO468 := n0_
 have HO471 := n1_
 have BK464 := n2_
 have HB := n3_
 clear n0_ n1_ n2_ n3_
 have hHeld : w13.cell? ⟨gb464, 0, none⟩ = some (.slice A0_0 l0_0.length c0_0) ∧ w13.cell? ⟨gb464, 1, none⟩ = some (.int .i64 a0_1) ∧ w13.cell? ⟨gb464, 2, none⟩ = some (.int .i64 a0_2) := hS_
 obtain ⟨Ao15, co15, eo15⟩ := Kd.R_slice HO471.out
 (first | subst eo15 | (injection eo15 with f1_ f2_ f3_; have f4_ := f1_.symm; have f5_ := f3_.symm; clear f1_ f2_ f3_; subst f4_; subst f5_))
 refine norm_ (a' := ?_) ?_ ?_
 rotate_left
 ·simp only [putAll, Act.put, List.setIfInBounds_toArray, List.set_cons_zero, List.set_cons_succ]
  rfl
 refine one_ (i := 10) (N := some 16) #[true, true, true, true, true, true, true, true, true, true, true, false] rfl rfl (one_of HT_.out (by kernel_rfl)) (by decide) (fun K hK => ?_)
 refine Kd.R_append_rows_step (Kd.int .u8) (w0 := w) w.heap.size (by rfl) (.tmp 8) (.tmp 15) 22 5 (.int .u8 0) 1 rfl Try.underlying22 info5 rfl (by decide) (by omega) v467 t466 y469 _ _ _ (fun k_ => some k_ ≠ (.slice Ao15 y469.length co15 : Value).ownBlock) (fun _ => False) rfl rfl ?aO ?aR (fun _ _ h => h) (fun _ h => h.elim) ?aF ?aB ?aS ?aL ?_
 (case aR => exact zC10 (Kd.R_reads' HO471.out).2.2)
 (case aB => exact (zB10_1))
 (case aF => exact (fun k_ hk => Kd.fresh' (Kd.R_lt (zR10 HO471.out)) k_ hk))
 (case aO => exact (zR10 HO468.out))
 (case aS => exact (below_size (zB10_1)))
 (case aL => have := LMc5.out; omega)
 intro v473 w14 ho hb hg hat
 rw [← Ny472.out] at ho
 have n0_ := Aside0.mk (zg10 BK464.out hg (Kd.R_ne HO468.out BK464.out (by decide)))
 have n1_ := Aside0.mk (Kd.R_after (ok := (fun _ => True)) (by (with_reducible repeat (first | apply Kd.R_alloc | apply Kd.R_drewN | apply Kd.R_drew)); exact Kd.R_mono HO471.out (fun _ hk => ⟨trivial, hk⟩)) hg hat)
 have n2_ := Aside0.mk (hb)
 have n3_ := Aside0.mk (ho)
 clear BK464 HO471 HB HO468
 have BK464 := n0_
 have HO471 := n1_
 have HB := n2_
 have HO474 := n3_
 clear n0_ n1_ n2_ n3_ ho hb hg hat
 refine hK.out _ _ ⟨(blk_cell BK464.out 0).trans rfl, (blk_cell BK464.out 1).trans rfl, (blk_cell BK464.out 2).trans rfl⟩ (fun hHeld => ?_)
 clear hK K
 refine norm_ (a' := ?_) ?_ ?_
 rotate_left
 ·show Act.put _ (some 16) _ = _
  simp only [Act.put, List.setIfInBounds_toArray, List.set_cons_zero, List.set_cons_succ, i64_w, i32_w]
  rfl
 refine pure_ (i := 11) (N := some 2) (v := ?_) (a' := ?_) #[true, true, true, true, true, true, true, true, true, true, true, true] rfl rfl (any_of HT_.out (by kernel_rfl)) (fun _ _ _ h => h) (Or.inl ⟨by rfl, ?_⟩) ?_ ?_
 rotate_left
 ·intro w'
  go_simp
  with_reducible rfl
 rotate_left
 ·exact zV10
 refine done_ (done_of HT_.out (by kernel_rfl)) ?_
 try go_wp2
 go_ret
 exact ⟨_, zE10, by (with_reducible repeat (first | apply Kd.R_alloc | apply Kd.R_drewN | apply Kd.R_drew)); exact Kd.R_mono HO474.out (fun _ hk => trivial), zB10_1⟩

/-! ### impl_SaveBytes: function 28 -/
mutual
def impl_SaveBytes.j0 : Nat → List Int → List (S47) → Bool → Option (List Int)
 | 0, _, _, _ => none
 | k + 1, x0, x1, x15 => if x15 = true then (some ([] : List Int)) else ((some (([((x1.length : Int)) % 256] : List Int) : List Int)).bind fun y476 => ((impl_MemBytes.f k x0).bind fun t479 => (if y476.length + t479.length < 140737488355328 then (impl_SaveBytes.l0 k (y476 ++ t479) x1 (x1.length : Int) 0) else (none))))
def impl_SaveBytes.l0 : Nat → List Int → List (S47) → Int → Int → Option (List Int)
 | 0, _, _, _, _ => none
 | k + 1, x5, x23, x24, x25 => if x25 < x24 then (if 0 ≤ x25 then (if x25 < (x23.length : Int) then ((impl_HartOk.f k ((rd_T47 x23 x25).f0) ((rd_T47 x23 x25).f1) ((rd_T47 x23 x25).f2)).bind fun t487 => (if t487 = true then ((impl_HartBytes.f k ((rd_T47 x23 x25).f0) ((rd_T47 x23 x25).f1) ((rd_T47 x23 x25).f2)).bind fun t488 => (if x5.length + t488.length < 140737488355328 then (impl_SaveBytes.l0 k (x5 ++ t488) x23 x24 (wrap64 (x25 + 1))) else (none))) else (some ([] : List Int)))) else (none)) else (none)) else (some x5)
end
def impl_SaveBytes.f (k : Nat) (l0 : List Int) (l1 : List (S47)) : Option (List Int) := (impl_memOk.f k l0).bind fun t475 => (if t475 = true then (impl_SaveBytes.j0 k l0 l1 (decide ((l1.length : Int) > 8))) else (impl_SaveBytes.j0 k l0 l1 true))
theorem impl_SaveBytes.mono_l : ∀ k, (∀ y0 y1 y2, LeO (impl_SaveBytes.j0 k y0 y1 y2) (impl_SaveBytes.j0 (k + 1) y0 y1 y2)) ∧ (∀ y0 y1 y2 y3, LeO (impl_SaveBytes.l0 k y0 y1 y2 y3) (impl_SaveBytes.l0 (k + 1) y0 y1 y2 y3))
 | 0 => ⟨fun _ _ _ r h => by simp [impl_SaveBytes.j0] at h, fun _ _ _ _ r h => by simp [impl_SaveBytes.l0] at h⟩
 | k + 1 => by
  obtain ⟨ih0, ih1⟩ := impl_SaveBytes.mono_l k
  refine ⟨?_, ?_⟩
  ·intro y0 y1 y2
   unfold impl_SaveBytes.j0
   repeat' first
   | (with_reducible exact ih0 _ _ _)
   | (with_reducible exact ih1 _ _ _ _)
   | (with_reducible exact impl_HartBytes.mono _ _ _ _)
   | (with_reducible exact impl_HartOk.mono _ _ _ _)
   | (with_reducible exact impl_MemBytes.mono _ _)
   | (with_reducible exact impl_memOk.mono _ _)
   | (with_reducible exact LeO.refl _)
   | (with_reducible exact LeO.none _)
   | (with_reducible refine LeO.ite ?_ ?_)
   | (with_reducible refine LeO.bind ?_ (fun _ => ?_))
   | exact ih0 _ _ _
   | exact ih1 _ _ _ _
   | exact impl_HartBytes.mono _ _ _ _
   | exact impl_HartOk.mono _ _ _ _
   | exact impl_MemBytes.mono _ _
   | exact impl_memOk.mono _ _
   | exact LeO.none _
   | refine LeO.ite ?_ ?_
   | refine LeO.bind ?_ (fun _ => ?_)
  ·intro y0 y1 y2 y3
   unfold impl_SaveBytes.l0
   repeat' first
   | (with_reducible exact ih0 _ _ _)
   | (with_reducible exact ih1 _ _ _ _)
   | (with_reducible exact impl_HartBytes.mono _ _ _ _)
   | (with_reducible exact impl_HartOk.mono _ _ _ _)
   | (with_reducible exact impl_MemBytes.mono _ _)
   | (with_reducible exact impl_memOk.mono _ _)
   | (with_reducible exact LeO.refl _)
   | (with_reducible exact LeO.none _)
   | (with_reducible refine LeO.ite ?_ ?_)
   | (with_reducible refine LeO.bind ?_ (fun _ => ?_))
   | exact ih0 _ _ _
   | exact ih1 _ _ _ _
   | exact impl_HartBytes.mono _ _ _ _
   | exact impl_HartOk.mono _ _ _ _
   | exact impl_MemBytes.mono _ _
   | exact impl_memOk.mono _ _
   | exact LeO.none _
   | refine LeO.ite ?_ ?_
   | refine LeO.bind ?_ (fun _ => ?_)
theorem impl_SaveBytes.mono : ∀ a0 a1 k, LeO (impl_SaveBytes.f k a0 a1) (impl_SaveBytes.f (k + 1) a0 a1) := by
 intro a0 a1 k
 obtain ⟨ih0, ih1⟩ := impl_SaveBytes.mono_l k
 unfold impl_SaveBytes.f
 repeat' first
   | (with_reducible exact ih0 _ _ _)
   | (with_reducible exact ih1 _ _ _ _)
   | (with_reducible exact impl_HartBytes.mono _ _ _ _)
   | (with_reducible exact impl_HartOk.mono _ _ _ _)
   | (with_reducible exact impl_MemBytes.mono _ _)
   | (with_reducible exact impl_memOk.mono _ _)
   | (with_reducible exact LeO.refl _)
   | (with_reducible exact LeO.none _)
   | (with_reducible refine LeO.ite ?_ ?_)
   | (with_reducible refine LeO.bind ?_ (fun _ => ?_))
   | exact ih0 _ _ _
   | exact ih1 _ _ _ _
   | exact impl_HartBytes.mono _ _ _ _
   | exact impl_HartOk.mono _ _ _ _
   | exact impl_MemBytes.mono _ _
   | exact impl_memOk.mono _ _
   | exact LeO.none _
   | refine LeO.ite ?_ ?_
   | refine LeO.bind ?_ (fun _ => ?_)
set_option maxHeartbeats 8000000 in
set_option maxRecDepth 100000 in
theorem impl_SaveBytes.calls (k : Nat) (A0 : Option Addr) (c0 : Nat) (l0 : List Int) (A1 : Option Addr) (c1 : Nat) (l1 : List (S47)) (r : List Int) (w : World) (hr0 : Kd.C (Kd.int .i64) w A0 l0.length l0) (hc0 : l0.length ≤ c0) (hr1 : Kd.C k47 w A1 l1.length l1) (hc1 : l1.length ≤ c1) (h : impl_SaveBytes.f k l0 l1 = some r) :
  Calls Try.prog 28 #[.slice A0 l0.length c0, .slice A1 l1.length c1] w fun e w' => ∃ v0_ : Value, e = .returned (v0_) ∧ Kd.R (Kd.int .u8) 5 w' w.heap.size (fun _ => True) v0_ r ∧ Below w.heap.size w w' := by
 have hu47 := Try.underlying47
 have HR0 := Aside0.mk hr0
 have HC0 := Aside0.mk hc0
 clear hr0 hc0
 have HR1 := Aside0.mk hr1
 have HC1 := Aside0.mk hc1
 clear hr1 hc1
 have HB := Aside0.mk (Below.refl w.heap.size w)
 have H : ((impl_memOk.f k l0).bind fun t475 => (if t475 = true then (impl_SaveBytes.j0 k l0 l1 (decide ((l1.length : Int) > 8))) else (impl_SaveBytes.j0 k l0 l1 true))) = some r := h
 clear h
 have HC3 := Aside0.mk H
 clear H
 go_enter Try.func28, Try.ntmps28
 go_upto_region 1 with (fail)
 go_cut [15] (fun v15 wc => ∃ (kq : Nat) (x15_2 : Bool), v15 = .bool x15_2 ∧ Aside0 (impl_SaveBytes.j0 kq l0 l1 x15_2 = some r) ∧ Aside0 (kq ≤ k) ∧ Aside0 (Below w.heap.size w wc))
 case first =>
  have H := HC3.out
  clear HC3
  replace H := Option.bind_eq_some_iff.mp H
  obtain ⟨t475, A40, H⟩ := H
  replace H : (if t475 = true then (impl_SaveBytes.j0 k l0 l1 (decide ((l1.length : Int) > 8))) else (impl_SaveBytes.j0 k l0 l1 true)) = some r := H
  have A4 := Aside0.mk A40
  clear A40
  by_cases c5 : t475 = true
  ·subst c5
   have H1 : (impl_SaveBytes.j0 k l0 l1 (decide ((l1.length : Int) > 8))) = some r := by rw [if_pos rfl] at H; exact H
   clear H
   have H := H1
   clear H1
   have H' := Aside0.mk H
   clear H
   go_wp2_with (first | ((with_reducible refine gate_callee (f := 48) rfl ?_); refine goesL_ (some 9) rfl rfl Try.func48 (by kernel_rfl) rfl #[.slice A0 l0.length c0] rfl zT10 ?_; (with_reducible refine (impl_memOk.calls k _ _ l0 true _ ?side1 ?side2 A4.out).mono ?_); (case side1 => exact zC10 (Kd.C_below HR0.out HB.out)); (case side2 => exact HC0.out); rintro e w' ⟨rfl, ⟨nd, rfl⟩⟩; refine ⟨_, rfl, ?_⟩))
   go_meet
   case rel => exact ⟨_, (decide ((l1.length : Int) > 8)), (by first | rfl | (simp; done) | (simp [*]; done)), H', ⟨by first | omega | exact Nat.le_refl _⟩, ⟨zB10_0⟩⟩
  replace c5 := Bool.eq_false_iff.mpr c5
  subst c5
  have H1 : (impl_SaveBytes.j0 k l0 l1 true) = some r := by rw [if_neg (show ¬ (false = true) by decide)] at H; exact H
  clear H
  have H := H1
  clear H1
  have H' := Aside0.mk H
  clear H
  go_wp2_with (first | ((with_reducible refine gate_callee (f := 48) rfl ?_); refine goesL_ (some 9) rfl rfl Try.func48 (by kernel_rfl) rfl #[.slice A0 l0.length c0] rfl zT10 ?_; (with_reducible refine (impl_memOk.calls k _ _ l0 false _ ?side1 ?side2 A4.out).mono ?_); (case side1 => exact zC10 (Kd.C_below HR0.out HB.out)); (case side2 => exact HC0.out); rintro e w' ⟨rfl, ⟨nd, rfl⟩⟩; refine ⟨_, rfl, ?_⟩))
  go_meet
  case rel => exact ⟨_, (true), (by first | rfl | (simp; done) | (simp [*]; done)), H', ⟨by first | omega | exact Nat.le_refl _⟩, ⟨zB10_0⟩⟩
 case rest =>
  clear HC3
  try clear c1
  try clear c2
  try clear p2
  try clear c4
  try clear c5
  obtain ⟨kq, x15_2, rfl, HA, HJ2, HB⟩ := hcut
  cases kq with
  | zero => exact absurd HA.out (by simp [impl_SaveBytes.j0])
  | succ kj2 =>
   have H := HA.out
   clear HA
   simp only [impl_SaveBytes.j0] at H
   by_cases c6 : x15_2 = true
   ·subst c6
    have H1 : (some ([] : List Int)) = some r := by rw [if_pos rfl] at H; exact H
    clear H
    have H := H1
    clear H1
    obtain rfl := Option.some.inj H
    go_wp2
    go_ret
    exact ⟨_, zE10, by first | exact Kd.R_nil _ _ _ _ _ | exact Kd.N_nil _ _ _ _ _ | exact Kd.V_nil _ _ _ _ _ | exact Kd.Q_nil _ _ _ _ _ | exact Kd.S_nil _ _ _ _ _, zB10_0⟩
   replace c6 := Bool.eq_false_iff.mpr c6
   subst c6
   have H1 : ((some (([((l1.length : Int)) % 256] : List Int) : List Int)).bind fun y476 => ((impl_MemBytes.f kj2 l0).bind fun t479 => (if y476.length + t479.length < 140737488355328 then (impl_SaveBytes.l0 kj2 (y476 ++ t479) l1 (l1.length : Int) 0) else (none)))) = some r := by rw [if_neg (show ¬ (false = true) by decide)] at H; exact H
   clear H
   have H := H1
   clear H1
   obtain ⟨y476, hy476⟩ : ∃ y_ : List Int, y_ = (([((l1.length : Int)) % 256] : List Int)) := ⟨_, rfl⟩
   replace H : ((impl_MemBytes.f kj2 l0).bind fun t479 => (if y476.length + t479.length < 140737488355328 then (impl_SaveBytes.l0 kj2 (y476 ++ t479) l1 (l1.length : Int) 0) else (none))) = some r := by first | (rw [hy476]; with_reducible exact H) | (have H2_ := (Option.bind_some _ _).symm.trans H; rw [hy476]; with_reducible exact H2_) | (have H2_ := (Option.bind_some _ _).symm.trans H; with_reducible exact H2_) | with_reducible exact H | (rw [hy476]; exact H) | exact H
   have Ny476 := Aside0.mk hy476
   clear hy476
   replace H := Option.bind_eq_some_iff.mp H
   obtain ⟨t479, A70, H⟩ := H
   replace H : (if y476.length + t479.length < 140737488355328 then (impl_SaveBytes.l0 kj2 (y476 ++ t479) l1 (l1.length : Int) 0) else (none)) = some r := H
   have A7 := Aside0.mk A70
   clear A70
   by_cases c8 : y476.length + t479.length < 140737488355328
   rotate_left
   ·rw [if_neg c8] at H
    exact absurd H (by simp)
   rw [if_pos c8] at H
   have LMc8 := Aside0.mk c8
   clear c8
   obtain ⟨y482, hy482⟩ : ∃ y_ : List Int, y_ = (y476 ++ t479) := ⟨_, rfl⟩
   replace H : (impl_SaveBytes.l0 kj2 y482 l1 (l1.length : Int) 0) = some r := by first | (rw [hy482]; with_reducible exact H) | (have H2_ := (Option.bind_some _ _).symm.trans H; rw [hy482]; with_reducible exact H2_) | (have H2_ := (Option.bind_some _ _).symm.trans H; with_reducible exact H2_) | with_reducible exact H | (rw [hy482]; exact H) | exact H
   have Ny482 := Aside0.mk hy482
   clear hy482
   have H' := Aside0.mk H
   clear H
   go_wp2_with (first | ((with_reducible refine gate_dst (N := 19) rfl ?_); (try (refine gate_guard (by rfl) ?_; dsimp only)); refine Kd.R_lit (Kd.int .u8) _ 5 ?hg (N := 19) ?hd (xs := ([((l1.length : Int)) % 256] : List Int)) (inner := [.int .u8 (((l1.length : Int)) % 256)]) (ok := fun _ => True) (okp := fun _ => True) ?hr ?hp (fun _ hk => hk) trivial (Below.refl _ _) (Nat.le_refl _) (by simp) ?_; (case hd => rfl); (case hg => rfl); (case hr => first | (go_simp; done) | (go_simp; rfl)); (case hp => exact (Reps.one (show Kd.M (Kd.int .u8) _ _ _ (((l1.length : Int)) % 256) [.int .u8 (((l1.length : Int)) % 256)] from rfl) (Reps.none _ _))); intro v477 w9 ho10 hb hg_ hnew_; clear hg_ hnew_; (first | rw [← Ny476.out] at ho10 | (simp only [Int.reduceToNat] at ho10; rw [← Ny476.out] at ho10)); have n0_ := Aside0.mk (Kd.R_lower ho10 (below_size (zB10_0))); have n1_ := Aside0.mk (below_step (zB10_0) hb); clear HB; have HO478 := n0_; have HB := n1_; clear n0_ n1_; clear hb ho10) | ((with_reducible refine gate_callee (f := 42) rfl ?_); refine goesL_ (some 21) rfl rfl Try.func42 (by kernel_rfl) rfl #[.slice A0 l0.length c0] rfl zT10 ?_; (with_reducible refine (impl_MemBytes.calls kj2 _ _ l0 t479 _ ?side1 ?side2 A7.out).mono ?_); (case side1 => exact zC10 (Kd.C_below HR0.out HB.out)); (case side2 => exact HC0.out); rintro e w11 ⟨v480, rfl, ho0, hb⟩; refine ⟨_, rfl, ?_⟩; have n0_ := Aside0.mk (Kd.R_elder' (zR10 HO478.out) (Kd.R_base ho0) hb); have n1_ := Aside0.mk (Kd.R_lower (Kd.R_new' ho0 (Kd.R_lt (zR10 HO478.out))) (below_size (zB10_0))); have n2_ := Aside0.mk (below_step (zB10_0) hb); clear HO478; clear HB; have HO478 := n0_; have HO481 := n1_; have HB := n2_; clear n0_ n1_ n2_; (try clear hb); (try clear hb2); (try clear hk); (try clear hi); (try clear ho0); obtain ⟨Ao13, co13, eo13⟩ := Kd.R_slice HO481.out; subst eo13) | ((with_reducible refine gate_builtin (b := .append) (xs := #[.tmp 19, .tmp 21]) rfl ?_); (try (refine gate_guard (by rfl) ?_; dsimp only)); at_builtin; refine Kd.R_append_rows (Kd.int .u8) (w0 := w) w.heap.size rfl (.tmp 19) (.tmp 21) 22 5 (.int .u8 0) 1 rfl Try.underlying22 info5 rfl (by decide) (by omega) v477 y476 t479 _ _ _ (fun k_ => some k_ ≠ (.slice Ao13 t479.length co13 : Value).ownBlock) (fun _ => False) rfl rfl ?aO ?aR (fun _ _ h => h) (fun _ h => h.elim) ?aF ?aB ?aS ?aL ?_; (case aR => exact zC10 (Kd.R_reads' HO481.out).2.2); (case aB => exact (zB10_0)); (case aF => exact (fun k_ hk => Kd.fresh' (Kd.R_lt (zR10 HO481.out)) k_ hk)); (case aO => exact (by (with_reducible repeat (first | apply Kd.R_alloc | apply Kd.R_drewN | apply Kd.R_drew)); exact Kd.R_mono HO478.out (fun _ hk => hk.2))); (case aS => exact (below_size (zB10_0))); (case aL => have := LMc8.out; omega); intro v483 w12 ho hb hg hat; rw [← Ny482.out] at ho; have n0_ := Aside0.mk (Kd.R_after (ok := (fun _ => True)) (zR10 HO481.out) hg hat); have n1_ := Aside0.mk (hb); have n2_ := Aside0.mk (ho); clear HO481; clear HB; clear HO478; have HO481 := n0_; have HB := n1_; have HO484 := n2_; clear n0_ n1_ n2_; clear ho hb hg hat))
   go_loopg [5, 25] kj2 (fun kq v5 v25 w' => ∃ (x5_2 : List Int) (x25_2 : Int), v25 = .int .i64 x25_2 ∧ Aside0 (impl_SaveBytes.l0 kq x5_2 l1 (l1.length : Int) x25_2 = some r) ∧ Aside0 (kq ≤ kj2) ∧ Aside0 (Kd.R (Kd.int .u8) 5 w' w.heap.size (fun _ => True) v5 x5_2) ∧ Aside0 (Below w.heap.size w w'))
   case atStart => exact ⟨(y482), (0), (by first | rfl | (simp; done) | (simp [*]; done)), H', ⟨Nat.le_refl _⟩, ⟨by (with_reducible repeat (first | apply Kd.R_alloc | apply Kd.R_drewN | apply Kd.R_drew)); exact Kd.R_mono HO484.out (fun _ hk => trivial)⟩, ⟨zB10_0⟩⟩
   case round =>
    clear H'
    try clear c1
    try clear c2
    try clear p2
    try clear c4
    try clear c5
    try clear c6
    try clear c8
    try clear p2
    obtain ⟨x5_2, x25_2, rfl, HA, HK2, HO_5, HB⟩ := hrel
    cases gk with
    | zero => exact absurd HA.out (by simp [impl_SaveBytes.l0])
    | succ k2 =>
     have H := HA.out
     clear HA
     simp only [impl_SaveBytes.l0] at H
     by_cases c14 : x25_2 < (l1.length : Int)
     rotate_left
     ·rw [if_neg c14] at H
      have c14b0 : decide (x25_2 < (l1.length : Int)) = false := decide_eq_false c14
      clear c14
      obtain rfl := Option.some.inj H
      go_wp2
      go_ret
      exact ⟨_, zE10, zR10 HO_5.out, zB10_0⟩
     rw [if_pos c14] at H
     have c14b0 : decide (x25_2 < (l1.length : Int)) = true := decide_eq_true c14
     clear c14
     by_cases c15 : 0 ≤ x25_2
     rotate_left
     ·rw [if_neg c15] at H
      exact absurd H (by simp)
     rw [if_pos c15] at H
     have c15b0 : decide (0 ≤ x25_2) = true := decide_eq_true c15
     clear c15
     by_cases c16 : x25_2 < (l1.length : Int)
     rotate_left
     ·rw [if_neg c16] at H
      exact absurd H (by simp)
     rw [if_pos c16] at H
     have c16b0 : decide (x25_2 < (l1.length : Int)) = true := decide_eq_true c16
     clear c16
     replace H := Option.bind_eq_some_iff.mp H
     obtain ⟨t487, A170, H⟩ := H
     replace H : (if t487 = true then ((impl_HartBytes.f k2 ((rd_T47 l1 x25_2).f0) ((rd_T47 l1 x25_2).f1) ((rd_T47 l1 x25_2).f2)).bind fun t488 => (if x5_2.length + t488.length < 140737488355328 then (impl_SaveBytes.l0 k2 (x5_2 ++ t488) l1 (l1.length : Int) (wrap64 (x25_2 + 1))) else (none))) else (some ([] : List Int))) = some r := H
     have A17 := Aside0.mk A170
     clear A170
     by_cases c18 : t487 = true
     rotate_left
     ·replace c18 := Bool.eq_false_iff.mpr c18
      subst c18
      have H1 : (some ([] : List Int)) = some r := by rw [if_neg (show ¬ (false = true) by decide)] at H; exact H
      clear H
      have H := H1
      clear H1
      obtain rfl := Option.some.inj H
      have p485 : 0 ≤ (x25_2 : Int) := zA10
      have q485 : x25_2 < (l1.length : Int) := zA10
      obtain ⟨ad485, A485_0, c485_0, e485, hx485_0, hx485_1, hx485_2, hl485_0, hi485_0⟩ := at_T47 HR1.out x25_2 p485 q485
      cases e485
      replace hx485_0 := (HB.out.cell (World.block_lt_of_cell? w _ hx485_0)).trans hx485_0
      replace hx485_1 := (HB.out.cell (World.block_lt_of_cell? w _ hx485_1)).trans hx485_1
      replace hx485_2 := (HB.out.cell (World.block_lt_of_cell? w _ hx485_2)).trans hx485_2
      have HR485_0 := Aside0.mk hi485_0
      have HC485_0 := Aside0.mk hl485_0
      clear hi485_0 hl485_0
      replace p485 := eq_true p485
      replace q485 := eq_true q485
      go_wp2_with (first | ((with_reducible refine gate_dst (N := 7) rfl ?_); (try (refine gate_guard (by rfl) ?_; dsimp only)); refine box_event ?hg (N := 7) ?hd (cs := #[.slice none 0 0, .int .i64 0, .int .i64 0]) (t := 47) ?hr ?_; (case hd => rfl); (case hg => rfl); (case hr => first | (go_simp; done) | (go_simp; rfl)); intro gb486 hg w28 hbox hb; have n0_ := Aside0.mk (Kd.R_below (zR10 HO_5.out) hb); have n1_ := Aside0.mk (below_step (zB10_0) hb); have n2_ := Aside0.mk (hbox); have n3_ := Aside0.mk ((by rw [hg]; exact (below_size (zB10_0)) : w.heap.size ≤ gb486)); have n4_ := Aside0.mk ((by rw [hg]; exact (below_size (zB10_0)) : w.heap.size ≤ gb486)); clear HO_5; clear HB; have HO_5 := n0_; have HB := n1_; have BK486 := n2_; have GW486 := n3_; have GE486 := n4_; clear n0_ n1_ n2_ n3_ n4_; clear hb hbox hg; obtain ⟨hcz29_0, hcz29_1, hcz29_2, hfz29_0, hfz29_1, hfz29_2⟩ := zc10_3 (w := w28) BK486.out) | ((with_reducible refine gate_callee (f := 74) rfl ?_); refine goesL_ (some 30) rfl rfl Try.func74 (by kernel_rfl) rfl #[.agg #[.slice A485_0 ((rd_T47 l1 x25_2).f0).length c485_0, .int .i64 ((rd_T47 l1 x25_2).f1), .int .i64 ((rd_T47 l1 x25_2).f2)]] rfl zT10 ?_; (with_reducible refine (impl_HartOk.calls k2 _ _ ((rd_T47 l1 x25_2).f0) ((rd_T47 l1 x25_2).f1) ((rd_T47 l1 x25_2).f2) false _ ?side1 ?side2 A17.out).mono ?_); (case side1 => exact Kd.C_below HR485_0.out (zB10_2)); (case side2 => exact HC485_0.out); rintro e w30 ⟨rfl, hb⟩; refine ⟨_, rfl, ?_⟩; have n0_ := Aside0.mk (Kd.R_below (by (with_reducible repeat (first | apply Kd.R_alloc | apply Kd.R_drewN | apply Kd.R_drew)); exact (Kd.R_mono (Kd.R_far (p := ⟨gb486, 2, none⟩) (Kd.R_far (p := ⟨gb486, 1, none⟩) (Kd.R_far (p := ⟨gb486, 0, none⟩) (Kd.R_types HO_5.out BK486.out (by decide)) (fun _ hk => hk.2) (.slice A485_0 ((rd_T47 l1 x25_2).f0).length c485_0)) (fun _ hk => hk.2) (.int .i64 ((rd_T47 l1 x25_2).f1))) (fun _ hk => hk.2) (.int .i64 ((rd_T47 l1 x25_2).f2))) (fun _ h_ => h_.1))) hb); have n1_ := Aside0.mk (blk_below (g := gb486) (o := .cells #[.slice A485_0 ((rd_T47 l1 x25_2).f0).length c485_0, .int .i64 ((rd_T47 l1 x25_2).f1), .int .i64 ((rd_T47 l1 x25_2).f2)] 47 (0, 0)) (by refine zP10 ?_; refine blk_put (cs := #[.slice A485_0 ((rd_T47 l1 x25_2).f0).length c485_0, .int .i64 ((rd_T47 l1 x25_2).f1), .int .i64 0]) ?_ 2 _ rfl; refine zP10 ?_; refine blk_put (cs := #[.slice A485_0 ((rd_T47 l1 x25_2).f0).length c485_0, .int .i64 0, .int .i64 0]) ?_ 1 _ rfl; refine zP10 ?_; refine blk_put (cs := #[.slice none 0 0, .int .i64 0, .int .i64 0]) ?_ 0 _ rfl; refine zP10 ?_; exact BK486.out) hb); have n2_ := Aside0.mk (below_step (zB10_2) hb); clear HO_5; clear BK486; clear HB; have HO_5 := n0_; have BK486 := n1_; have HB := n2_; clear n0_ n1_ n2_; (try clear hb); (try clear hb2); (try clear hk); (try clear hi)))
      go_ret
      exact ⟨_, zE10, by first | exact Kd.R_nil _ _ _ _ _ | exact Kd.N_nil _ _ _ _ _ | exact Kd.V_nil _ _ _ _ _ | exact Kd.Q_nil _ _ _ _ _ | exact Kd.S_nil _ _ _ _ _, zB10_2⟩
     subst c18
     have H1 : ((impl_HartBytes.f k2 ((rd_T47 l1 x25_2).f0) ((rd_T47 l1 x25_2).f1) ((rd_T47 l1 x25_2).f2)).bind fun t488 => (if x5_2.length + t488.length < 140737488355328 then (impl_SaveBytes.l0 k2 (x5_2 ++ t488) l1 (l1.length : Int) (wrap64 (x25_2 + 1))) else (none))) = some r := by rw [if_pos rfl] at H; exact H
     clear H
     have H := H1
     clear H1
     replace H := Option.bind_eq_some_iff.mp H
     obtain ⟨t488, A190, H⟩ := H
     replace H : (if x5_2.length + t488.length < 140737488355328 then (impl_SaveBytes.l0 k2 (x5_2 ++ t488) l1 (l1.length : Int) (wrap64 (x25_2 + 1))) else (none)) = some r := H
     have A19 := Aside0.mk A190
     clear A190
     by_cases c20 : x5_2.length + t488.length < 140737488355328
     rotate_left
     ·rw [if_neg c20] at H
      exact absurd H (by simp)
     rw [if_pos c20] at H
     have LMc20 := Aside0.mk c20
     clear c20
     obtain ⟨y491, hy491⟩ : ∃ y_ : List Int, y_ = (x5_2 ++ t488) := ⟨_, rfl⟩
     replace H : (impl_SaveBytes.l0 k2 y491 l1 (l1.length : Int) (wrap64 (x25_2 + 1))) = some r := by first | (rw [hy491]; with_reducible exact H) | (have H2_ := (Option.bind_some _ _).symm.trans H; rw [hy491]; with_reducible exact H2_) | (have H2_ := (Option.bind_some _ _).symm.trans H; with_reducible exact H2_) | with_reducible exact H | (rw [hy491]; exact H) | exact H
     have Ny491 := Aside0.mk hy491
     clear hy491
     have H' := Aside0.mk H
     clear H
     have p485 : 0 ≤ (x25_2 : Int) := zA10
     have q485 : x25_2 < (l1.length : Int) := zA10
     obtain ⟨ad485, A485_0, c485_0, e485, hx485_0, hx485_1, hx485_2, hl485_0, hi485_0⟩ := at_T47 HR1.out x25_2 p485 q485
     cases e485
     replace hx485_0 := (HB.out.cell (World.block_lt_of_cell? w _ hx485_0)).trans hx485_0
     replace hx485_1 := (HB.out.cell (World.block_lt_of_cell? w _ hx485_1)).trans hx485_1
     replace hx485_2 := (HB.out.cell (World.block_lt_of_cell? w _ hx485_2)).trans hx485_2
     have HR485_0 := Aside0.mk hi485_0
     have HC485_0 := Aside0.mk hl485_0
     clear hi485_0 hl485_0
     replace p485 := eq_true p485
     replace q485 := eq_true q485
     go_wp2_with (first | ((with_reducible refine gate_dst (N := 7) rfl ?_); (try (refine gate_guard (by rfl) ?_; dsimp only)); refine box_event ?hg (N := 7) ?hd (cs := #[.slice none 0 0, .int .i64 0, .int .i64 0]) (t := 47) ?hr ?_; (case hd => rfl); (case hg => rfl); (case hr => first | (go_simp; done) | (go_simp; rfl)); intro gb486 hg w21 hbox hb; have n0_ := Aside0.mk (Kd.R_below (zR10 HO_5.out) hb); have n1_ := Aside0.mk (below_step (zB10_0) hb); have n2_ := Aside0.mk (hbox); have n3_ := Aside0.mk ((by rw [hg]; exact (below_size (zB10_0)) : w.heap.size ≤ gb486)); have n4_ := Aside0.mk ((by rw [hg]; exact (below_size (zB10_0)) : w.heap.size ≤ gb486)); clear HO_5; clear HB; have HO_5 := n0_; have HB := n1_; have BK486 := n2_; have GW486 := n3_; have GE486 := n4_; clear n0_ n1_ n2_ n3_ n4_; clear hb hbox hg; obtain ⟨hcz22_0, hcz22_1, hcz22_2, hfz22_0, hfz22_1, hfz22_2⟩ := zc10_3 (w := w21) BK486.out) | ((with_reducible refine gate_callee (f := 74) rfl ?_); refine goesL_ (some 30) rfl rfl Try.func74 (by kernel_rfl) rfl #[.agg #[.slice A485_0 ((rd_T47 l1 x25_2).f0).length c485_0, .int .i64 ((rd_T47 l1 x25_2).f1), .int .i64 ((rd_T47 l1 x25_2).f2)]] rfl zT10 ?_; (with_reducible refine (impl_HartOk.calls k2 _ _ ((rd_T47 l1 x25_2).f0) ((rd_T47 l1 x25_2).f1) ((rd_T47 l1 x25_2).f2) true _ ?side1 ?side2 A17.out).mono ?_); (case side1 => exact Kd.C_below HR485_0.out (zB10_2)); (case side2 => exact HC485_0.out); rintro e w23 ⟨rfl, hb⟩; refine ⟨_, rfl, ?_⟩; have n0_ := Aside0.mk (Kd.R_below (by (with_reducible repeat (first | apply Kd.R_alloc | apply Kd.R_drewN | apply Kd.R_drew)); exact (Kd.R_mono (Kd.R_far (p := ⟨gb486, 2, none⟩) (Kd.R_far (p := ⟨gb486, 1, none⟩) (Kd.R_far (p := ⟨gb486, 0, none⟩) (Kd.R_types HO_5.out BK486.out (by decide)) (fun _ hk => hk.2) (.slice A485_0 ((rd_T47 l1 x25_2).f0).length c485_0)) (fun _ hk => hk.2) (.int .i64 ((rd_T47 l1 x25_2).f1))) (fun _ hk => hk.2) (.int .i64 ((rd_T47 l1 x25_2).f2))) (fun _ h_ => h_.1))) hb); have n1_ := Aside0.mk (blk_below (g := gb486) (o := .cells #[.slice A485_0 ((rd_T47 l1 x25_2).f0).length c485_0, .int .i64 ((rd_T47 l1 x25_2).f1), .int .i64 ((rd_T47 l1 x25_2).f2)] 47 (0, 0)) (by refine zP10 ?_; refine blk_put (cs := #[.slice A485_0 ((rd_T47 l1 x25_2).f0).length c485_0, .int .i64 ((rd_T47 l1 x25_2).f1), .int .i64 0]) ?_ 2 _ rfl; refine zP10 ?_; refine blk_put (cs := #[.slice A485_0 ((rd_T47 l1 x25_2).f0).length c485_0, .int .i64 0, .int .i64 0]) ?_ 1 _ rfl; refine zP10 ?_; refine blk_put (cs := #[.slice none 0 0, .int .i64 0, .int .i64 0]) ?_ 0 _ rfl; refine zP10 ?_; exact BK486.out) hb); have n2_ := Aside0.mk (below_step (zB10_2) hb); clear HO_5; clear BK486; clear HB; have HO_5 := n0_; have BK486 := n1_; have HB := n2_; clear n0_ n1_ n2_; (try clear hb); (try clear hb2); (try clear hk); (try clear hi); obtain ⟨hcz24_0, hcz24_1, hcz24_2, hfz24_0, hfz24_1, hfz24_2⟩ := zc10_3 (w := w23) BK486.out) | ((with_reducible refine gate_callee (f := 44) rfl ?_); refine goesL_ (some 34) rfl rfl Try.func44 (by kernel_rfl) rfl #[.agg #[.slice A485_0 ((rd_T47 l1 x25_2).f0).length c485_0, .int .i64 ((rd_T47 l1 x25_2).f1), .int .i64 ((rd_T47 l1 x25_2).f2)]] rfl zT10 ?_; (with_reducible refine (impl_HartBytes.calls k2 _ _ ((rd_T47 l1 x25_2).f0) ((rd_T47 l1 x25_2).f1) ((rd_T47 l1 x25_2).f2) t488 _ ?side1 ?side2 A19.out).mono ?_); (case side1 => exact zC10 (Kd.C_below HR485_0.out HB.out)); (case side2 => exact HC485_0.out); rintro e w25 ⟨v489, rfl, ho0, hb⟩; refine ⟨_, rfl, ?_⟩; have n0_ := Aside0.mk (Kd.R_elder' (zR10 HO_5.out) (Kd.R_base ho0) hb); have n1_ := Aside0.mk (Kd.R_lower (Kd.R_new' ho0 (Kd.R_lt (zR10 HO_5.out))) (below_size (zB10_2))); have n2_ := Aside0.mk (zb10 BK486.out hb); have n3_ := Aside0.mk (below_step (zB10_2) hb); clear HO_5; clear BK486; clear HB; have HO_5 := n0_; have HO490 := n1_; have BK486 := n2_; have HB := n3_; clear n0_ n1_ n2_ n3_; (try clear hb); (try clear hb2); (try clear hk); (try clear hi); (try clear ho0); obtain ⟨Ao27, co27, eo27⟩ := Kd.R_slice HO490.out; subst eo27) | ((with_reducible refine gate_builtin (b := .append) (xs := #[.tmp 32, .tmp 34]) rfl ?_); (try (refine gate_guard (by rfl) ?_; dsimp only)); at_builtin; refine Kd.R_append_rows (Kd.int .u8) (w0 := w) w.heap.size rfl (.tmp 32) (.tmp 34) 22 5 (.int .u8 0) 1 rfl Try.underlying22 info5 rfl (by decide) (by omega) u5 x5_2 t488 _ _ _ (fun k_ => some k_ ≠ (.slice Ao27 t488.length co27 : Value).ownBlock) (fun _ => False) rfl rfl ?aO ?aR (fun _ _ h => h) (fun _ h => h.elim) ?aF ?aB ?aS ?aL ?_; (case aR => exact zC10 (Kd.R_reads' HO490.out).2.2); (case aB => exact (zB10_2)); (case aF => exact (fun k_ hk => Kd.fresh' (Kd.R_lt (zR10 HO490.out)) k_ hk)); (case aO => exact (by (with_reducible repeat (first | apply Kd.R_alloc | apply Kd.R_drewN | apply Kd.R_drew)); exact Kd.R_mono HO_5.out (fun _ hk => hk.2))); (case aS => exact (below_size (zB10_2))); (case aL => have := LMc20.out; omega); intro v492 w26 ho hb hg hat; rw [← Ny491.out] at ho; have n0_ := Aside0.mk (zg10 BK486.out hg (Kd.R_ne HO_5.out BK486.out (by decide))); have n1_ := Aside0.mk (Kd.R_after (ok := (fun _ => True)) (zR10 HO490.out) hg hat); have n2_ := Aside0.mk (hb); have n3_ := Aside0.mk (ho); clear BK486; clear HO490; clear HB; clear HO_5; have BK486 := n0_; have HO490 := n1_; have HB := n2_; have HO493 := n3_; clear n0_ n1_ n2_ n3_; clear ho hb hg hat))
     go_roundg k2
     case measure => have := HJ2.out; have := HK2.out; omega
     case rel => exact ⟨(y491), (wrap64 (x25_2 + 1)), (by first | rfl | (simp; done) | (simp [*]; done)), H', ⟨by have := HJ2.out; have := HK2.out; omega⟩, ⟨by (with_reducible repeat (first | apply Kd.R_alloc | apply Kd.R_drewN | apply Kd.R_drew)); exact Kd.R_mono HO493.out (fun _ hk => trivial)⟩, ⟨zB10_2⟩⟩

end Go.Proofs.Ytajhfpeijagpnaa.PFnResumes
