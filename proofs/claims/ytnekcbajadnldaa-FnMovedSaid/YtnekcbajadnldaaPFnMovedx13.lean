-- made by wip/tools/myprint.py out of the seat's translation
import Derived.Test.YtnekcbajadnldaaPFnMovedx0
namespace Go.Proofs.Ytnekcbajadnldaa.PFnMoved
open Go.RowKit Go.Proofs.YtnekcbajadnldaaW.PrintWords Go.Proofs.YtnekcbajadnldaaW.PrintLast Go.Proofs.YtnekcbajadnldaaW.PrintMore
attribute [local go_sem] max2_int min2_int max_two min_two max_three min_three max_four min_four   -- for this text's walks alone
set_option linter.unusedVariables false
set_option linter.unusedSimpArgs false
abbrev zq13_0 : Array Bool := #[true, true, true, true, true, true, true, true, true, false, false, false]
abbrev zq13_1 : Array Bool := #[true, true, true, true, true, false, true, true, true, false, false, false]
theorem zR13 {p q : Prop} (x : q) (h : q → p := by intro h; (with_reducible repeat (first | apply Kd.R_alloc | apply Kd.R_drewN | apply Kd.R_drew)); exact h) : p := h x
theorem zK13 {p q : Prop} (x : q) (h : q → p := by intro h; (with_reducible repeat (first | refine blk_drewN ?_ _ | refine blk_drew ?_ | refine blk_alloc ?_ _)); exact h) : p := h x
theorem zC13 {p q : Prop} (x : q) (h : q → p := by intro h; repeat (first | exact h | (with_reducible refine Kd.C_alloc ?_ _) | (with_reducible refine Kd.C_drewN ?_ _) | (with_reducible refine Kd.C_drew ?_))) : p := h x
theorem zb13 {W w w1 : World} {g : Nat} {o : Obj} (x : W.heap[g]? = some o) (hb : Below w.heap.size w w1) (h : W.heap[g]? = some o → w.heap[g]? = some o := by intro h; (with_reducible repeat (first | refine blk_drewN ?_ _ | refine blk_drew ?_ | refine blk_alloc ?_ _)); exact h) : w1.heap[g]? = some o := blk_below (h x) hb
theorem zg13 {W w w1 : World} {g : Nat} {o : Obj} {row : Option Nat} (x : W.heap[g]? = some o) (hg : w.grownBy w1 row) (hne : some g ≠ row) (h : W.heap[g]? = some o → w.heap[g]? = some o := by intro h; (with_reducible repeat (first | refine blk_drewN ?_ _ | refine blk_drew ?_ | refine blk_alloc ?_ _)); exact h) : w1.heap[g]? = some o := blk_grown (h x) hg hne
theorem zn13 {W w : World} {g g' : Nat} {o : Obj} (x : W.heap[g]? = some o) (hg : g' = w.heap.size) (h : W.heap[g]? = some o → w.heap[g]? = some o := by intro h; (with_reducible repeat (first | refine blk_drewN ?_ _ | refine blk_drew ?_ | refine blk_alloc ?_ _)); exact h) : g ≠ g' := by rw [hg]; exact Nat.ne_of_lt (blk_lt (h x))
theorem zm13 {W w : World} {g g' : Nat} {o : Obj} (x : W.heap[g]? = some o) (hg : g' = w.heap.size) (h : W.heap[g]? = some o → w.heap[g]? = some o := by intro h; (with_reducible repeat (first | refine blk_drewN ?_ _ | refine blk_drew ?_ | refine blk_alloc ?_ _)); exact h) : g' ≠ g := by rw [hg]; exact Nat.ne_of_gt (blk_lt (h x))
theorem zP13 {p q : Prop} (x : q) (h : q → p := by intro h; (with_reducible repeat (first | refine blk_drewN ?_ _ | refine blk_drew ?_ | refine blk_alloc ?_ _)); exact h) : p := h x
theorem zV13 {a b : Act} (h : a = b := by simp only [Act.put, List.setIfInBounds_toArray, List.set_cons_zero, List.set_cons_succ, i64_w, i32_w]; rfl) : a = b := h
theorem zE13 {p : Prop} (h : p := by first | rfl | (simp [errW_none, errW_some] <;> rfl) | (simp [*, errW_none, errW_some] <;> rfl)) : p := h
theorem zB13_0 {p : Prop} (h : p := by repeat (first | (with_reducible first | exact HB.out | apply below_alloc | apply pw_below_drewN | apply below_drew1) | exact HB.out)) : p := h
theorem zB13_1 {p : Prop} (h : p := by repeat (first | (with_reducible first | exact HB.out | apply below_alloc | apply pw_below_drewN | apply below_drew1 | refine below_set ?_ GE349.out) | exact HB.out)) : p := h
theorem zB13_2 {p : Prop} (h : p := by repeat (first | (with_reducible first | exact HB.out | apply below_alloc | apply pw_below_drewN | apply below_drew1 | refine below_set ?_ GE349.out | refine below_set ?_ GE350.out) | exact HB.out)) : p := h

/-! ### spec_l27Copy: function 119 -/
def spec_l27Copy.f (a0_0 : ByteArray) (l0_1 : List (S52)) (l0_2 : List (S56)) : Option (ByteArray × (List (S52)) × (List (S56))) := (some (([] : List (S52)) : List (S52))).bind fun y351 => (if y351.length + l0_1.length < 3518437208883 then ((some (([] : List (S56)) : List (S56))).bind fun y357 => (if y357.length + l0_2.length < 5864062014805 then (some (a0_0, (y351 ++ l0_1), (y357 ++ l0_2))) else (none))) else (none))
def spec_l27Copy.T1 : Bool × List (List Nat × List Nat) := (true, [([], []), ([0], [0]), ([], []), ([], []), ([3], [3]), ([2, 4], [2, 4]), ([], []), ([], []), ([7], [7]), ([6, 8, 5], [6, 8]), ([1, 5, 9], [1, 5, 9]), ([10, 9, 0, 1, 2, 3, 4, 5, 6, 7, 8, 9, 10], [10])])
def spec_l27Copy.B1 : List Nat := [0, 1, 0, 0, 8, 28, 0, 0, 128, 508, 1023, 2047]
theorem spec_l27Copy.tab1 : rtab .any (opsOf Try.f119 1) = spec_l27Copy.T1 := by kernel_rfl
theorem spec_l27Copy.bits1 : waitsOk spec_l27Copy.T1.2 spec_l27Copy.B1 = true := by kernel_rfl
set_option maxHeartbeats 8000000 in
set_option maxRecDepth 100000 in
theorem spec_l27Copy.calls (a0_0 : ByteArray) (A0_1 : Option Addr) (c0_1 : Nat) (l0_1 : List (S52)) (A0_2 : Option Addr) (c0_2 : Nat) (l0_2 : List (S56)) (r1 : ByteArray) (r2 : List (S52)) (r3 : List (S56)) (w : World) (hr0_1 : Kd.C k52 w A0_1 l0_1.length l0_1) (hc0_1 : l0_1.length ≤ c0_1) (hr0_2 : Kd.C k56 w A0_2 l0_2.length l0_2) (hc0_2 : l0_2.length ≤ c0_2) (h : spec_l27Copy.f a0_0 l0_1 l0_2 = some (r1, r2, r3)) :
  Calls Try.prog 119 #[.agg #[.string a0_0, .slice A0_1 l0_1.length c0_1, .slice A0_2 l0_2.length c0_2]] w fun e w' => ∃ v1_ v2_ : Value, e = .returned (.agg #[.string r1, v1_, v2_]) ∧ Kd.R k52 52 w' w.heap.size (fun _ => True) v1_ r2 ∧ Kd.R k56 56 w' w.heap.size (fun _ => True) v2_ r3 ∧ Below w.heap.size w w' := by
 have hu45 := Try.underlying45
 have HR0_1 := Aside0.mk hr0_1
 have HC0_1 := Aside0.mk hc0_1
 clear hr0_1 hc0_1
 have HR0_2 := Aside0.mk hr0_2
 have HC0_2 := Aside0.mk hc0_2
 clear hr0_2 hc0_2
 have HB := Aside0.mk (Below.refl w.heap.size w)
 have H : ((some (([] : List (S52)) : List (S52))).bind fun y351 => (if y351.length + l0_1.length < 3518437208883 then ((some (([] : List (S56)) : List (S56))).bind fun y357 => (if y357.length + l0_2.length < 5864062014805 then (some (a0_0, (y351 ++ l0_1), (y357 ++ l0_2))) else (none))) else (none))) = some (r1, r2, r3) := h
 clear h
 obtain ⟨y351, hy351⟩ : ∃ y_ : List (S52), y_ = (([] : List (S52))) := ⟨_, rfl⟩
 replace H : (if y351.length + l0_1.length < 3518437208883 then ((some (([] : List (S56)) : List (S56))).bind fun y357 => (if y357.length + l0_2.length < 5864062014805 then (some (a0_0, (y351 ++ l0_1), (y357 ++ l0_2))) else (none))) else (none)) = some (r1, r2, r3) := by first | (rw [hy351]; with_reducible exact H) | (have H2_ := (Option.bind_some _ _).symm.trans H; rw [hy351]; with_reducible exact H2_) | (have H2_ := (Option.bind_some _ _).symm.trans H; with_reducible exact H2_) | with_reducible exact H | (rw [hy351]; exact H) | exact H
 have Ny351 := Aside0.mk hy351
 clear hy351
 by_cases c2 : y351.length + l0_1.length < 3518437208883
 rotate_left
 ·rw [if_neg c2] at H
  exact absurd H (by simp)
 rw [if_pos c2] at H
 have LMc2 := Aside0.mk c2
 clear c2
 obtain ⟨y354, hy354⟩ : ∃ y_ : List (S52), y_ = (y351 ++ l0_1) := ⟨_, rfl⟩
 replace H : ((some (([] : List (S56)) : List (S56))).bind fun y357 => (if y357.length + l0_2.length < 5864062014805 then (some (a0_0, y354, (y357 ++ l0_2))) else (none))) = some (r1, r2, r3) := by first | (rw [hy354]; with_reducible exact H) | (have H2_ := (Option.bind_some _ _).symm.trans H; rw [hy354]; with_reducible exact H2_) | (have H2_ := (Option.bind_some _ _).symm.trans H; with_reducible exact H2_) | with_reducible exact H | (rw [hy354]; exact H) | exact H
 have Ny354 := Aside0.mk hy354
 clear hy354
 obtain ⟨y357, hy357⟩ : ∃ y_ : List (S56), y_ = (([] : List (S56))) := ⟨_, rfl⟩
 replace H : (if y357.length + l0_2.length < 5864062014805 then (some (a0_0, y354, (y357 ++ l0_2))) else (none)) = some (r1, r2, r3) := by first | (rw [hy357]; with_reducible exact H) | (have H2_ := (Option.bind_some _ _).symm.trans H; rw [hy357]; with_reducible exact H2_) | (have H2_ := (Option.bind_some _ _).symm.trans H; with_reducible exact H2_) | with_reducible exact H | (rw [hy357]; exact H) | exact H
 have Ny357 := Aside0.mk hy357
 clear hy357
 by_cases c3 : y357.length + l0_2.length < 5864062014805
 rotate_left
 ·rw [if_neg c3] at H
  exact absurd H (by simp)
 rw [if_pos c3] at H
 have LMc3 := Aside0.mk c3
 clear c3
 obtain ⟨y360, hy360⟩ : ∃ y_ : List (S56), y_ = (y357 ++ l0_2) := ⟨_, rfl⟩
 replace H : (some (a0_0, y354, y360)) = some (r1, r2, r3) := by first | (rw [hy360]; with_reducible exact H) | (have H2_ := (Option.bind_some _ _).symm.trans H; rw [hy360]; with_reducible exact H2_) | (have H2_ := (Option.bind_some _ _).symm.trans H; with_reducible exact H2_) | with_reducible exact H | (rw [hy360]; exact H) | exact H
 have Ny360 := Aside0.mk hy360
 clear hy360
 simp only [Option.some.injEq, Prod.mk.injEq] at H
 obtain ⟨rfl, rfl, rfl⟩ := H
 go_enter Try.func119, Try.ntmps119
 try go_wp2_with (first | ((with_reducible refine gate_dst (N := 1) rfl ?_); refine box_event ?hg (N := 1) ?hd (cs := #[.string a0_0, .slice A0_1 l0_1.length c0_1, .slice A0_2 l0_2.length c0_2]) (t := 45) ?hr ?_; (case hd => rfl); (case hg => rfl); (case hr => first | (go_simp; done) | (go_simp; rfl)); intro gb349 hg w4 hbox hb; have n0_ := Aside0.mk (below_step (zB13_0) hb); have n1_ := Aside0.mk (hbox); have n2_ := Aside0.mk ((by rw [hg]; exact (below_size (zB13_0)) : w.heap.size ≤ gb349)); have n3_ := Aside0.mk ((by rw [hg]; exact (below_size (zB13_0)) : w.heap.size ≤ gb349)); clear HB; have HB := n0_; have BK349 := n1_; have GW349 := n2_; have GE349 := n3_; clear n0_ n1_ n2_ n3_; clear hb hbox hg) | ((with_reducible refine gate_dst (N := 2) rfl ?_); refine box_event ?hg (N := 2) ?hd (cs := #[.string (⟨#[]⟩ : ByteArray), .slice none 0 0, .slice none 0 0]) (t := 45) ?hr ?_; (case hd => rfl); (case hg => rfl); (case hr => first | (go_simp; done) | (go_simp; rfl)); intro gb350 hg w5 hbox hb; have n0_ := Aside0.mk (zb13 BK349.out hb); have n1_ := Aside0.mk (below_step (zB13_1) hb); have n2_ := Aside0.mk (hbox); have n3_ := Aside0.mk ((by rw [hg]; exact (below_size (zB13_1)) : w.heap.size ≤ gb350)); have n4_ := Aside0.mk ((by rw [hg]; exact (below_size (zB13_1)) : w.heap.size ≤ gb350)); have n5_ := Aside0.mk ((zn13 BK349.out hg : gb349 ≠ gb350)); have n6_ := Aside0.mk ((zm13 BK349.out hg : gb350 ≠ gb349)); clear BK349; clear HB; have BK349 := n0_; have HB := n1_; have BK350 := n2_; have GW350 := n3_; have GE350 := n4_; have NB349_350 := n5_; have NB350_349 := n6_; clear n0_ n1_ n2_ n3_ n4_ n5_ n6_; clear hb hbox hg))
 have n0_ := Aside0.mk (blk_drew BK349.out)
 have n1_ := Aside0.mk (blk_drew BK350.out)
 have n2_ := Aside0.mk (below_drew1 HB.out)
 clear BK349 BK350 HB
 have BK349 := n0_
 have BK350 := n1_
 have HB := n2_
 clear n0_ n1_ n2_
 refine start_ (n := 12) (S := fun w' => w'.cell? ⟨gb349, 0, none⟩ = some (.string a0_0) ∧ w'.cell? ⟨gb349, 1, none⟩ = some (.slice A0_1 l0_1.length c0_1) ∧ w'.cell? ⟨gb349, 2, none⟩ = some (.slice A0_2 l0_2.length c0_2)) (ds := []) #[false, false, false, false, false, false, false, false, false, false, false, false] (by kernel_rfl) rfl rfl ⟨(blk_cell BK349.out 0).trans rfl, (blk_cell BK349.out 1).trans rfl, (blk_cell BK349.out 2).trans rfl⟩ (fun hHeld => ?_); refine with_tabW spec_l27Copy.tab1 spec_l27Copy.bits1 (fun HT_ HW_ => ?_)
 generalize w5.drew = w6 at BK349 BK350 HB hHeld ⊢
 refine pure_ (i := 0) (N := some 3) (v := ?_) (a' := ?_) #[true, false, false, false, false, false, false, false, false, false, false, false] rfl rfl (any_of HT_.out (by kernel_rfl)) (fun _ _ _ h => h) (Or.inl ⟨by rfl, ?_⟩) ?_ ?_
 rotate_left
 ·intro w'
  go_simp
  with_reducible rfl
 rotate_left
 ·exact zV13
 refine pure_ (i := 3) (N := some 6) (v := ?_) (a' := ?_) #[true, false, false, true, false, false, false, false, false, false, false, false] rfl rfl (any_of HT_.out (by kernel_rfl)) (fun _ _ _ h => h) (Or.inl ⟨by rfl, ?_⟩) ?_ ?_
 rotate_left
 ·intro w'
  go_simp
  with_reducible rfl
 rotate_left
 ·exact zV13
 refine pure_ (i := 7) (N := some 10) (v := ?_) (a' := ?_) #[true, false, false, true, false, false, false, true, false, false, false, false] rfl rfl (any_of HT_.out (by kernel_rfl)) (fun _ _ _ h => h) (Or.inl ⟨by rfl, ?_⟩) ?_ ?_
 rotate_left
 ·intro w'
  go_simp
  with_reducible rfl
 rotate_left
 ·exact zV13
 refine take_ (i := 1) (N := some 4) (v := ?_) (a' := ?_) #[true, true, false, true, false, false, false, true, false, false, false, false] rfl rfl (take_ofW HT_.out HW_.out (by kernel_rfl)) (fun _ _ _ h => h) (Or.inl ⟨by rfl, ?_⟩) hHeld ?_ ?_
 rotate_left
 ·rintro w' ⟨s0, s1, s2⟩
  go_simp
  with_reducible rfl
 rotate_left
 ·exact zV13
 refine take_ (i := 4) (N := some 7) (v := ?_) (a' := ?_) #[true, true, false, true, true, false, false, true, false, false, false, false] rfl rfl (take_ofW HT_.out HW_.out (by kernel_rfl)) (fun _ _ _ h => h) (Or.inl ⟨by rfl, ?_⟩) hHeld ?_ ?_
 rotate_left
 ·rintro w' ⟨s0, s1, s2⟩
  go_simp
  with_reducible rfl
 rotate_left
 ·exact zV13
 refine take_ (i := 8) (N := some 11) (v := ?_) (a' := ?_) #[true, true, false, true, true, false, false, true, true, false, false, false] rfl rfl (take_ofW HT_.out HW_.out (by kernel_rfl)) (fun _ _ _ h => h) (Or.inl ⟨by rfl, ?_⟩) hHeld ?_ ?_
 rotate_left
 ·rintro w' ⟨s0, s1, s2⟩
  go_simp
  with_reducible rfl
 rotate_left
 ·exact zV13
 refine join_ (σ := Value × Value × Value) 3 zq13_0 (fun s_ => [(5, s_.1), (8, s_.2.1), (9, s_.2.2)]) (fun s_ w' => (w'.cell? ⟨gb349, 0, none⟩ = some (.string a0_0) ∧ w'.cell? ⟨gb349, 1, none⟩ = some (.slice A0_1 l0_1.length c0_1) ∧ w'.cell? ⟨gb349, 2, none⟩ = some (.slice A0_2 l0_2.length c0_2)) ∧ (Kd.R k52 52 w' w.heap.size (fun _ => True) s_.2.1 y354) ∧ (Kd.R k56 56 w' w.heap.size (fun _ => True) s_.2.2 y357) ∧ (w'.heap[gb349]? = some (.cells #[.string a0_0, .slice A0_1 l0_1.length c0_1, .slice A0_2 l0_2.length c0_2] 45 (0, 0))) ∧ (w'.heap[gb350]? = some (.cells #[.string (⟨#[]⟩ : ByteArray), .slice none 0 0, .slice none 0 0] 45 (0, 0))) ∧ (Below w.heap.size w w')) ?_ ?_
 rotate_left
 ·intro hCont
  refine two_ (i := 2) (j := 6) (Ni := some 5) (Nj := some 9) #[true, true, true, true, true, false, false, true, true, false, false, false] #[true, true, false, true, true, false, true, true, true, false, false, false] rfl rfl rfl rfl (two_of HT_.out (by kernel_rfl)) (by decide) (by decide) (fun K hK => ?_) (fun K hK => ?_)
  ·skip
   refine Kd.R_lit_step k52 _ 52 ?hg (N := 5) ?hd (xs := ([] : List (S52))) (inner := []) (ok := fun _ => True) (okp := fun _ => True) ?hr ?hp (fun _ hk => hk) trivial (Below.refl _ _) (Nat.le_refl _) (by simp) ?_; (case hd => rfl); (case hg => rfl); (case hr => first | (go_simp; done) | (go_simp; rfl)); (case hp => exact (Reps.none _ _))
   intro v352 w7 ho8 hb hg_ hnew_
   clear hg_ hnew_
   (first | rw [← Ny351.out] at ho8 | (simp only [Int.reduceToNat] at ho8; rw [← Ny351.out] at ho8))
   have n0_ := Aside0.mk (Kd.R_lower ho8 (below_size (zB13_2)))
   have n1_ := Aside0.mk (zb13 BK349.out hb)
   have n2_ := Aside0.mk (zb13 BK350.out hb)
   have n3_ := Aside0.mk (below_step (zB13_2) hb)
   clear BK349 BK350 HB
   have HO353 := n0_
   have BK349 := n1_
   have BK350 := n2_
   have HB := n3_
   clear n0_ n1_ n2_ n3_ hb ho8
   refine hK.out _ _ ⟨(blk_cell BK349.out 0).trans rfl, (blk_cell BK349.out 1).trans rfl, (blk_cell BK349.out 2).trans rfl⟩ (fun hHeld => ?_)
   clear hK K
   refine norm_ (a' := ?_) ?_ ?_
   rotate_left
   ·show Act.put _ (some 5) _ = _
    simp only [Act.put, List.setIfInBounds_toArray, List.set_cons_zero, List.set_cons_succ, i64_w, i32_w]
    rfl
   refine two_ (i := 5) (j := 6) (Ni := some 8) (Nj := some 9) #[true, true, true, true, true, true, false, true, true, false, false, false] zq13_1 rfl rfl rfl rfl (two_of HT_.out (by kernel_rfl)) (by decide) (by decide) (fun K hK => ?_) (fun K hK => ?_)
   ·skip
    refine Kd.R_append_rows_step k52 (w0 := w) w.heap.size (by rfl) (.tmp 5) (.tmp 7) 42 52 (.agg #[(.int .i64 0), (.int .i64 0), (.int .i64 0), (.int .i64 0), (.int .i64 0)]) 40 rfl Try.underlying42 info52 rfl (by decide) (by omega) v352 y351 l0_1 _ _ _ (fun _ => True) (fun _ => False) rfl rfl ?aO ?aR (fun _ _ h => h) (fun _ h => h.elim) ?aF ?aB ?aS ?aL ?_
    (case aR => exact zC13 (Kd.C_below HR0_1.out HB.out))
    (case aB => exact (zB13_2))
    (case aF => exact (fun _ _ => trivial))
    (case aO => exact (zR13 HO353.out))
    (case aS => exact (below_size (zB13_2)))
    (case aL => have := LMc2.out; omega)
    intro v355 w9 ho hb hg hat
    rw [← Ny354.out] at ho
    have n0_ := Aside0.mk (zg13 BK349.out hg (Kd.R_ne HO353.out BK349.out (by decide)))
    have n1_ := Aside0.mk (zg13 BK350.out hg (Kd.R_ne HO353.out BK350.out (by decide)))
    have n2_ := Aside0.mk (hb)
    have n3_ := Aside0.mk (ho)
    clear BK349 BK350 HB HO353
    have BK349 := n0_
    have BK350 := n1_
    have HB := n2_
    have HO356 := n3_
    clear n0_ n1_ n2_ n3_ ho hb hg hat
    refine hK.out _ _ ⟨(blk_cell BK349.out 0).trans rfl, (blk_cell BK349.out 1).trans rfl, (blk_cell BK349.out 2).trans rfl⟩ (fun hHeld => ?_)
    clear hK K
    refine norm_ (a' := ?_) ?_ ?_
    rotate_left
    ·show Act.put _ (some 8) _ = _
     simp only [Act.put, List.setIfInBounds_toArray, List.set_cons_zero, List.set_cons_succ, i64_w, i32_w]
     rfl
    refine one_ (i := 6) (N := some 9) zq13_0 rfl rfl (one_of HT_.out (by kernel_rfl)) (by decide) (fun K hK => ?_)
    refine Kd.R_lit_step k56 _ 56 ?hg (N := 9) ?hd (xs := ([] : List (S56))) (inner := []) (ok := fun _ => True) (okp := fun _ => True) ?hr ?hp (fun _ hk => hk) trivial (Below.refl _ _) (Nat.le_refl _) (by simp) ?_; (case hd => rfl); (case hg => rfl); (case hr => first | (go_simp; done) | (go_simp; rfl)); (case hp => exact (Reps.none _ _))
    intro v358 w10 ho11 hb hg_ hnew_
    clear hg_ hnew_
    (first | rw [← Ny357.out] at ho11 | (simp only [Int.reduceToNat] at ho11; rw [← Ny357.out] at ho11))
    have n0_ := Aside0.mk (Kd.R_below (zR13 HO356.out) hb)
    have n1_ := Aside0.mk (Kd.R_lower ho11 (below_size (zB13_2)))
    have n2_ := Aside0.mk (zb13 BK349.out hb)
    have n3_ := Aside0.mk (zb13 BK350.out hb)
    have n4_ := Aside0.mk (below_step (zB13_2) hb)
    clear HO356 BK349 BK350 HB
    have HO356 := n0_
    have HO359 := n1_
    have BK349 := n2_
    have BK350 := n3_
    have HB := n4_
    clear n0_ n1_ n2_ n3_ n4_ hb ho11
    refine hK.out _ _ ⟨(blk_cell BK349.out 0).trans rfl, (blk_cell BK349.out 1).trans rfl, (blk_cell BK349.out 2).trans rfl⟩ (fun hHeld => ?_)
    clear hK K
    refine norm_ (a' := ?_) ?_ ?_
    rotate_left
    ·show Act.put _ (some 9) _ = _
     simp only [Act.put, List.setIfInBounds_toArray, List.set_cons_zero, List.set_cons_succ, i64_w, i32_w]
     rfl
    exact norm_ (by simp only [putAll, Act.put, List.setIfInBounds_toArray, List.set_cons_zero, List.set_cons_succ]) (hCont (v352, v355, v358) _ ⟨hHeld, (zR13 HO356.out), (zR13 HO359.out), (zK13 BK349.out), (zK13 BK350.out), (zB13_2)⟩)
   ·skip
    refine Kd.R_lit_step k56 _ 56 ?hg (N := 9) ?hd (xs := ([] : List (S56))) (inner := []) (ok := fun _ => True) (okp := fun _ => True) ?hr ?hp (fun _ hk => hk) trivial (Below.refl _ _) (Nat.le_refl _) (by simp) ?_; (case hd => rfl); (case hg => rfl); (case hr => first | (go_simp; done) | (go_simp; rfl)); (case hp => exact (Reps.none _ _))
    intro v358 w9 ho10 hb hg_ hnew_
    clear hg_ hnew_
    (first | rw [← Ny357.out] at ho10 | (simp only [Int.reduceToNat] at ho10; rw [← Ny357.out] at ho10))
    have n0_ := Aside0.mk (Kd.R_below (zR13 HO353.out) hb)
    have n1_ := Aside0.mk (Kd.R_lower ho10 (below_size (zB13_2)))
    have n2_ := Aside0.mk (zb13 BK349.out hb)
    have n3_ := Aside0.mk (zb13 BK350.out hb)
    have n4_ := Aside0.mk (below_step (zB13_2) hb)
    clear HO353 BK349 BK350 HB
    have HO353 := n0_
    have HO359 := n1_
    have BK349 := n2_
    have BK350 := n3_
    have HB := n4_
    clear n0_ n1_ n2_ n3_ n4_ hb ho10
    refine hK.out _ _ ⟨(blk_cell BK349.out 0).trans rfl, (blk_cell BK349.out 1).trans rfl, (blk_cell BK349.out 2).trans rfl⟩ (fun hHeld => ?_)
    clear hK K
    refine norm_ (a' := ?_) ?_ ?_
    rotate_left
    ·show Act.put _ (some 9) _ = _
     simp only [Act.put, List.setIfInBounds_toArray, List.set_cons_zero, List.set_cons_succ, i64_w, i32_w]
     rfl
    refine one_ (i := 5) (N := some 8) zq13_0 rfl rfl (one_of HT_.out (by kernel_rfl)) (by decide) (fun K hK => ?_)
    refine Kd.R_append_rows_step k52 (w0 := w) w.heap.size (by rfl) (.tmp 5) (.tmp 7) 42 52 (.agg #[(.int .i64 0), (.int .i64 0), (.int .i64 0), (.int .i64 0), (.int .i64 0)]) 40 rfl Try.underlying42 info52 rfl (by decide) (by omega) v352 y351 l0_1 _ _ _ (fun _ => True) (fun _ => False) rfl rfl ?aO ?aR (fun _ _ h => h) (fun _ h => h.elim) ?aF ?aB ?aS ?aL ?_
    (case aR => exact zC13 (Kd.C_below HR0_1.out HB.out))
    (case aB => exact (zB13_2))
    (case aF => exact (fun _ _ => trivial))
    (case aO => exact (zR13 HO353.out))
    (case aS => exact (below_size (zB13_2)))
    (case aL => have := LMc2.out; omega)
    intro v355 w11 ho hb hg hat
    rw [← Ny354.out] at ho
    have n0_ := Aside0.mk (zg13 BK349.out hg (Kd.R_ne HO353.out BK349.out (by decide)))
    have n1_ := Aside0.mk (zg13 BK350.out hg (Kd.R_ne HO353.out BK350.out (by decide)))
    have n2_ := Aside0.mk (Kd.R_over' (zR13 HO359.out) (Kd.R_typed (zR13 HO353.out)) (by decide) hg)
    have n3_ := Aside0.mk (hb)
    have n4_ := Aside0.mk (ho)
    clear BK349 BK350 HO359 HB HO353
    have BK349 := n0_
    have BK350 := n1_
    have HO359 := n2_
    have HB := n3_
    have HO356 := n4_
    clear n0_ n1_ n2_ n3_ n4_ ho hb hg hat
    refine hK.out _ _ ⟨(blk_cell BK349.out 0).trans rfl, (blk_cell BK349.out 1).trans rfl, (blk_cell BK349.out 2).trans rfl⟩ (fun hHeld => ?_)
    clear hK K
    refine norm_ (a' := ?_) ?_ ?_
    rotate_left
    ·show Act.put _ (some 8) _ = _
     simp only [Act.put, List.setIfInBounds_toArray, List.set_cons_zero, List.set_cons_succ, i64_w, i32_w]
     rfl
    exact norm_ (by simp only [putAll, Act.put, List.setIfInBounds_toArray, List.set_cons_zero, List.set_cons_succ]) (hCont (v352, v355, v358) _ ⟨hHeld, (zR13 HO356.out), (zR13 HO359.out), (zK13 BK349.out), (zK13 BK350.out), (zB13_2)⟩)
  ·skip
   refine Kd.R_lit_step k56 _ 56 ?hg (N := 9) ?hd (xs := ([] : List (S56))) (inner := []) (ok := fun _ => True) (okp := fun _ => True) ?hr ?hp (fun _ hk => hk) trivial (Below.refl _ _) (Nat.le_refl _) (by simp) ?_; (case hd => rfl); (case hg => rfl); (case hr => first | (go_simp; done) | (go_simp; rfl)); (case hp => exact (Reps.none _ _))
   intro v358 w7 ho8 hb hg_ hnew_
   clear hg_ hnew_
   (first | rw [← Ny357.out] at ho8 | (simp only [Int.reduceToNat] at ho8; rw [← Ny357.out] at ho8))
   have n0_ := Aside0.mk (Kd.R_lower ho8 (below_size (zB13_2)))
   have n1_ := Aside0.mk (zb13 BK349.out hb)
   have n2_ := Aside0.mk (zb13 BK350.out hb)
   have n3_ := Aside0.mk (below_step (zB13_2) hb)
   clear BK349 BK350 HB
   have HO359 := n0_
   have BK349 := n1_
   have BK350 := n2_
   have HB := n3_
   clear n0_ n1_ n2_ n3_ hb ho8
   refine hK.out _ _ ⟨(blk_cell BK349.out 0).trans rfl, (blk_cell BK349.out 1).trans rfl, (blk_cell BK349.out 2).trans rfl⟩ (fun hHeld => ?_)
   clear hK K
   refine norm_ (a' := ?_) ?_ ?_
   rotate_left
   ·show Act.put _ (some 9) _ = _
    simp only [Act.put, List.setIfInBounds_toArray, List.set_cons_zero, List.set_cons_succ, i64_w, i32_w]
    rfl
   refine one_ (i := 2) (N := some 5) zq13_1 rfl rfl (one_of HT_.out (by kernel_rfl)) (by decide) (fun K hK => ?_)
   refine Kd.R_lit_step k52 _ 52 ?hg (N := 5) ?hd (xs := ([] : List (S52))) (inner := []) (ok := fun _ => True) (okp := fun _ => True) ?hr ?hp (fun _ hk => hk) trivial (Below.refl _ _) (Nat.le_refl _) (by simp) ?_; (case hd => rfl); (case hg => rfl); (case hr => first | (go_simp; done) | (go_simp; rfl)); (case hp => exact (Reps.none _ _))
   intro v352 w9 ho10 hb hg_ hnew_
   clear hg_ hnew_
   (first | rw [← Ny351.out] at ho10 | (simp only [Int.reduceToNat] at ho10; rw [← Ny351.out] at ho10))
   have n0_ := Aside0.mk (Kd.R_below (zR13 HO359.out) hb)
   have n1_ := Aside0.mk (Kd.R_lower ho10 (below_size (zB13_2)))
   have n2_ := Aside0.mk (zb13 BK349.out hb)
   have n3_ := Aside0.mk (zb13 BK350.out hb)
   have n4_ := Aside0.mk (below_step (zB13_2) hb)
   clear HO359 BK349 BK350 HB
   have HO359 := n0_
   have HO353 := n1_
   have BK349 := n2_
   have BK350 := n3_
   have HB := n4_
   clear n0_ n1_ n2_ n3_ n4_ hb ho10
   refine hK.out _ _ ⟨(blk_cell BK349.out 0).trans rfl, (blk_cell BK349.out 1).trans rfl, (blk_cell BK349.out 2).trans rfl⟩ (fun hHeld => ?_)
   clear hK K
   refine norm_ (a' := ?_) ?_ ?_
   rotate_left
   ·show Act.put _ (some 5) _ = _
    simp only [Act.put, List.setIfInBounds_toArray, List.set_cons_zero, List.set_cons_succ, i64_w, i32_w]
    rfl
   refine one_ (i := 5) (N := some 8) zq13_0 rfl rfl (one_of HT_.out (by kernel_rfl)) (by decide) (fun K hK => ?_)
   refine Kd.R_append_rows_step k52 (w0 := w) w.heap.size (by rfl) (.tmp 5) (.tmp 7) 42 52 (.agg #[(.int .i64 0), (.int .i64 0), (.int .i64 0), (.int .i64 0), (.int .i64 0)]) 40 rfl Try.underlying42 info52 rfl (by decide) (by omega) v352 y351 l0_1 _ _ _ (fun _ => True) (fun _ => False) rfl rfl ?aO ?aR (fun _ _ h => h) (fun _ h => h.elim) ?aF ?aB ?aS ?aL ?_
   (case aR => exact zC13 (Kd.C_below HR0_1.out HB.out))
   (case aB => exact (zB13_2))
   (case aF => exact (fun _ _ => trivial))
   (case aO => exact (zR13 HO353.out))
   (case aS => exact (below_size (zB13_2)))
   (case aL => have := LMc2.out; omega)
   intro v355 w11 ho hb hg hat
   rw [← Ny354.out] at ho
   have n0_ := Aside0.mk (zg13 BK349.out hg (Kd.R_ne HO353.out BK349.out (by decide)))
   have n1_ := Aside0.mk (zg13 BK350.out hg (Kd.R_ne HO353.out BK350.out (by decide)))
   have n2_ := Aside0.mk (Kd.R_over' (zR13 HO359.out) (Kd.R_typed (zR13 HO353.out)) (by decide) hg)
   have n3_ := Aside0.mk (hb)
   have n4_ := Aside0.mk (ho)
   clear BK349 BK350 HO359 HB HO353
   have BK349 := n0_
   have BK350 := n1_
   have HO359 := n2_
   have HB := n3_
   have HO356 := n4_
   clear n0_ n1_ n2_ n3_ n4_ ho hb hg hat
   refine hK.out _ _ ⟨(blk_cell BK349.out 0).trans rfl, (blk_cell BK349.out 1).trans rfl, (blk_cell BK349.out 2).trans rfl⟩ (fun hHeld => ?_)
   clear hK K
   refine norm_ (a' := ?_) ?_ ?_
   rotate_left
   ·show Act.put _ (some 8) _ = _
    simp only [Act.put, List.setIfInBounds_toArray, List.set_cons_zero, List.set_cons_succ, i64_w, i32_w]
    rfl
   exact norm_ (by simp only [putAll, Act.put, List.setIfInBounds_toArray, List.set_cons_zero, List.set_cons_succ]) (hCont (v352, v355, v358) _ ⟨hHeld, (zR13 HO356.out), (zR13 HO359.out), (zK13 BK349.out), (zK13 BK350.out), (zB13_2)⟩)
 rintro ⟨v352, v355, v358⟩ w12 ⟨hS_, h0_, h1_, h2_, h3_, h4_⟩
 have n0_ : Aside0 (Kd.R k52 52 w12 w.heap.size (fun _ => True) v355 y354) := ⟨h0_⟩
 have n1_ : Aside0 (Kd.R k56 56 w12 w.heap.size (fun _ => True) v358 y357) := ⟨h1_⟩
 have n2_ : Aside0 (w12.heap[gb349]? = some (.cells #[.string a0_0, .slice A0_1 l0_1.length c0_1, .slice A0_2 l0_2.length c0_2] 45 (0, 0))) := ⟨h2_⟩
 have n3_ : Aside0 (w12.heap[gb350]? = some (.cells #[.string (⟨#[]⟩ : ByteArray), .slice none 0 0, .slice none 0 0] 45 (0, 0))) := ⟨h3_⟩
 have n4_ : Aside0 (Below w.heap.size w w12) := ⟨h4_⟩
 clear BK349 BK350 HB h0_ h1_ h2_ h3_ h4_
 have HO356 := n0_
 have HO359 := n1_
 have BK349 := n2_
 have BK350 := n3_
 have HB := n4_
 clear n0_ n1_ n2_ n3_ n4_
 have hHeld : w12.cell? ⟨gb349, 0, none⟩ = some (.string a0_0) ∧ w12.cell? ⟨gb349, 1, none⟩ = some (.slice A0_1 l0_1.length c0_1) ∧ w12.cell? ⟨gb349, 2, none⟩ = some (.slice A0_2 l0_2.length c0_2) := hS_
 refine norm_ (a' := ?_) ?_ ?_
 rotate_left
 ·simp only [putAll, Act.put, List.setIfInBounds_toArray, List.set_cons_zero, List.set_cons_succ]
  rfl
 refine one_ (i := 9) (N := some 12) #[true, true, true, true, true, true, true, true, true, true, false, false] rfl rfl (one_of HT_.out (by kernel_rfl)) (by decide) (fun K hK => ?_)
 refine Kd.R_append_rows_step k56 (w0 := w) w.heap.size (by rfl) (.tmp 9) (.tmp 11) 43 56 (.agg #[(.int .i64 0), (.string ⟨#[]⟩)]) 24 rfl Try.underlying43 info56 rfl (by decide) (by omega) v358 y357 l0_2 _ _ _ (fun _ => True) (fun _ => False) rfl rfl ?aO ?aR (fun _ _ h => h) (fun _ h => h.elim) ?aF ?aB ?aS ?aL ?_
 (case aR => exact zC13 (Kd.C_below HR0_2.out HB.out))
 (case aB => exact (zB13_2))
 (case aF => exact (fun _ _ => trivial))
 (case aO => exact (zR13 HO359.out))
 (case aS => exact (below_size (zB13_2)))
 (case aL => have := LMc3.out; omega)
 intro v361 w13 ho hb hg hat
 rw [← Ny360.out] at ho
 have n0_ := Aside0.mk (zg13 BK349.out hg (Kd.R_ne HO359.out BK349.out (by decide)))
 have n1_ := Aside0.mk (zg13 BK350.out hg (Kd.R_ne HO359.out BK350.out (by decide)))
 have n2_ := Aside0.mk (Kd.R_over' (zR13 HO356.out) (Kd.R_typed (zR13 HO359.out)) (by decide) hg)
 have n3_ := Aside0.mk (hb)
 have n4_ := Aside0.mk (ho)
 clear BK349 BK350 HO356 HB HO359
 have BK349 := n0_
 have BK350 := n1_
 have HO356 := n2_
 have HB := n3_
 have HO362 := n4_
 clear n0_ n1_ n2_ n3_ n4_ ho hb hg hat
 obtain ⟨Ao14, co14, eo14⟩ := Kd.R_slice HO362.out
 (first | subst eo14 | (injection eo14 with f1_ f2_ f3_; have f4_ := f1_.symm; have f5_ := f3_.symm; clear f1_ f2_ f3_; subst f4_; subst f5_))
 obtain ⟨Ao15, co15, eo15⟩ := Kd.R_slice HO356.out
 (first | subst eo15 | (injection eo15 with f1_ f2_ f3_; have f4_ := f1_.symm; have f5_ := f3_.symm; clear f1_ f2_ f3_; subst f4_; subst f5_))
 refine hK.out _ _ ⟨(blk_cell BK349.out 0).trans rfl, (blk_cell BK349.out 1).trans rfl, (blk_cell BK349.out 2).trans rfl⟩ (fun hHeld => ?_)
 clear hK K
 refine norm_ (a' := ?_) ?_ ?_
 rotate_left
 ·show Act.put _ (some 12) _ = _
  simp only [Act.put, List.setIfInBounds_toArray, List.set_cons_zero, List.set_cons_succ, i64_w, i32_w]
  rfl
 refine pure_ (i := 10) (N := some 13) (v := ?_) (a' := ?_) #[true, true, true, true, true, true, true, true, true, true, true, false] rfl rfl (any_of HT_.out (by kernel_rfl)) (fun _ _ _ h => h) (Or.inl ⟨by rfl, ?_⟩) ?_ ?_
 rotate_left
 ·intro w'
  go_simp
  with_reducible rfl
 rotate_left
 ·exact zV13
 refine one_ (i := 11) (N := none) #[true, true, true, true, true, true, true, true, true, true, true, true] rfl rfl (one_of HT_.out (by kernel_rfl)) (by decide) (fun K hK => ?_)
 have hs16 : w13.cell? ⟨gb350, 0, none⟩ = some (.string (⟨#[]⟩ : ByteArray)) := (blk_cell BK350.out 0).trans rfl
 have hfs16 := blk_frozen BK350.out 0
 have hns16_0 := NB349_350.out
 have hms16_0 := NB350_349.out
 have hs17 : w13.cell? ⟨gb350, 1, none⟩ = some (.slice none 0 0) := (blk_cell BK350.out 1).trans rfl
 have hfs17 := blk_frozen BK350.out 1
 have hns17_0 := NB349_350.out
 have hms17_0 := NB350_349.out
 have hs18 : w13.cell? ⟨gb350, 2, none⟩ = some (.slice none 0 0) := (blk_cell BK350.out 2).trans rfl
 have hfs18 := blk_frozen BK350.out 2
 have hns18_0 := NB349_350.out
 have hms18_0 := NB350_349.out
 refine skip_ (w1 := ?_) (by rfl) rfl ?_ ?_
 rotate_left
 ·go_simp
  rfl
 refine hK.out _ _ ⟨((cell_far (p := ⟨gb350, _, none⟩) NB349_350.out _).trans (((cell_far (p := ⟨gb350, _, none⟩) NB349_350.out _).trans (((cell_far (p := ⟨gb350, _, none⟩) NB349_350.out _).trans (hHeld.1)))))), ((cell_far (p := ⟨gb350, _, none⟩) NB349_350.out _).trans (((cell_far (p := ⟨gb350, _, none⟩) NB349_350.out _).trans (((cell_far (p := ⟨gb350, _, none⟩) NB349_350.out _).trans (hHeld.2.1)))))), ((cell_far (p := ⟨gb350, _, none⟩) NB349_350.out _).trans (((cell_far (p := ⟨gb350, _, none⟩) NB349_350.out _).trans (((cell_far (p := ⟨gb350, _, none⟩) NB349_350.out _).trans (hHeld.2.2))))))⟩ (fun hHeld => ?_)
 clear hK K
 refine done_ (done_of HT_.out (by kernel_rfl)) ?_
 try go_wp2
 refine bodyPost_ret (results_cell_row rfl _ _ gb350 45 #[.string a0_0, .slice Ao15 y354.length co15, .slice Ao14 y360.length co14] (0, 0) _ rfl (by refine zP13 ?_; refine blk_put (cs := #[.string a0_0, .slice Ao15 y354.length co15, .slice none 0 0]) ?_ 2 _ rfl; refine zP13 ?_; refine blk_put (cs := #[.string a0_0, .slice none 0 0, .slice none 0 0]) ?_ 1 _ rfl; refine zP13 ?_; refine blk_put (cs := #[.string (⟨#[]⟩ : ByteArray), .slice none 0 0, .slice none 0 0]) ?_ 0 _ rfl; refine zP13 ?_; exact BK350.out) Try.underlying45 rfl (by kernel_rfl)) rfl ?_
 exact ⟨_, _, zE13, by (with_reducible repeat (first | apply Kd.R_alloc | apply Kd.R_drewN | apply Kd.R_drew)); exact Kd.R_mono (Kd.R_far (p := ⟨gb350, 2, none⟩) (Kd.R_far (p := ⟨gb350, 1, none⟩) (Kd.R_far (p := ⟨gb350, 0, none⟩) (Kd.R_types HO356.out BK350.out (by decide)) (fun _ hk => hk.2) (.string a0_0)) (fun _ hk => hk.2) (.slice Ao15 y354.length co15)) (fun _ hk => hk.2) (.slice Ao14 y360.length co14)) (fun _ hk => trivial), by (with_reducible repeat (first | apply Kd.R_alloc | apply Kd.R_drewN | apply Kd.R_drew)); exact Kd.R_mono (Kd.R_far (p := ⟨gb350, 2, none⟩) (Kd.R_far (p := ⟨gb350, 1, none⟩) (Kd.R_far (p := ⟨gb350, 0, none⟩) (Kd.R_types HO362.out BK350.out (by decide)) (fun _ hk => hk.2) (.string a0_0)) (fun _ hk => hk.2) (.slice Ao15 y354.length co15)) (fun _ hk => hk.2) (.slice Ao14 y360.length co14)) (fun _ hk => trivial), zB13_2⟩

end Go.Proofs.Ytnekcbajadnldaa.PFnMoved
