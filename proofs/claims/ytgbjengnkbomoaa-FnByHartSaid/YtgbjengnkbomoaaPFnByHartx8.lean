-- made by wip/tools/myprint.py out of the seat's translation
import Derived.Test.YtgbjengnkbomoaaPFnByHartx0
import Derived.Test.YtgbjengnkbomoaaPFnByHartx2
import Derived.Test.YtgbjengnkbomoaaPFnByHartx6
namespace Go.Proofs.Ytgbjengnkbomoaa.PFnByHart
open Go.RowKit Go.Proofs.YtgbjengnkbomoaaW.PrintWords Go.Proofs.YtgbjengnkbomoaaW.PrintLast Go.Proofs.YtgbjengnkbomoaaW.PrintMore
attribute [local go_sem] max2_int min2_int max_two min_two max_three min_three max_four min_four   -- for this text's walks alone
set_option linter.unusedVariables false
set_option linter.unusedSimpArgs false
theorem zc8_3 {w : World} {g : Nat} {a0 a1 a2 : Value} {t : TypeId} (h : w.heap[g]? = some (.cells #[a0, a1, a2] t (0, 0))) : w.cell? ⟨g, 0, none⟩ = some a0 ∧ w.cell? ⟨g, 1, none⟩ = some a1 ∧ w.cell? ⟨g, 2, none⟩ = some a2 ∧ w.frozen? ⟨g, 0, none⟩ = false ∧ w.frozen? ⟨g, 1, none⟩ = false ∧ w.frozen? ⟨g, 2, none⟩ = false := ⟨(blk_cell h 0).trans rfl, (blk_cell h 1).trans rfl, (blk_cell h 2).trans rfl, blk_frozen h 0, blk_frozen h 1, blk_frozen h 2⟩
theorem zR8 {p q : Prop} (x : q) (h : q → p := by intro h; (with_reducible repeat (first | apply Kd.R_alloc | apply Kd.R_drewN | apply Kd.R_drew)); exact h) : p := h x
theorem zQ8 {p q : Prop} (x : q) (h : q → p := by intro h; (with_reducible repeat (first | apply Kd.Q_alloc | apply Kd.Q_drewN | apply Kd.Q_drew)); exact h) : p := h x
theorem zK8 {p q : Prop} (x : q) (h : q → p := by intro h; (with_reducible repeat (first | refine blk_drewN ?_ _ | refine blk_drew ?_ | refine blk_alloc ?_ _)); exact h) : p := h x
theorem zA8 {p : Prop} [Decidable p] (h : decide p = true := by first | (with_reducible assumption) | assumption) : p := of_decide_eq_true h
theorem zT8 {p : Prop} (h : p := by (try simp only [List.map_toArray, List.map_cons, List.map_nil]); first | done | rfl | (simp only [List.length_drop, List.length_take]; rfl)) : p := h
theorem zC8 {p q : Prop} (x : q) (h : q → p := by intro h; repeat (first | exact h | (with_reducible refine Kd.C_alloc ?_ _) | (with_reducible refine Kd.C_drewN ?_ _) | (with_reducible refine Kd.C_drew ?_))) : p := h x
theorem zb8 {W w w1 : World} {g : Nat} {o : Obj} (x : W.heap[g]? = some o) (hb : Below w.heap.size w w1) (h : W.heap[g]? = some o → w.heap[g]? = some o := by intro h; (with_reducible repeat (first | refine blk_drewN ?_ _ | refine blk_drew ?_ | refine blk_alloc ?_ _)); exact h) : w1.heap[g]? = some o := blk_below (h x) hb
theorem zh8 {W w w1 : World} {g g' : Nat} {o : Obj} (hk : KeepBut w w1 g none) (x : W.heap[g']? = some o) (hn : g' ≠ g) (h : W.heap[g']? = some o → w.heap[g']? = some o := by intro h; (with_reducible repeat (first | refine blk_drewN ?_ _ | refine blk_drew ?_ | refine blk_alloc ?_ _)); exact h) : w1.heap[g']? = some o := KeepBut.blk hk (h x) hn (by simp)
theorem zn8 {W w : World} {g g' : Nat} {o : Obj} (x : W.heap[g]? = some o) (hg : g' = w.heap.size) (h : W.heap[g]? = some o → w.heap[g]? = some o := by intro h; (with_reducible repeat (first | refine blk_drewN ?_ _ | refine blk_drew ?_ | refine blk_alloc ?_ _)); exact h) : g ≠ g' := by rw [hg]; exact Nat.ne_of_lt (blk_lt (h x))
theorem zm8 {W w : World} {g g' : Nat} {o : Obj} (x : W.heap[g]? = some o) (hg : g' = w.heap.size) (h : W.heap[g]? = some o → w.heap[g]? = some o := by intro h; (with_reducible repeat (first | refine blk_drewN ?_ _ | refine blk_drew ?_ | refine blk_alloc ?_ _)); exact h) : g' ≠ g := by rw [hg]; exact Nat.ne_of_gt (blk_lt (h x))
theorem zP8 {p q : Prop} (x : q) (h : q → p := by intro h; (with_reducible repeat (first | refine blk_drewN ?_ _ | refine blk_drew ?_ | refine blk_alloc ?_ _)); exact h) : p := h x
theorem zV8 {a b : Act} (h : a = b := by simp only [Act.put, List.setIfInBounds_toArray, List.set_cons_zero, List.set_cons_succ, i64_w, i32_w]; rfl) : a = b := h
theorem zE8 {p : Prop} (h : p := by first | rfl | (simp [errW_none, errW_some] <;> rfl) | (simp [*, errW_none, errW_some] <;> rfl)) : p := h
theorem zB8_0 {p : Prop} (h : p := by repeat (first | (with_reducible first | exact HB.out | apply below_alloc | apply pw_below_drewN | apply below_drew1) | exact HB.out)) : p := h
theorem zB8_1 {p : Prop} (h : p := by repeat (first | (with_reducible first | exact HB.out | apply below_alloc | apply pw_below_drewN | apply below_drew1 | refine below_set ?_ GE388.out) | exact HB.out)) : p := h
theorem zB8_2 {p : Prop} (h : p := by repeat (first | (with_reducible first | exact HI0.out | apply IsS90.alloc | apply IsS90.drewN | apply IsS90.drew | apply IsS90.set_1 | apply IsS90.set_2) | exact HI0.out)) : p := h
theorem zB8_3 {p : Prop} (h : p := by repeat (first | (with_reducible first | exact HK.out | apply KeepBut.set_ | apply keep_drewN | apply keep_drew | apply keep_alloc) | exact HK.out)) : p := h
theorem zB8_4 {p : Prop} (h : p := by repeat (first | (with_reducible first | exact HB.out | apply below_alloc | apply pw_below_drewN | apply below_drew1 | refine below_set ?_ (IsS90.ge HI0.out)) | exact HB.out)) : p := h
theorem zB8_5 {p : Prop} (h : p := by repeat (first | (with_reducible first | exact HI0.out | apply IsS90.alloc | apply IsS90.drewN | apply IsS90.drew | apply IsS90.set_1 | apply IsS90.set_2 | refine IsS90.far ?_ NB0_393.out _) | exact HI0.out)) : p := h
theorem zB8_6 {p : Prop} (h : p := by repeat (first | (with_reducible first | exact HB.out | apply below_alloc | apply pw_below_drewN | apply below_drew1 | refine below_set ?_ (IsS90.ge HI0.out) | refine below_set ?_ GE393.out) | exact HB.out)) : p := h
theorem zB8_7 {p : Prop} (h : p := by repeat (first | (with_reducible first | exact HK.out | apply KeepBut.set_ | apply keep_drewN | apply keep_drew | apply keep_alloc | refine keep_far ?_ GW393.out _) | exact HK.out)) : p := h
theorem zB8_8 {p : Prop} (h : p := by repeat (first | (with_reducible first | exact HI0.out | apply IsS90.alloc | apply IsS90.drewN | apply IsS90.drew | apply IsS90.set_1 | apply IsS90.set_2 | refine IsS90.far ?_ NB0_393.out _ | refine IsS90.far ?_ NB0_402.out _) | exact HI0.out)) : p := h
theorem zB8_9 {p : Prop} (h : p := by repeat (first | (with_reducible first | exact HK.out | apply KeepBut.set_ | apply keep_drewN | apply keep_drew | apply keep_alloc | refine keep_far ?_ GW393.out _ | refine keep_far ?_ GW402.out _) | exact HK.out)) : p := h
theorem zB8_10 {p : Prop} (h : p := by repeat (first | (with_reducible first | exact HB.out | apply below_alloc | apply pw_below_drewN | apply below_drew1 | refine below_set ?_ (IsS90.ge HI0.out) | refine below_set ?_ GE393.out | refine below_set ?_ GE402.out) | exact HB.out)) : p := h
theorem zB8_11 {p : Prop} (h : p := by repeat (first | (with_reducible first | exact HI0.out | apply IsS90.alloc | apply IsS90.drewN | apply IsS90.drew | apply IsS90.set_1 | apply IsS90.set_2 | refine IsS90.far ?_ HN0_go16.out _ | refine IsS90.far ?_ NB0_393.out _ | refine IsS90.far ?_ NB0_402.out _) | exact HI0.out)) : p := h
theorem zB8_12 {p : Prop} (h : p := by repeat (first | (with_reducible first | exact HK.out | apply KeepBut.set_ | apply keep_drewN | apply keep_drew | apply keep_alloc | refine keep_far ?_ GB16.out _ | refine keep_far ?_ GW393.out _ | refine keep_far ?_ GW402.out _) | exact HK.out)) : p := h
theorem zB8_13 {p : Prop} (h : p := by repeat (first | (with_reducible first | exact HB.out | apply below_alloc | apply pw_below_drewN | apply below_drew1 | refine below_set ?_ (Nat.le_trans HL.out GB16.out) | refine below_set ?_ (IsS90.ge HI0.out) | refine below_set ?_ GE393.out | refine below_set ?_ GE402.out) | exact HB.out)) : p := h
theorem zB8_14 {p : Prop} (h : p := by repeat (first | (with_reducible first | exact HI0.out | apply IsS90.alloc | apply IsS90.drewN | apply IsS90.drew | apply IsS90.set_1 | apply IsS90.set_2 | refine IsS90.far ?_ HN0_go37.out _ | refine IsS90.far ?_ NB0_393.out _ | refine IsS90.far ?_ NB0_402.out _) | exact HI0.out)) : p := h
theorem zB8_15 {p : Prop} (h : p := by repeat (first | (with_reducible first | exact HK.out | apply KeepBut.set_ | apply keep_drewN | apply keep_drew | apply keep_alloc | refine keep_far ?_ GB37.out _ | refine keep_far ?_ GW393.out _ | refine keep_far ?_ GW402.out _) | exact HK.out)) : p := h
theorem zB8_16 {p : Prop} (h : p := by repeat (first | (with_reducible first | exact HB.out | apply below_alloc | apply pw_below_drewN | apply below_drew1 | refine below_set ?_ (Nat.le_trans HL.out GB37.out) | refine below_set ?_ (IsS90.ge HI0.out) | refine below_set ?_ GE393.out | refine below_set ?_ GE402.out) | exact HB.out)) : p := h

/-! ### spec_HartNew: function 83 -/
def spec_HartNew.f (a0 : Int) : Option (List Int × Int × Int) := (spec_l9Address.f a0).bind fun t392 => (some ((List.replicate 4 0), t392, 0))
set_option maxHeartbeats 8000000 in
set_option maxRecDepth 100000 in
theorem spec_HartNew.calls (a0 : Int) (r1 : List Int) (r2 : Int) (r3 : Int) (w : World) (h : spec_HartNew.f a0 = some (r1, r2, r3)) :
  Calls Try.prog 83 #[.int .i64 a0] w fun e w' => ∃ v0_ : Value, e = .returned (.agg #[v0_, .int .i64 r2, .int .i64 r3]) ∧ Kd.R (Kd.int .i64) 3 w' w.heap.size (fun _ => True) v0_ r1 ∧ Below w.heap.size w w' := by
 have hu49 := Try.underlying49
 have HB := Aside0.mk (Below.refl w.heap.size w)
 have H : ((spec_l9Address.f a0).bind fun t392 => (some ((List.replicate 4 0), t392, 0))) = some (r1, r2, r3) := h
 clear h
 obtain ⟨y389, hy389⟩ : ∃ y_ : List Int, y_ = (List.replicate 4 0) := ⟨_, rfl⟩
 replace H : ((spec_l9Address.f a0).bind fun t392 => (some (y389, t392, 0))) = some (r1, r2, r3) := by first | (rw [hy389]; with_reducible exact H) | (have H2_ := (Option.bind_some _ _).symm.trans H; rw [hy389]; with_reducible exact H2_) | (have H2_ := (Option.bind_some _ _).symm.trans H; with_reducible exact H2_) | with_reducible exact H | (rw [hy389]; exact H) | exact H
 have Ny389 := Aside0.mk hy389
 clear hy389
 replace H := Option.bind_eq_some_iff.mp H
 obtain ⟨t392, A20, H⟩ := H
 replace H : (some (y389, t392, 0)) = some (r1, r2, r3) := H
 have A2 := Aside0.mk A20
 clear A20
 simp only [Option.some.injEq, Prod.mk.injEq] at H
 obtain ⟨rfl, rfl, rfl⟩ := H
 go_enter Try.func83, Try.ntmps83
 try go_wp2_with (first | ((with_reducible refine gate_dst (N := 2) rfl ?_); refine box_event ?hg (N := 2) ?hd (cs := #[.slice none 0 0, .int .i64 0, .int .i64 0]) (t := 49) ?hr ?_; (case hd => rfl); (case hg => rfl); (case hr => first | (go_simp; done) | (go_simp; rfl)); intro gb388 hg w3 hbox hb; have n0_ := Aside0.mk (below_step (zB8_0) hb); have n1_ := Aside0.mk (hbox); have n2_ := Aside0.mk ((by rw [hg]; exact (below_size (zB8_0)) : w.heap.size ≤ gb388)); have n3_ := Aside0.mk ((by rw [hg]; exact (below_size (zB8_0)) : w.heap.size ≤ gb388)); clear HB; have HB := n0_; have BK388 := n1_; have GW388 := n2_; have GE388 := n3_; clear n0_ n1_ n2_ n3_; clear hb hbox hg))
 have n0_ := Aside0.mk (blk_drew BK388.out)
 have n1_ := Aside0.mk (below_drew1 HB.out)
 clear BK388 HB
 have BK388 := n0_
 have HB := n1_
 clear n0_ n1_
 refine start_ (n := 5) (S := fun w' => True) (ds := []) #[false, false, false, false, false] (by kernel_rfl) rfl rfl trivial (fun hHeld => ?_)
 generalize w3.drew = w4 at BK388 HB hHeld ⊢
 refine pure_ (i := 1) (N := some 4) (v := ?_) (a' := ?_) #[false, true, false, false, false] rfl rfl (by kernel_rfl) (fun _ _ _ h => h) (Or.inl ⟨by rfl, ?_⟩) ?_ ?_
 rotate_left
 ·intro w'
  go_simp
  with_reducible rfl
 rotate_left
 ·exact zV8
 refine join_ (σ := Value) 2 #[true, true, true, false, false] (fun s_ => [(3, s_), (5, .int .i64 t392)]) (fun s_ w' => (Kd.R (Kd.int .i64) 3 w' w.heap.size (fun _ => True) s_ y389) ∧ (w'.heap[gb388]? = some (.cells #[.slice none 0 0, .int .i64 0, .int .i64 0] 49 (0, 0))) ∧ (Below w.heap.size w w')) ?_ ?_
 rotate_left
 ·intro hCont
  refine two_ (i := 0) (j := 2) (Ni := some 3) (Nj := some 5) #[true, true, false, false, false] #[false, true, true, false, false] rfl rfl rfl rfl (by kernel_rfl) (by decide) (by decide) (fun K hK => ?_) (fun K hK => ?_)
  ·skip
   refine Kd.R_make_step (Kd.int .i64) _ 3 (by rfl) (N := 3) rfl 29 _ _ rfl 4 rfl rfl Try.underlying29 (.int .i64 0) 8 info3 rfl (by decide) (by omega) 0 (ok := fun _ => True) (okp := fun _ => True) rfl (fun _ hk => hk) trivial (by omega) (by omega) (Below.refl _ _) (Nat.le_refl _) ?_
   intro v390 w5 ho6 hb hg_ hnew_
   clear hg_ hnew_
   (first | rw [← Ny389.out] at ho6 | (simp only [Int.reduceToNat] at ho6; rw [← Ny389.out] at ho6))
   have n0_ := Aside0.mk (Kd.R_lower ho6 (below_size (zB8_1)))
   have n1_ := Aside0.mk (zb8 BK388.out hb)
   have n2_ := Aside0.mk (below_step (zB8_1) hb)
   clear BK388 HB
   have HO391 := n0_
   have BK388 := n1_
   have HB := n2_
   clear n0_ n1_ n2_ hb ho6
   refine hK.out _ _ trivial (fun hHeld => ?_)
   clear hK K
   refine norm_ (a' := ?_) ?_ ?_
   rotate_left
   ·show Act.put _ (some 3) _ = _
    simp only [Act.put, List.setIfInBounds_toArray, List.set_cons_zero, List.set_cons_succ, i64_w, i32_w]
    rfl
   refine one_ (i := 2) (N := some 5) #[true, true, true, false, false] rfl rfl (by kernel_rfl) (by decide) (fun K hK => ?_)
   refine goes_ Try.func89 (by kernel_rfl) rfl #[.int .i64 a0] (by rfl) rfl rfl zT8 ?_
   with_reducible refine (spec_l9Address.calls a0 t392 _ A2.out).mono ?_
   rintro e w' ⟨rfl, ⟨nd, rfl⟩⟩
   refine ⟨_, rfl, ?_⟩
   obtain ⟨Ao7, co7, eo7⟩ := Kd.R_slice HO391.out
   (first | subst eo7 | (injection eo7 with f1_ f2_ f3_; have f4_ := f1_.symm; have f5_ := f3_.symm; clear f1_ f2_ f3_; subst f4_; subst f5_))
   refine hK.out _ _ trivial (fun hHeld => ?_)
   clear hK K
   refine norm_ (a' := ?_) ?_ ?_
   rotate_left
   ·show Act.put _ (some 5) _ = _
    simp only [Act.put, List.setIfInBounds_toArray, List.set_cons_zero, List.set_cons_succ, i64_w, i32_w]
    rfl
   exact norm_ (by simp only [putAll, Act.put, List.setIfInBounds_toArray, List.set_cons_zero, List.set_cons_succ]) (hCont (.slice Ao7 y389.length co7) _ ⟨(zR8 HO391.out), (zK8 BK388.out), (zB8_1)⟩)
  ·skip
   refine goes_ Try.func89 (by kernel_rfl) rfl #[.int .i64 a0] (by rfl) rfl rfl zT8 ?_
   with_reducible refine (spec_l9Address.calls a0 t392 _ A2.out).mono ?_
   rintro e w' ⟨rfl, ⟨nd, rfl⟩⟩
   refine ⟨_, rfl, ?_⟩
   refine hK.out _ _ trivial (fun hHeld => ?_)
   clear hK K
   refine norm_ (a' := ?_) ?_ ?_
   rotate_left
   ·show Act.put _ (some 5) _ = _
    simp only [Act.put, List.setIfInBounds_toArray, List.set_cons_zero, List.set_cons_succ, i64_w, i32_w]
    rfl
   refine one_ (i := 0) (N := some 3) #[true, true, true, false, false] rfl rfl (by kernel_rfl) (by decide) (fun K hK => ?_)
   refine Kd.R_make_step (Kd.int .i64) _ 3 (by rfl) (N := 3) rfl 29 _ _ rfl 4 rfl rfl Try.underlying29 (.int .i64 0) 8 info3 rfl (by decide) (by omega) 0 (ok := fun _ => True) (okp := fun _ => True) rfl (fun _ hk => hk) trivial (by omega) (by omega) (Below.refl _ _) (Nat.le_refl _) ?_
   intro v390 w5 ho6 hb hg_ hnew_
   clear hg_ hnew_
   (first | rw [← Ny389.out] at ho6 | (simp only [Int.reduceToNat] at ho6; rw [← Ny389.out] at ho6))
   have n0_ := Aside0.mk (Kd.R_lower ho6 (below_size (zB8_1)))
   have n1_ := Aside0.mk (zb8 BK388.out hb)
   have n2_ := Aside0.mk (below_step (zB8_1) hb)
   clear BK388 HB
   have HO391 := n0_
   have BK388 := n1_
   have HB := n2_
   clear n0_ n1_ n2_ hb ho6
   obtain ⟨Ao7, co7, eo7⟩ := Kd.R_slice HO391.out
   (first | subst eo7 | (injection eo7 with f1_ f2_ f3_; have f4_ := f1_.symm; have f5_ := f3_.symm; clear f1_ f2_ f3_; subst f4_; subst f5_))
   refine hK.out _ _ trivial (fun hHeld => ?_)
   clear hK K
   refine norm_ (a' := ?_) ?_ ?_
   rotate_left
   ·show Act.put _ (some 3) _ = _
    simp only [Act.put, List.setIfInBounds_toArray, List.set_cons_zero, List.set_cons_succ, i64_w, i32_w]
    rfl
   exact norm_ (by simp only [putAll, Act.put, List.setIfInBounds_toArray, List.set_cons_zero, List.set_cons_succ]) (hCont (.slice Ao7 y389.length co7) _ ⟨(zR8 HO391.out), (zK8 BK388.out), (zB8_1)⟩)
 rintro v390 w8 ⟨h0_, h1_, h2_⟩
 have n0_ : Aside0 (Kd.R (Kd.int .i64) 3 w8 w.heap.size (fun _ => True) v390 y389) := ⟨h0_⟩
 have n1_ : Aside0 (w8.heap[gb388]? = some (.cells #[.slice none 0 0, .int .i64 0, .int .i64 0] 49 (0, 0))) := ⟨h1_⟩
 have n2_ : Aside0 (Below w.heap.size w w8) := ⟨h2_⟩
 clear BK388 HB h0_ h1_ h2_
 have HO391 := n0_
 have BK388 := n1_
 have HB := n2_
 clear n0_ n1_ n2_
 have hHeld := trivial
 obtain ⟨Ao9, co9, eo9⟩ := Kd.R_slice HO391.out
 (first | subst eo9 | (injection eo9 with f1_ f2_ f3_; have f4_ := f1_.symm; have f5_ := f3_.symm; clear f1_ f2_ f3_; subst f4_; subst f5_))
 refine norm_ (a' := ?_) ?_ ?_
 rotate_left
 ·simp only [putAll, Act.put, List.setIfInBounds_toArray, List.set_cons_zero, List.set_cons_succ]
  rfl
 refine pure_ (i := 3) (N := some 6) (v := ?_) (a' := ?_) #[true, true, true, true, false] rfl rfl (by kernel_rfl) (fun _ _ _ h => h) (Or.inl ⟨by rfl, ?_⟩) ?_ ?_
 rotate_left
 ·intro w'
  go_simp
  with_reducible rfl
 rotate_left
 ·exact zV8
 refine one_ (i := 4) (N := none) #[true, true, true, true, true] rfl rfl (by kernel_rfl) (by decide) (fun K hK => ?_)
 have hs10 : w8.cell? ⟨gb388, 0, none⟩ = some (.slice none 0 0) := (blk_cell BK388.out 0).trans rfl
 have hfs10 := blk_frozen BK388.out 0
 have hs11 : w8.cell? ⟨gb388, 1, none⟩ = some (.int .i64 0) := (blk_cell BK388.out 1).trans rfl
 have hfs11 := blk_frozen BK388.out 1
 have hs12 : w8.cell? ⟨gb388, 2, none⟩ = some (.int .i64 0) := (blk_cell BK388.out 2).trans rfl
 have hfs12 := blk_frozen BK388.out 2
 refine skip_ (w1 := ?_) (by rfl) rfl ?_ ?_
 rotate_left
 ·go_simp
  rfl
 refine hK.out _ _ trivial (fun hHeld => ?_)
 clear hK K
 refine done_ (by kernel_rfl) ?_
 try go_wp2
 refine bodyPost_ret (results_cell_row rfl _ _ gb388 49 #[.slice Ao9 y389.length co9, .int .i64 t392, .int .i64 0] (0, 0) _ rfl (by refine zP8 ?_; refine blk_put (cs := #[.slice Ao9 y389.length co9, .int .i64 t392, .int .i64 0]) ?_ 2 _ rfl; refine zP8 ?_; refine blk_put (cs := #[.slice Ao9 y389.length co9, .int .i64 0, .int .i64 0]) ?_ 1 _ rfl; refine zP8 ?_; refine blk_put (cs := #[.slice none 0 0, .int .i64 0, .int .i64 0]) ?_ 0 _ rfl; refine zP8 ?_; exact BK388.out) Try.underlying49 rfl (by kernel_rfl)) rfl ?_
 exact ⟨_, zE8, by (with_reducible repeat (first | apply Kd.R_alloc | apply Kd.R_drewN | apply Kd.R_drew)); exact Kd.R_mono (Kd.R_far (p := ⟨gb388, 2, none⟩) (Kd.R_far (p := ⟨gb388, 1, none⟩) (Kd.R_far (p := ⟨gb388, 0, none⟩) (Kd.R_types HO391.out BK388.out (by decide)) (fun _ hk => hk.2) (.slice Ao9 y389.length co9)) (fun _ hk => hk.2) (.int .i64 t392)) (fun _ hk => hk.2) (.int .i64 0)) (fun _ hk => trivial), zB8_1⟩

/-! ### spec_l9DrawHart: function 82 -/
def spec_l9DrawHart.l0 : Nat → Int → List Int → Int → Int → List Int → Int → Int → Option (List Int × Int × Int × Int × Int)
 | 0, _, _, _, _, _, _, _ => none
 | k + 1, x4, x1000, x1001, x1002, x403000, x403001, x403002 => if x4 < 4 then ((spec_l1PickInt.f x1000 x1001 x1002 (([0, 1, 2, 20, 65535] : List Int))).bind fun bt406 => (if 0 ≤ x4 then (if x4 < (x403000.length : Int) then (spec_l9DrawHart.l0 k (wrap64 (x4 + 1)) x1000 bt406.2.1 bt406.2.2 (x403000.set (x4 : Int).toNat bt406.1) x403001 x403002) else (none)) else (none))) else ((spec_l1Below.f x1000 x1001 x1002 12).bind fun bt410 => (if bt410.1 = 0 then ((spec_l1Below.f x1000 bt410.2.1 bt410.2.2 5).bind fun bt413 => (some (x403000, x403001, wrap64 (bt413.1 - 1), bt413.2.1, bt413.2.2))) else (if bt410.1 = 1 then ((spec_l1PickInt.f x1000 bt410.2.1 bt410.2.2 (([(-1), 65536] : List Int))).bind fun bt419 => (if 0 < (x403000.length : Int) then (some ((x403000.set (0 : Int).toNat bt419.1), x403001, x403002, bt419.2.1, bt419.2.2)) else (none))) else (if bt410.1 = 2 then ((spec_l1PickInt.f x1000 bt410.2.1 bt410.2.2 (([(-1), 24] : List Int))).bind fun bt426 => (some (x403000, bt426.1, x403002, bt426.2.1, bt426.2.2))) else (if bt410.1 = 3 then (if (x403000.length : Int) = 4 then (some ((x403000.drop (1 : Int).toNat), x403001, x403002, bt410.2.1, bt410.2.2)) else (none)) else (some (x403000, x403001, x403002, bt410.2.1, bt410.2.2)))))))
def spec_l9DrawHart.f (k : Nat) (s0_0 : List Int) (s0_1 : Int) (s0_2 : Int) : Option (List Int × Int × Int × Int × Int) := (spec_l1Below.f s0_0 s0_1 s0_2 20).bind fun bt394 => ((spec_HartNew.f bt394.1).bind fun bt397 => (spec_l9DrawHart.l0 k 0 s0_0 bt394.2.1 bt394.2.2 bt397.1 bt397.2.1 bt397.2.2))
theorem spec_l9DrawHart.mono_l : ∀ k, (∀ y0 y1 y2 y3 y4 y5 y6, LeO (spec_l9DrawHart.l0 k y0 y1 y2 y3 y4 y5 y6) (spec_l9DrawHart.l0 (k + 1) y0 y1 y2 y3 y4 y5 y6))
 | 0 => fun _ _ _ _ _ _ _ r h => by simp [spec_l9DrawHart.l0] at h
 | k + 1 => by
  have ih0 := spec_l9DrawHart.mono_l k
  ·intro y0 y1 y2 y3 y4 y5 y6
   unfold spec_l9DrawHart.l0
   repeat' first
   | (with_reducible exact ih0 _ _ _ _ _ _ _)
   | (with_reducible exact LeO.refl _)
   | (with_reducible exact LeO.none _)
   | (with_reducible refine LeO.ite ?_ ?_)
   | (with_reducible refine LeO.bind ?_ (fun _ => ?_))
   | exact ih0 _ _ _ _ _ _ _
   | exact LeO.none _
   | refine LeO.ite ?_ ?_
   | refine LeO.bind ?_ (fun _ => ?_)
theorem spec_l9DrawHart.mono : ∀ a0 a1 a2 k, LeO (spec_l9DrawHart.f k a0 a1 a2) (spec_l9DrawHart.f (k + 1) a0 a1 a2) := by
 intro a0 a1 a2 k
 have ih0 := spec_l9DrawHart.mono_l k
 unfold spec_l9DrawHart.f
 repeat' first
   | (with_reducible exact ih0 _ _ _ _ _ _ _)
   | (with_reducible exact LeO.refl _)
   | (with_reducible exact LeO.none _)
   | (with_reducible refine LeO.ite ?_ ?_)
   | (with_reducible refine LeO.bind ?_ (fun _ => ?_))
   | exact ih0 _ _ _ _ _ _ _
   | exact LeO.none _
   | refine LeO.ite ?_ ?_
   | refine LeO.bind ?_ (fun _ => ?_)
def spec_l9DrawHart.T5 : Bool × List (List Nat × List Nat) := (true, [([], []), ([0], [0]), ([], []), ([], []), ([], []), ([3, 4], [3, 4]), ([1, 2, 0, 1, 2, 3, 4, 5], [1, 2]), ([6, 5, 5, 0, 1, 2, 3, 4, 5], [5, 6])])
def spec_l9DrawHart.B5 : List Nat := [0, 1, 0, 0, 0, 24, 63, 127]
theorem spec_l9DrawHart.tab5 : rtab .any (opsOf Try.f82 5) = spec_l9DrawHart.T5 := by kernel_rfl
theorem spec_l9DrawHart.bits5 : waitsOk spec_l9DrawHart.T5.2 spec_l9DrawHart.B5 = true := by kernel_rfl
theorem QR_of {e b : Nat} {ok : Nat → Prop} {W : World} {v : Value} {xs : List Int} (h : Kd.R (Kd.int .i64) e W b ok v xs) : Kd.Q (Kd.int .i64) e W b ok v xs ∧ (xs.length = 4 → Kd.R (Kd.int .i64) e W b ok v xs) := ⟨Kd.Q_of_R h, fun _ => h⟩
set_option maxHeartbeats 8000000 in
set_option maxRecDepth 100000 in
theorem spec_l9DrawHart.calls (k : Nat) (g : Nat) (s0_0 : List Int) (s0_1 : Int) (s0_2 : Int) (r1 : List Int) (r2 : Int) (r3 : Int) (r4 : Int) (r5 : Int) (w0 w : World) (hI : IsS90 w0 w g s0_0 s0_1 s0_2) (hB : Below w0.heap.size w0 w) (h : spec_l9DrawHart.f k s0_0 s0_1 s0_2 = some (r1, r2, r3, r4, r5)) :
  Calls Try.prog 82 #[.pointer (some ⟨g, 0, none⟩)] w fun e w' => ∃ v0_ : Value, e = .returned (.agg #[v0_, .int .i64 r2, .int .i64 r3]) ∧ (Kd.Q (Kd.int .i64) 3 w' w.heap.size (fun _ => True) v0_ r1 ∧ (r1.length = 4 → Kd.R (Kd.int .i64) 3 w' w.heap.size (fun _ => True) v0_ r1)) ∧ IsS90 w0 w' g s0_0 r4 r5 ∧ Below w0.heap.size w0 w' ∧ KeepBut w w' g none := by
 have hu49 := Try.underlying49
 have HI0 := Aside0.mk hI
 have HK := Aside0.mk (KeepBut.refl w g none)
 have HL := Aside0.mk hB.size
 clear hI
 have HW0 := Aside0.mk hB.size
 have HB := Aside0.mk hB
 clear hB
 have H : ((spec_l1Below.f s0_0 s0_1 s0_2 20).bind fun bt394 => ((spec_HartNew.f bt394.1).bind fun bt397 => (spec_l9DrawHart.l0 k 0 s0_0 bt394.2.1 bt394.2.2 bt397.1 bt397.2.1 bt397.2.2))) = some (r1, r2, r3, r4, r5) := h
 clear h
 replace H := Option.bind_eq_some_iff.mp H
 obtain ⟨⟨t394, t395, t396⟩, A20, H⟩ := H
 replace H : ((spec_HartNew.f t394).bind fun bt397 => (spec_l9DrawHart.l0 k 0 s0_0 t395 t396 bt397.1 bt397.2.1 bt397.2.2)) = some (r1, r2, r3, r4, r5) := H
 have A2 := Aside0.mk A20
 clear A20
 replace H := Option.bind_eq_some_iff.mp H
 obtain ⟨⟨t397, t400, t401⟩, A30, H⟩ := H
 replace H : (spec_l9DrawHart.l0 k 0 s0_0 t395 t396 t397 t400 t401) = some (r1, r2, r3, r4, r5) := H
 have A3 := Aside0.mk A30
 clear A30
 have H' := Aside0.mk H
 clear H
 go_enter Try.func82, Try.ntmps82
 go_wp2_with (first | ((with_reducible refine gate_dst (N := 2) rfl ?_); refine box_event ?hg (N := 2) ?hd (cs := #[.slice none 0 0, .int .i64 0, .int .i64 0]) (t := 49) ?hr ?_; (case hd => rfl); (case hg => rfl); (case hr => first | (go_simp; done) | (go_simp; rfl)); intro gb393 hg w4 hbox hb; have n0_ := Aside0.mk (IsS90.below (zB8_2) hb); have n1_ := Aside0.mk (KeepBut.trans (zB8_3) (KeepBut.of_below hb g none) (.inl rfl)); have n2_ := Aside0.mk (below_step (zB8_4) hb); have n3_ := Aside0.mk (hbox); have n4_ := Aside0.mk ((by rw [hg]; exact (keep_size (w := w) (g := g) (row := none) (zB8_3)) : w.heap.size ≤ gb393)); have n5_ := Aside0.mk ((Nat.le_trans HW0.out (by rw [hg]; exact (keep_size (w := w) (g := g) (row := none) (zB8_3)) : w.heap.size ≤ gb393) : w0.heap.size ≤ gb393)); have n6_ := Aside0.mk ((by rw [hg]; exact Nat.ne_of_lt (IsS90.lt (show IsS90 w0 _ g s0_0 s0_1 s0_2 from zB8_2)) : g ≠ gb393)); have n7_ := Aside0.mk ((by rw [hg]; exact Nat.ne_of_gt (IsS90.lt (show IsS90 w0 _ g s0_0 s0_1 s0_2 from zB8_2)) : gb393 ≠ g)); clear HI0; clear HK; clear HB; have HI0 := n0_; have HK := n1_; have HB := n2_; have BK393 := n3_; have GW393 := n4_; have GE393 := n5_; have NB0_393 := n6_; have NB393_0 := n7_; clear n0_ n1_ n2_ n3_ n4_ n5_ n6_ n7_; clear hb hbox hg) | ((with_reducible refine gate_callee (f := 42) rfl ?_); refine goesL_ (some 6) rfl rfl Try.func42 (by kernel_rfl) rfl #[.pointer (some ⟨g, 0, none⟩), .int .i64 20] rfl zT8 ?_; (with_reducible refine (spec_l1Below.calls g s0_0 s0_1 s0_2 20 t394 t395 t396 w0 _ ?side1 ?side2 A2.out).mono ?_); (case side1 => exact zB8_5); (case side2 => exact zB8_6); rintro e w5 ⟨rfl, hi, hb, hk⟩; refine ⟨_, rfl, ?_⟩; have n0_ := Aside0.mk (zh8 hk BK393.out NB393_0.out); have n1_ := Aside0.mk (KeepBut.trans (zB8_7) hk (.inl rfl)); have n2_ := Aside0.mk (hb); have n3_ := Aside0.mk (hi); clear BK393; clear HK; clear HB; clear HI0; have BK393 := n0_; have HK := n1_; have HB := n2_; have HI0 := n3_; clear n0_ n1_ n2_ n3_; (try clear hb); (try clear hb2); (try clear hk); (try clear hi)) | ((with_reducible refine gate_callee (f := 83) rfl ?_); refine goesL_ (some 7) rfl rfl Try.func83 (by kernel_rfl) rfl #[.int .i64 t394] rfl zT8 ?_; (with_reducible refine (spec_HartNew.calls t394 t397 t400 t401 _ A3.out).mono ?_); rintro e w6 ⟨v398, rfl, ho0, hb⟩; refine ⟨_, rfl, ?_⟩; have n0_ := Aside0.mk (Kd.R_lower ho0 (keep_size (w := w) (g := g) (row := none) (zB8_7))); have n1_ := Aside0.mk (IsS90.below (zB8_5) hb); have n2_ := Aside0.mk (zb8 BK393.out hb); have n3_ := Aside0.mk (KeepBut.trans (zB8_7) (KeepBut.of_below hb g none) (.inl rfl)); have n4_ := Aside0.mk (below_step (zB8_6) hb); clear HI0; clear BK393; clear HK; clear HB; have HO399 := n0_; have HI0 := n1_; have BK393 := n2_; have HK := n3_; have HB := n4_; clear n0_ n1_ n2_ n3_ n4_; (try clear hb); (try clear hb2); (try clear hk); (try clear hi); (try clear ho0)) | ((with_reducible refine gate_dst (N := 3) rfl ?_); refine box_event ?hg (N := 3) ?hd (cs := #[.slice none 0 0, .int .i64 0, .int .i64 0]) (t := 49) ?hr ?_; (case hd => rfl); (case hg => rfl); (case hr => first | (go_simp; done) | (go_simp; rfl)); intro gb402 hg w7 hbox hb; have n0_ := Aside0.mk (Kd.R_below (zR8 HO399.out) hb); have n1_ := Aside0.mk (IsS90.below (zB8_5) hb); have n2_ := Aside0.mk (zb8 BK393.out hb); have n3_ := Aside0.mk (KeepBut.trans (zB8_7) (KeepBut.of_below hb g none) (.inl rfl)); have n4_ := Aside0.mk (below_step (zB8_6) hb); have n5_ := Aside0.mk (hbox); have n6_ := Aside0.mk ((by rw [hg]; exact (keep_size (w := w) (g := g) (row := none) (zB8_7)) : w.heap.size ≤ gb402)); have n7_ := Aside0.mk ((Nat.le_trans HW0.out (by rw [hg]; exact (keep_size (w := w) (g := g) (row := none) (zB8_7)) : w.heap.size ≤ gb402) : w0.heap.size ≤ gb402)); have n8_ := Aside0.mk ((zn8 BK393.out hg : gb393 ≠ gb402)); have n9_ := Aside0.mk ((zm8 BK393.out hg : gb402 ≠ gb393)); have n10_ := Aside0.mk ((by rw [hg]; exact Nat.ne_of_lt (IsS90.lt (show IsS90 w0 _ g s0_0 t395 t396 from zB8_5)) : g ≠ gb402)); have n11_ := Aside0.mk ((by rw [hg]; exact Nat.ne_of_gt (IsS90.lt (show IsS90 w0 _ g s0_0 t395 t396 from zB8_5)) : gb402 ≠ g)); clear HO399; clear HI0; clear BK393; clear HK; clear HB; have HO399 := n0_; have HI0 := n1_; have BK393 := n2_; have HK := n3_; have HB := n4_; have BK402 := n5_; have GW402 := n6_; have GE402 := n7_; have NB393_402 := n8_; have NB402_393 := n9_; have NB0_402 := n10_; have NB402_0 := n11_; clear n0_ n1_ n2_ n3_ n4_ n5_ n6_ n7_ n8_ n9_ n10_ n11_; clear hb hbox hg; obtain ⟨Ao8, co8, eo8⟩ := Kd.R_slice HO399.out; subst eo8; have hnb9 := NB402_393.out; have hnc9 := NB393_402.out; have hnb10 := NB402_0.out; have hnc10 := NB0_402.out; obtain ⟨hcz11_0, hcz11_1, hcz11_2, hfz11_0, hfz11_1, hfz11_2⟩ := zc8_3 (w := w7) BK402.out))
 go_loopg [4] k (fun kq v4 w' => ∃ (x4_1 : Int) (x1001_1 : Int) (x1002_1 : Int) (x403000_1 : List Int) (u403000 : Value), v4 = .int .i64 x4_1 ∧ Aside0 (spec_l9DrawHart.l0 kq x4_1 s0_0 x1001_1 x1002_1 x403000_1 t400 t401 = some (r1, r2, r3, r4, r5)) ∧ Aside0 (kq ≤ k) ∧ Aside0 (Kd.R (Kd.int .i64) 3 w' w.heap.size (fun _ => True) u403000 x403000_1) ∧ Aside0 (w'.heap[gb393]? = some (.cells #[(.slice none 0 0), .int .i64 0, .int .i64 0] 49 (0, 0))) ∧ Aside0 (w'.heap[gb402]? = some (.cells #[u403000, .int .i64 t400, .int .i64 t401] 49 (0, 0))) ∧ Aside0 (IsS90 w0 w' g s0_0 x1001_1 x1002_1) ∧ Aside0 (KeepBut w w' g none) ∧ Aside0 (Below w0.heap.size w0 w'))
 case atStart => exact ⟨(0), (t395), (t396), (t397), (.slice Ao8 t397.length co8), (by first | rfl | (simp; done) | (simp [*]; done)), H', ⟨Nat.le_refl _⟩, ⟨by (with_reducible repeat (first | apply Kd.R_alloc | apply Kd.R_drewN | apply Kd.R_drew)); exact Kd.R_mono (Kd.R_far (p := ⟨gb402, 2, none⟩) (Kd.R_far (p := ⟨gb402, 1, none⟩) (Kd.R_far (p := ⟨gb402, 0, none⟩) (Kd.R_types HO399.out BK402.out (by decide)) (fun _ hk => hk.2) (.slice Ao8 t397.length co8)) (fun _ hk => hk.2) (.int .i64 t400)) (fun _ hk => hk.2) (.int .i64 t401)) (fun _ hk => trivial)⟩, ⟨by refine zP8 ?_; refine blk_far ?_ NB393_402.out _; refine zP8 ?_; refine blk_far ?_ NB393_402.out _; refine zP8 ?_; refine blk_far ?_ NB393_402.out _; refine zP8 ?_; exact BK393.out⟩, ⟨by refine zP8 ?_; refine blk_put (cs := #[.slice Ao8 t397.length co8, .int .i64 t400, .int .i64 0]) ?_ 2 _ rfl; refine zP8 ?_; refine blk_put (cs := #[.slice Ao8 t397.length co8, .int .i64 0, .int .i64 0]) ?_ 1 _ rfl; refine zP8 ?_; refine blk_put (cs := #[.slice none 0 0, .int .i64 0, .int .i64 0]) ?_ 0 _ rfl; refine zP8 ?_; exact BK402.out⟩, ⟨zB8_8⟩, ⟨zB8_9⟩, ⟨zB8_10⟩⟩
 case round =>
  clear H'
  try clear c1
  try clear p2
  try clear c4
  try clear c8
  try clear c9
  try clear c10
  try clear hcz11_0
  try clear hcz11_1
  try clear hcz11_2
  try clear hfz11_0
  try clear hfz11_1
  try clear hfz11_2
  obtain ⟨x4_1, x1001_1, x1002_1, x403000_1, u403000, rfl, HA, HK1, HO_403000, BK393, BK402, HI0, HK, HB⟩ := hrel
  cases gk with
  | zero => exact absurd HA.out (by simp [spec_l9DrawHart.l0])
  | succ k1 =>
   have H := HA.out
   clear HA
   simp only [spec_l9DrawHart.l0] at H
   by_cases c12 : x4_1 < 4
   ·rw [if_pos c12] at H
    have c12b0 : decide (x4_1 < 4) = true := decide_eq_true c12
    clear c12
    obtain ⟨y403, hy403⟩ : ∃ y_ : List Int, y_ = (([0, 1, 2, 20, 65535] : List Int)) := ⟨_, rfl⟩
    replace H : ((spec_l1PickInt.f s0_0 x1001_1 x1002_1 y403).bind fun bt406 => (if 0 ≤ x4_1 then (if x4_1 < (x403000_1.length : Int) then (spec_l9DrawHart.l0 k1 (wrap64 (x4_1 + 1)) s0_0 bt406.2.1 bt406.2.2 (x403000_1.set (x4_1 : Int).toNat bt406.1) t400 t401) else (none)) else (none))) = some (r1, r2, r3, r4, r5) := by first | (rw [hy403]; with_reducible exact H) | (have H2_ := (Option.bind_some _ _).symm.trans H; rw [hy403]; with_reducible exact H2_) | (have H2_ := (Option.bind_some _ _).symm.trans H; with_reducible exact H2_) | with_reducible exact H | (rw [hy403]; exact H) | exact H
    have Ny403 := Aside0.mk hy403
    clear hy403
    replace H := Option.bind_eq_some_iff.mp H
    obtain ⟨⟨t406, t407, t408⟩, A130, H⟩ := H
    replace H : (if 0 ≤ x4_1 then (if x4_1 < (x403000_1.length : Int) then (spec_l9DrawHart.l0 k1 (wrap64 (x4_1 + 1)) s0_0 t407 t408 (x403000_1.set (x4_1 : Int).toNat t406) t400 t401) else (none)) else (none)) = some (r1, r2, r3, r4, r5) := H
    have A13 := Aside0.mk A130
    clear A130
    by_cases c14 : 0 ≤ x4_1
    rotate_left
    ·rw [if_neg c14] at H
     exact absurd H (by simp)
    rw [if_pos c14] at H
    have c14b0 : decide (0 ≤ x4_1) = true := decide_eq_true c14
    clear c14
    by_cases c15 : x4_1 < (x403000_1.length : Int)
    rotate_left
    ·rw [if_neg c15] at H
     exact absurd H (by simp)
    rw [if_pos c15] at H
    have c15b0 : decide (x4_1 < (x403000_1.length : Int)) = true := decide_eq_true c15
    clear c15
    obtain ⟨y409, hy409⟩ : ∃ y_ : List Int, y_ = (x403000_1.set (x4_1 : Int).toNat t406) := ⟨_, rfl⟩
    replace H : (spec_l9DrawHart.l0 k1 (wrap64 (x4_1 + 1)) s0_0 t407 t408 y409 t400 t401) = some (r1, r2, r3, r4, r5) := by first | (rw [hy409]; with_reducible exact H) | (have H2_ := (Option.bind_some _ _).symm.trans H; rw [hy409]; with_reducible exact H2_) | (have H2_ := (Option.bind_some _ _).symm.trans H; with_reducible exact H2_) | with_reducible exact H | (rw [hy409]; exact H) | exact H
    have Ny409 := Aside0.mk hy409
    clear hy409
    have H' := Aside0.mk H
    clear H
    try go_wp2
    have n0_ := Aside0.mk (Kd.R_drew HO_403000.out)
    have n1_ := Aside0.mk (blk_drew BK393.out)
    have n2_ := Aside0.mk (blk_drew BK402.out)
    have n3_ := Aside0.mk (IsS90.drew HI0.out)
    have n4_ := Aside0.mk (keep_drew HK.out)
    have n5_ := Aside0.mk (below_drew1 HB.out)
    clear HO_403000 BK393 BK402 HI0 HK HB
    have HO_403000 := n0_
    have BK393 := n1_
    have BK402 := n2_
    have HI0 := n3_
    have HK := n4_
    have HB := n5_
    clear n0_ n1_ n2_ n3_ n4_ n5_
    refine start_ (n := 8) (S := fun w' => w'.cell? ⟨gb402, 0, none⟩ = some (u403000) ∧ w'.cell? ⟨gb402, 1, none⟩ = some (.int .i64 t400) ∧ w'.cell? ⟨gb402, 2, none⟩ = some (.int .i64 t401)) (ds := [7]) #[false, false, false, false, false, false, false, false] (by kernel_rfl) rfl rfl ⟨(blk_cell BK402.out 0).trans rfl, (blk_cell BK402.out 1).trans rfl, (blk_cell BK402.out 2).trans rfl⟩ (fun hHeld => ?_); refine with_tabW spec_l9DrawHart.tab5 spec_l9DrawHart.bits5 (fun HT_ HW_ => ?_)
    generalize wr.drew = w17 at HO_403000 BK393 BK402 HI0 HK HB hHeld ⊢
    refine pure_ (i := 0) (N := some 12) (v := ?_) (a' := ?_) #[true, false, false, false, false, false, false, false] rfl rfl (any_of HT_.out (by kernel_rfl)) (fun _ _ _ h => h) (Or.inl ⟨by rfl, ?_⟩) ?_ ?_
    rotate_left
    ·intro w'
     go_simp
     with_reducible rfl
    rotate_left
    ·exact zV8
    refine pure_ (i := 2) (N := some 14) (v := ?_) (a' := ?_) #[true, false, true, false, false, false, false, false] rfl rfl (any_of HT_.out (by kernel_rfl)) (fun _ _ _ h => h) (Or.inl ⟨by rfl, ?_⟩) ?_ ?_
    rotate_left
    ·intro w'
     go_simp
     with_reducible rfl
    rotate_left
    ·exact zV8
    refine pure_ (i := 3) (N := some 15) (v := ?_) (a' := ?_) #[true, false, true, true, false, false, false, false] rfl rfl (any_of HT_.out (by kernel_rfl)) (fun _ _ _ h => h) (Or.inl ⟨by rfl, ?_⟩) ?_ ?_
    rotate_left
    ·intro w'
     go_simp
     with_reducible rfl
    rotate_left
    ·exact zV8
    refine take_ (i := 1) (N := some 13) (v := ?_) (a' := ?_) #[true, true, true, true, false, false, false, false] rfl rfl (take_ofW HT_.out HW_.out (by kernel_rfl)) (fun _ _ _ h => h) (Or.inl ⟨by rfl, ?_⟩) hHeld ?_ ?_
    rotate_left
    ·rintro w' ⟨s0, s1, s2⟩
     go_simp
     with_reducible rfl
    rotate_left
    ·exact zV8
    refine one_ (i := 4) (N := some 16) #[true, true, true, true, true, false, false, false] rfl rfl (one_of HT_.out (by kernel_rfl)) (by decide) (fun K hK => ?_)
    refine Kd.R_lit_step (Kd.int .i64) _ 3 ?hg (N := 16) ?hd (xs := ([0, 1, 2, 20, 65535] : List Int)) (inner := [.int .i64 0, .int .i64 1, .int .i64 2, .int .i64 20, .int .i64 65535]) (ok := fun _ => True) (okp := fun _ => True) ?hr ?hp (fun _ hk => hk) trivial (Below.refl _ _) (Nat.le_refl _) (by simp) ?_; (case hd => rfl); (case hg => rfl); (case hr => first | (go_simp; done) | (go_simp; rfl)); (case hp => exact (Reps.one (show Kd.M (Kd.int .i64) _ _ _ 0 [.int .i64 0] from rfl) (Reps.one (show Kd.M (Kd.int .i64) _ _ _ 1 [.int .i64 1] from rfl) (Reps.one (show Kd.M (Kd.int .i64) _ _ _ 2 [.int .i64 2] from rfl) (Reps.one (show Kd.M (Kd.int .i64) _ _ _ 20 [.int .i64 20] from rfl) (Reps.one (show Kd.M (Kd.int .i64) _ _ _ 65535 [.int .i64 65535] from rfl) (Reps.none _ _)))))))
    intro v404 w18 ho19 hb hg_ hnew_
    clear hg_ hnew_
    (first | rw [← Ny403.out] at ho19 | (simp only [Int.reduceToNat] at ho19; rw [← Ny403.out] at ho19))
    have n0_ := Aside0.mk (Kd.R_elder' (zR8 HO_403000.out) (Kd.R_base ho19) hb)
    have n1_ := Aside0.mk (Kd.R_lower (Kd.R_new' ho19 (Kd.R_lt (zR8 HO_403000.out))) (keep_size (w := w) (g := g) (row := none) (zB8_9)))
    have n2_ := Aside0.mk (zb8 BK393.out hb)
    have n3_ := Aside0.mk (zb8 BK402.out hb)
    have n4_ := Aside0.mk (IsS90.below (zB8_8) hb)
    have n5_ := Aside0.mk (KeepBut.trans (zB8_9) (KeepBut.of_below hb g none) (.inl rfl))
    have n6_ := Aside0.mk (below_step (zB8_10) hb)
    clear HO_403000 BK393 BK402 HI0 HK HB
    have HO_403000 := n0_
    have HO405 := n1_
    have BK393 := n2_
    have BK402 := n3_
    have HI0 := n4_
    have HK := n5_
    have HB := n6_
    clear n0_ n1_ n2_ n3_ n4_ n5_ n6_ hb ho19
    obtain ⟨Ao20, co20, eo20⟩ := Kd.R_slice HO405.out
    (first | subst eo20 | (injection eo20 with f1_ f2_ f3_; have f4_ := f1_.symm; have f5_ := f3_.symm; clear f1_ f2_ f3_; subst f4_; subst f5_))
    refine hK.out _ _ ⟨(blk_cell BK402.out 0).trans rfl, (blk_cell BK402.out 1).trans rfl, (blk_cell BK402.out 2).trans rfl⟩ (fun hHeld => ?_)
    clear hK K
    refine norm_ (a' := ?_) ?_ ?_
    rotate_left
    ·show Act.put _ (some 16) _ = _
     simp only [Act.put, List.setIfInBounds_toArray, List.set_cons_zero, List.set_cons_succ, i64_w, i32_w]
     rfl
    refine one_ (i := 5) (N := some 17) #[true, true, true, true, true, true, false, false] rfl rfl (one_of HT_.out (by kernel_rfl)) (by decide) (fun K hK => ?_)
    refine goes_ Try.func61 (by kernel_rfl) rfl #[.pointer (some ⟨g, 0, none⟩), .slice Ao20 y403.length co20] (by rfl) rfl rfl zT8 ?_
    with_reducible refine (spec_l1PickInt.calls g s0_0 x1001_1 x1002_1 _ _ y403 t406 t407 t408 w0 _ ?side1 ?side2 ?side3 ?side4 ?side5 A13.out).mono ?_
    (case side1 => exact zB8_8)
    (case side2 => exact zB8_10)
    (case side3 => exact zC8 (Kd.R_reads' HO405.out).2.2)
    (case side4 => exact (Kd.R_reads' HO405.out).2.1)
    (case side5 => exact far_slice (IsS90.own_ne HI0.out HO405.out (by decide)))
    rintro e w21 ⟨rfl, hi, hb, hk⟩
    refine ⟨_, rfl, ?_⟩
    have n0_ := Aside0.mk (Kd.R_mono (Kd.R_keep (IsS90.apart (show IsS90 w0 _ g s0_0 x1001_1 x1002_1 from zB8_8) (zR8 HO_403000.out) (by decide)) hk (fun _ h => h.2)) (fun _ h => h.1))
    have n1_ := Aside0.mk (zh8 hk BK393.out NB393_0.out)
    have n2_ := Aside0.mk (zh8 hk BK402.out NB402_0.out)
    have n3_ := Aside0.mk (Kd.R_mono (Kd.R_keep (IsS90.apart (show IsS90 w0 _ g s0_0 x1001_1 x1002_1 from zB8_8) (zR8 HO405.out) (by decide)) hk (fun _ h => h.2)) (fun _ h => h.1))
    have n4_ := Aside0.mk (KeepBut.trans (zB8_9) hk (.inl rfl))
    have n5_ := Aside0.mk (hb)
    have n6_ := Aside0.mk (hi)
    clear HO_403000 BK393 BK402 HO405 HK HB HI0
    have HO_403000 := n0_
    have BK393 := n1_
    have BK402 := n2_
    have HO405 := n3_
    have HK := n4_
    have HB := n5_
    have HI0 := n6_
    clear n0_ n1_ n2_ n3_ n4_ n5_ n6_
    (try clear hb)
    (try clear hb2)
    (try clear hk)
    (try clear hi)
    have p16 : 0 ≤ (x4_1 : Int) := zA8
    have q16 : (x4_1 : Int) < ((x403000_1.length : Int) : Int) := zA8
    obtain ⟨go16, co16, eo16, gb16, gl16, cl16, HG16⟩ := Kd.R_form HO_403000.out (by omega)
    (first | cases eo16 | (injection eo16 with ea_ en_ ec_; (first | subst ea_ | (injection ea_ with ea_; subst ea_)); subst ec_; clear en_))
    have GB16 := Aside0.mk gb16
    have GG16 := Aside0.mk HG16
    clear gb16 gl16 HG16
    obtain ⟨hx16_0, hf16_0⟩ := Kd.R_celln 0 HO_403000.out (x4_1 : Int) p16 q16
    replace p16 := eq_true p16
    replace q16 := eq_true q16
    have HN0_go16 := Aside0.mk (show g ≠ go16 from by have h_ := IsS90.own_ne HI0.out HO_403000.out (by decide); intro e_; exact h_ (by rw [e_]; rfl))
    have HP22 := Kd.R_putn HO_403000.out (x4_1 : Int) t406
    rw [← Ny409.out] at HP22
    have HQ22 := Aside0.mk HP22
    clear HP22
    refine hK.out _ _ ⟨(blk_cell BK402.out 0).trans rfl, (blk_cell BK402.out 1).trans rfl, (blk_cell BK402.out 2).trans rfl⟩ (fun hHeld => ?_)
    clear hK K
    refine norm_ (a' := ?_) ?_ ?_
    rotate_left
    ·show Act.put _ (some 17) _ = _
     simp only [Act.put, List.setIfInBounds_toArray, List.set_cons_zero, List.set_cons_succ, i64_w, i32_w]
     rfl
    refine pure_ (i := 6) (N := some 18) (v := ?_) (a' := ?_) #[true, true, true, true, true, true, true, false] rfl rfl (any_of HT_.out (by kernel_rfl)) (fun _ _ _ h => h) (Or.inl ⟨by rfl, ?_⟩) ?_ ?_
    rotate_left
    ·intro w'
     go_simp
     with_reducible rfl
    rotate_left
    ·exact zV8
    refine last_ (i := 7) (N := none) #[true, true, true, true, true, true, true, true] rfl rfl (one_of HT_.out (by kernel_rfl)) (by decide) (fun K hK => ?_)
    refine skip_ (w1 := ?_) (by rfl) rfl ?_ ?_
    rotate_left
    ·go_simp
     rfl
    refine hK.out _ _ ?_
    clear hK K
    refine done_ (done_of HT_.out (by kernel_rfl)) ?_
    try go_wp2
    go_roundg k1
    case measure => have := HK1.out; omega
    case rel => exact ⟨(wrap64 (x4_1 + 1)), (t407), (t408), (y409), (.slice (some ⟨go16, 0, none⟩) x403000_1.length co16), (by first | rfl | (simp; done) | (simp [*]; done)), H', ⟨by have := HK1.out; omega⟩, ⟨by (with_reducible repeat (first | apply Kd.R_alloc | apply Kd.R_drewN | apply Kd.R_drew)); exact Kd.R_mono HQ22.out (fun _ hk => trivial)⟩, ⟨by refine zP8 ?_; refine blk_far ?_ (by have h_ := Kd.R_ne HO_403000.out BK393.out (by decide); intro e_; exact h_ (by rw [e_]; rfl)) _; refine zP8 ?_; exact BK393.out⟩, ⟨by refine zP8 ?_; refine blk_far ?_ (by have h_ := Kd.R_ne HO_403000.out BK402.out (by decide); intro e_; exact h_ (by rw [e_]; rfl)) _; refine zP8 ?_; exact BK402.out⟩, ⟨zB8_11⟩, ⟨zB8_12⟩, ⟨zB8_13⟩⟩
   rw [if_neg c12] at H
   have c12b0 : decide (x4_1 < 4) = false := decide_eq_false c12
   clear c12
   replace H := Option.bind_eq_some_iff.mp H
   obtain ⟨⟨t410, t411, t412⟩, A230, H⟩ := H
   replace H : (if t410 = 0 then ((spec_l1Below.f s0_0 t411 t412 5).bind fun bt413 => (some (x403000_1, t400, wrap64 (bt413.1 - 1), bt413.2.1, bt413.2.2))) else (if t410 = 1 then ((spec_l1PickInt.f s0_0 t411 t412 (([(-1), 65536] : List Int))).bind fun bt419 => (if 0 < (x403000_1.length : Int) then (some ((x403000_1.set (0 : Int).toNat bt419.1), t400, t401, bt419.2.1, bt419.2.2)) else (none))) else (if t410 = 2 then ((spec_l1PickInt.f s0_0 t411 t412 (([(-1), 24] : List Int))).bind fun bt426 => (some (x403000_1, bt426.1, t401, bt426.2.1, bt426.2.2))) else (if t410 = 3 then (if (x403000_1.length : Int) = 4 then (some ((x403000_1.drop (1 : Int).toNat), t400, t401, t411, t412)) else (none)) else (some (x403000_1, t400, t401, t411, t412)))))) = some (r1, r2, r3, r4, r5) := H
   have A23 := Aside0.mk A230
   clear A230
   by_cases c24 : t410 = 0
   ·rw [if_pos c24] at H
    have c24b0 : (t410 == 0) = true := beq_iff_eq.mpr c24
    have c24b1 : (t410 != 0) = false := bne_eq_false_iff_eq.mpr c24
    clear c24
    replace H := Option.bind_eq_some_iff.mp H
    obtain ⟨⟨t413, t414, t415⟩, A250, H⟩ := H
    replace H : (some (x403000_1, t400, wrap64 (t413 - 1), t414, t415)) = some (r1, r2, r3, r4, r5) := H
    have A25 := Aside0.mk A250
    clear A250
    simp only [Option.some.injEq, Prod.mk.injEq] at H
    obtain ⟨rfl, rfl, rfl, rfl, rfl⟩ := H
    go_wp2_with (first | ((with_reducible refine gate_callee (f := 42) rfl ?_); refine goesL_ (some 20) rfl rfl Try.func42 (by kernel_rfl) rfl #[.pointer (some ⟨g, 0, none⟩), .int .i64 12] rfl zT8 ?_; (with_reducible refine (spec_l1Below.calls g s0_0 x1001_1 x1002_1 12 t410 t411 t412 w0 _ ?side1 ?side2 A23.out).mono ?_); (case side1 => exact zB8_8); (case side2 => exact zB8_10); rintro e w26 ⟨rfl, hi, hb, hk⟩; refine ⟨_, rfl, ?_⟩; have n0_ := Aside0.mk (Kd.R_mono (Kd.R_keep (IsS90.apart (show IsS90 w0 _ g s0_0 x1001_1 x1002_1 from zB8_8) (zR8 HO_403000.out) (by decide)) hk (fun _ h => h.2)) (fun _ h => h.1)); have n1_ := Aside0.mk (zh8 hk BK393.out NB393_0.out); have n2_ := Aside0.mk (zh8 hk BK402.out NB402_0.out); have n3_ := Aside0.mk (KeepBut.trans (zB8_9) hk (.inl rfl)); have n4_ := Aside0.mk (hb); have n5_ := Aside0.mk (hi); clear HO_403000; clear BK393; clear BK402; clear HK; clear HB; clear HI0; have HO_403000 := n0_; have BK393 := n1_; have BK402 := n2_; have HK := n3_; have HB := n4_; have HI0 := n5_; clear n0_ n1_ n2_ n3_ n4_ n5_; (try clear hb); (try clear hb2); (try clear hk); (try clear hi)) | ((with_reducible refine gate_callee (f := 42) rfl ?_); refine goesL_ (some 24) rfl rfl Try.func42 (by kernel_rfl) rfl #[.pointer (some ⟨g, 0, none⟩), .int .i64 5] rfl zT8 ?_; (with_reducible refine (spec_l1Below.calls g s0_0 t411 t412 5 t413 t414 t415 w0 _ ?side1 ?side2 A25.out).mono ?_); (case side1 => exact zB8_8); (case side2 => exact zB8_10); rintro e w27 ⟨rfl, hi, hb, hk⟩; refine ⟨_, rfl, ?_⟩; have n0_ := Aside0.mk (Kd.R_mono (Kd.R_keep (IsS90.apart (show IsS90 w0 _ g s0_0 t411 t412 from zB8_8) (zR8 HO_403000.out) (by decide)) hk (fun _ h => h.2)) (fun _ h => h.1)); have n1_ := Aside0.mk (zh8 hk BK393.out NB393_0.out); have n2_ := Aside0.mk (zh8 hk BK402.out NB402_0.out); have n3_ := Aside0.mk (KeepBut.trans (zB8_9) hk (.inl rfl)); have n4_ := Aside0.mk (hb); have n5_ := Aside0.mk (hi); clear HO_403000; clear BK393; clear BK402; clear HK; clear HB; clear HI0; have HO_403000 := n0_; have BK393 := n1_; have BK402 := n2_; have HK := n3_; have HB := n4_; have HI0 := n5_; clear n0_ n1_ n2_ n3_ n4_ n5_; (try clear hb); (try clear hb2); (try clear hk); (try clear hi); have hnb28 := NB402_393.out; have hnc28 := NB393_402.out; have hnb29 := NB402_0.out; have hnc29 := NB0_402.out; obtain ⟨hcz30_0, hcz30_1, hcz30_2, hfz30_0, hfz30_1, hfz30_2⟩ := zc8_3 (w := w27) BK402.out; obtain ⟨Ao31, co31, eo31⟩ := Kd.R_slice HO_403000.out; subst eo31; have hnb32 := NB393_0.out; have hnc32 := NB0_393.out; obtain ⟨hcz33_0, hcz33_1, hcz33_2, hfz33_0, hfz33_1, hfz33_2⟩ := zc8_3 (w := w27) BK393.out))
    refine bodyPost_ret (results_cell_row rfl _ _ gb393 49 #[.slice Ao31 x403000_1.length co31, .int .i64 t400, .int .i64 (wrap64 (t413 - 1))] (0, 0) _ rfl (by refine zP8 ?_; refine blk_put (cs := #[.slice Ao31 x403000_1.length co31, .int .i64 t400, .int .i64 0]) ?_ 2 _ rfl; refine zP8 ?_; refine blk_put (cs := #[.slice Ao31 x403000_1.length co31, .int .i64 0, .int .i64 0]) ?_ 1 _ rfl; refine zP8 ?_; refine blk_put (cs := #[.slice none 0 0, .int .i64 0, .int .i64 0]) ?_ 0 _ rfl; refine zP8 ?_; refine blk_far ?_ NB393_402.out _; refine zP8 ?_; exact BK393.out) Try.underlying49 rfl (by kernel_rfl)) rfl ?_
    exact ⟨_, zE8, QR_of (by (with_reducible repeat (first | apply Kd.R_alloc | apply Kd.R_drewN | apply Kd.R_drew)); exact Kd.R_mono (Kd.R_far (p := ⟨gb393, 2, none⟩) (Kd.R_far (p := ⟨gb393, 1, none⟩) (Kd.R_far (p := ⟨gb393, 0, none⟩) (Kd.R_far (p := ⟨gb402, 2, none⟩) (Kd.R_types (Kd.R_types HO_403000.out BK402.out (by decide)) BK393.out (by decide)) (fun _ hk => hk.1.2) (.int .i64 (wrap64 (t413 - 1)))) (fun _ hk => hk.2) (.slice Ao31 x403000_1.length co31)) (fun _ hk => hk.2) (.int .i64 t400)) (fun _ hk => hk.2) (.int .i64 (wrap64 (t413 - 1)))) (fun _ hk => trivial)), zB8_8, zB8_10, zB8_9⟩
   rw [if_neg c24] at H
   have c24b0 : (t410 == 0) = false := beq_eq_false_iff_ne.mpr c24
   have c24b1 : (t410 != 0) = true := bne_iff_ne.mpr c24
   by_cases c34 : t410 = 1
   rotate_left
   ·rw [if_neg c34] at H
    have c34b0 : (t410 == 1) = false := beq_eq_false_iff_ne.mpr c34
    have c34b1 : (t410 != 1) = true := bne_iff_ne.mpr c34
    by_cases c51 : t410 = 2
    ·rw [if_pos c51] at H
     have c51b0 : (t410 == 2) = true := beq_iff_eq.mpr c51
     have c51b1 : (t410 != 2) = false := bne_eq_false_iff_eq.mpr c51
     clear c51
     obtain ⟨y423, hy423⟩ : ∃ y_ : List Int, y_ = (([(-1), 24] : List Int)) := ⟨_, rfl⟩
     replace H : ((spec_l1PickInt.f s0_0 t411 t412 y423).bind fun bt426 => (some (x403000_1, bt426.1, t401, bt426.2.1, bt426.2.2))) = some (r1, r2, r3, r4, r5) := by first | (rw [hy423]; with_reducible exact H) | (have H2_ := (Option.bind_some _ _).symm.trans H; rw [hy423]; with_reducible exact H2_) | (have H2_ := (Option.bind_some _ _).symm.trans H; with_reducible exact H2_) | with_reducible exact H | (rw [hy423]; exact H) | exact H
     have Ny423 := Aside0.mk hy423
     clear hy423
     replace H := Option.bind_eq_some_iff.mp H
     obtain ⟨⟨t426, t427, t428⟩, A520, H⟩ := H
     replace H : (some (x403000_1, t426, t401, t427, t428)) = some (r1, r2, r3, r4, r5) := H
     have A52 := Aside0.mk A520
     clear A520
     simp only [Option.some.injEq, Prod.mk.injEq] at H
     obtain ⟨rfl, rfl, rfl, rfl, rfl⟩ := H
     go_wp2_with (first | ((with_reducible refine gate_callee (f := 42) rfl ?_); refine goesL_ (some 20) rfl rfl Try.func42 (by kernel_rfl) rfl #[.pointer (some ⟨g, 0, none⟩), .int .i64 12] rfl zT8 ?_; (with_reducible refine (spec_l1Below.calls g s0_0 x1001_1 x1002_1 12 t410 t411 t412 w0 _ ?side1 ?side2 A23.out).mono ?_); (case side1 => exact zB8_8); (case side2 => exact zB8_10); rintro e w53 ⟨rfl, hi, hb, hk⟩; refine ⟨_, rfl, ?_⟩; have n0_ := Aside0.mk (Kd.R_mono (Kd.R_keep (IsS90.apart (show IsS90 w0 _ g s0_0 x1001_1 x1002_1 from zB8_8) (zR8 HO_403000.out) (by decide)) hk (fun _ h => h.2)) (fun _ h => h.1)); have n1_ := Aside0.mk (zh8 hk BK393.out NB393_0.out); have n2_ := Aside0.mk (zh8 hk BK402.out NB402_0.out); have n3_ := Aside0.mk (KeepBut.trans (zB8_9) hk (.inl rfl)); have n4_ := Aside0.mk (hb); have n5_ := Aside0.mk (hi); clear HO_403000; clear BK393; clear BK402; clear HK; clear HB; clear HI0; have HO_403000 := n0_; have BK393 := n1_; have BK402 := n2_; have HK := n3_; have HB := n4_; have HI0 := n5_; clear n0_ n1_ n2_ n3_ n4_ n5_; (try clear hb); (try clear hb2); (try clear hk); (try clear hi)) | ((with_reducible refine gate_dst (N := 38) rfl ?_); refine Kd.R_lit (Kd.int .i64) _ 3 ?hg (N := 38) ?hd (xs := ([(-1), 24] : List Int)) (inner := [.int .i64 (-1), .int .i64 24]) (ok := fun _ => True) (okp := fun _ => True) ?hr ?hp (fun _ hk => hk) trivial (Below.refl _ _) (Nat.le_refl _) (by simp) ?_; (case hd => rfl); (case hg => rfl); (case hr => first | (go_simp; done) | (go_simp; rfl)); (case hp => exact (Reps.one (show Kd.M (Kd.int .i64) _ _ _ (-1) [.int .i64 (-1)] from rfl) (Reps.one (show Kd.M (Kd.int .i64) _ _ _ 24 [.int .i64 24] from rfl) (Reps.none _ _)))); intro v424 w54 ho55 hb hg_ hnew_; clear hg_ hnew_; (first | rw [← Ny423.out] at ho55 | (simp only [Int.reduceToNat] at ho55; rw [← Ny423.out] at ho55)); have n0_ := Aside0.mk (Kd.R_elder' (zR8 HO_403000.out) (Kd.R_base ho55) hb); have n1_ := Aside0.mk (Kd.R_lower (Kd.R_new' ho55 (Kd.R_lt (zR8 HO_403000.out))) (keep_size (w := w) (g := g) (row := none) (zB8_9))); have n2_ := Aside0.mk (zb8 BK393.out hb); have n3_ := Aside0.mk (zb8 BK402.out hb); have n4_ := Aside0.mk (IsS90.below (zB8_8) hb); have n5_ := Aside0.mk (KeepBut.trans (zB8_9) (KeepBut.of_below hb g none) (.inl rfl)); have n6_ := Aside0.mk (below_step (zB8_10) hb); clear HO_403000; clear BK393; clear BK402; clear HI0; clear HK; clear HB; have HO_403000 := n0_; have HO425 := n1_; have BK393 := n2_; have BK402 := n3_; have HI0 := n4_; have HK := n5_; have HB := n6_; clear n0_ n1_ n2_ n3_ n4_ n5_ n6_; clear hb ho55; obtain ⟨Ao56, co56, eo56⟩ := Kd.R_slice HO425.out; subst eo56) | ((with_reducible refine gate_callee (f := 61) rfl ?_); refine goesL_ (some 39) rfl rfl Try.func61 (by kernel_rfl) rfl #[.pointer (some ⟨g, 0, none⟩), .slice Ao56 y423.length co56] rfl zT8 ?_; (with_reducible refine (spec_l1PickInt.calls g s0_0 t411 t412 _ _ y423 t426 t427 t428 w0 _ ?side1 ?side2 ?side3 ?side4 ?side5 A52.out).mono ?_); (case side1 => exact zB8_8); (case side2 => exact zB8_10); (case side3 => exact zC8 (Kd.R_reads' HO425.out).2.2); (case side4 => exact (Kd.R_reads' HO425.out).2.1); (case side5 => exact far_slice (IsS90.own_ne HI0.out HO425.out (by decide))); rintro e w57 ⟨rfl, hi, hb, hk⟩; refine ⟨_, rfl, ?_⟩; have n0_ := Aside0.mk (Kd.R_mono (Kd.R_keep (IsS90.apart (show IsS90 w0 _ g s0_0 t411 t412 from zB8_8) (zR8 HO_403000.out) (by decide)) hk (fun _ h => h.2)) (fun _ h => h.1)); have n1_ := Aside0.mk (zh8 hk BK393.out NB393_0.out); have n2_ := Aside0.mk (zh8 hk BK402.out NB402_0.out); have n3_ := Aside0.mk (Kd.R_mono (Kd.R_keep (IsS90.apart (show IsS90 w0 _ g s0_0 t411 t412 from zB8_8) (zR8 HO425.out) (by decide)) hk (fun _ h => h.2)) (fun _ h => h.1)); have n4_ := Aside0.mk (KeepBut.trans (zB8_9) hk (.inl rfl)); have n5_ := Aside0.mk (hb); have n6_ := Aside0.mk (hi); clear HO_403000; clear BK393; clear BK402; clear HO425; clear HK; clear HB; clear HI0; have HO_403000 := n0_; have BK393 := n1_; have BK402 := n2_; have HO425 := n3_; have HK := n4_; have HB := n5_; have HI0 := n6_; clear n0_ n1_ n2_ n3_ n4_ n5_ n6_; (try clear hb); (try clear hb2); (try clear hk); (try clear hi); have hnb58 := NB402_393.out; have hnc58 := NB393_402.out; have hnb59 := NB402_0.out; have hnc59 := NB0_402.out; obtain ⟨hcz60_0, hcz60_1, hcz60_2, hfz60_0, hfz60_1, hfz60_2⟩ := zc8_3 (w := w57) BK402.out; obtain ⟨Ao61, co61, eo61⟩ := Kd.R_slice HO_403000.out; subst eo61; have hnb62 := NB393_0.out; have hnc62 := NB0_393.out; obtain ⟨hcz63_0, hcz63_1, hcz63_2, hfz63_0, hfz63_1, hfz63_2⟩ := zc8_3 (w := w57) BK393.out))
     refine bodyPost_ret (results_cell_row rfl _ _ gb393 49 #[.slice Ao61 x403000_1.length co61, .int .i64 t426, .int .i64 t401] (0, 0) _ rfl (by refine zP8 ?_; refine blk_put (cs := #[.slice Ao61 x403000_1.length co61, .int .i64 t426, .int .i64 0]) ?_ 2 _ rfl; refine zP8 ?_; refine blk_put (cs := #[.slice Ao61 x403000_1.length co61, .int .i64 0, .int .i64 0]) ?_ 1 _ rfl; refine zP8 ?_; refine blk_put (cs := #[.slice none 0 0, .int .i64 0, .int .i64 0]) ?_ 0 _ rfl; refine zP8 ?_; refine blk_far ?_ NB393_402.out _; refine zP8 ?_; exact BK393.out) Try.underlying49 rfl (by kernel_rfl)) rfl ?_
     exact ⟨_, zE8, QR_of (by (with_reducible repeat (first | apply Kd.R_alloc | apply Kd.R_drewN | apply Kd.R_drew)); exact Kd.R_mono (Kd.R_far (p := ⟨gb393, 2, none⟩) (Kd.R_far (p := ⟨gb393, 1, none⟩) (Kd.R_far (p := ⟨gb393, 0, none⟩) (Kd.R_far (p := ⟨gb402, 1, none⟩) (Kd.R_types (Kd.R_types HO_403000.out BK402.out (by decide)) BK393.out (by decide)) (fun _ hk => hk.1.2) (.int .i64 t426)) (fun _ hk => hk.2) (.slice Ao61 x403000_1.length co61)) (fun _ hk => hk.2) (.int .i64 t426)) (fun _ hk => hk.2) (.int .i64 t401)) (fun _ hk => trivial)), zB8_8, zB8_10, zB8_9⟩
    rw [if_neg c51] at H
    have c51b0 : (t410 == 2) = false := beq_eq_false_iff_ne.mpr c51
    have c51b1 : (t410 != 2) = true := bne_iff_ne.mpr c51
    by_cases c64 : t410 = 3
    rotate_left
    ·rw [if_neg c64] at H
     have c64b0 : (t410 == 3) = false := beq_eq_false_iff_ne.mpr c64
     have c64b1 : (t410 != 3) = true := bne_iff_ne.mpr c64
     simp only [Option.some.injEq, Prod.mk.injEq] at H
     obtain ⟨rfl, rfl, rfl, rfl, rfl⟩ := H
     go_wp2_with (first | ((with_reducible refine gate_callee (f := 42) rfl ?_); refine goesL_ (some 20) rfl rfl Try.func42 (by kernel_rfl) rfl #[.pointer (some ⟨g, 0, none⟩), .int .i64 12] rfl zT8 ?_; (with_reducible refine (spec_l1Below.calls g s0_0 x1001_1 x1002_1 12 t410 t411 t412 w0 _ ?side1 ?side2 A23.out).mono ?_); (case side1 => exact zB8_8); (case side2 => exact zB8_10); rintro e w71 ⟨rfl, hi, hb, hk⟩; refine ⟨_, rfl, ?_⟩; have n0_ := Aside0.mk (Kd.R_mono (Kd.R_keep (IsS90.apart (show IsS90 w0 _ g s0_0 x1001_1 x1002_1 from zB8_8) (zR8 HO_403000.out) (by decide)) hk (fun _ h => h.2)) (fun _ h => h.1)); have n1_ := Aside0.mk (zh8 hk BK393.out NB393_0.out); have n2_ := Aside0.mk (zh8 hk BK402.out NB402_0.out); have n3_ := Aside0.mk (KeepBut.trans (zB8_9) hk (.inl rfl)); have n4_ := Aside0.mk (hb); have n5_ := Aside0.mk (hi); clear HO_403000; clear BK393; clear BK402; clear HK; clear HB; clear HI0; have HO_403000 := n0_; have BK393 := n1_; have BK402 := n2_; have HK := n3_; have HB := n4_; have HI0 := n5_; clear n0_ n1_ n2_ n3_ n4_ n5_; (try clear hb); (try clear hb2); (try clear hk); (try clear hi); have hnb72 := NB402_393.out; have hnc72 := NB393_402.out; have hnb73 := NB402_0.out; have hnc73 := NB0_402.out; obtain ⟨hcz74_0, hcz74_1, hcz74_2, hfz74_0, hfz74_1, hfz74_2⟩ := zc8_3 (w := w71) BK402.out; obtain ⟨Ao75, co75, eo75⟩ := Kd.R_slice HO_403000.out; subst eo75; have hnb76 := NB393_0.out; have hnc76 := NB0_393.out; obtain ⟨hcz77_0, hcz77_1, hcz77_2, hfz77_0, hfz77_1, hfz77_2⟩ := zc8_3 (w := w71) BK393.out))
     refine bodyPost_ret (results_cell_row rfl _ _ gb393 49 #[.slice Ao75 x403000_1.length co75, .int .i64 t400, .int .i64 t401] (0, 0) _ rfl (by refine zP8 ?_; refine blk_put (cs := #[.slice Ao75 x403000_1.length co75, .int .i64 t400, .int .i64 0]) ?_ 2 _ rfl; refine zP8 ?_; refine blk_put (cs := #[.slice Ao75 x403000_1.length co75, .int .i64 0, .int .i64 0]) ?_ 1 _ rfl; refine zP8 ?_; refine blk_put (cs := #[.slice none 0 0, .int .i64 0, .int .i64 0]) ?_ 0 _ rfl; refine zP8 ?_; exact BK393.out) Try.underlying49 rfl (by kernel_rfl)) rfl ?_
     exact ⟨_, zE8, QR_of (by (with_reducible repeat (first | apply Kd.R_alloc | apply Kd.R_drewN | apply Kd.R_drew)); exact Kd.R_mono (Kd.R_far (p := ⟨gb393, 2, none⟩) (Kd.R_far (p := ⟨gb393, 1, none⟩) (Kd.R_far (p := ⟨gb393, 0, none⟩) (Kd.R_types HO_403000.out BK393.out (by decide)) (fun _ hk => hk.2) (.slice Ao75 x403000_1.length co75)) (fun _ hk => hk.2) (.int .i64 t400)) (fun _ hk => hk.2) (.int .i64 t401)) (fun _ hk => trivial)), zB8_8, zB8_10, zB8_9⟩
    rw [if_pos c64] at H
    have c64b0 : (t410 == 3) = true := beq_iff_eq.mpr c64
    have c64b1 : (t410 != 3) = false := bne_eq_false_iff_eq.mpr c64
    clear c64
    by_cases c65 : (x403000_1.length : Int) = 4
    rotate_left
    ·rw [if_neg c65] at H
     exact absurd H (by simp)
    rw [if_pos c65] at H
    have HL4 := Aside0.mk c65
    have c65b0 := eq_true (show 1 ≤ (x403000_1.length : Int) by omega)
    have c65b1 : decide (1 ≤ (x403000_1.length : Int)) = true := decide_eq_true (by omega)
    clear c65
    obtain ⟨y429, hy429⟩ : ∃ y_ : List Int, y_ = (x403000_1.drop (1 : Int).toNat) := ⟨_, rfl⟩
    replace H : (some (y429, t400, t401, t411, t412)) = some (r1, r2, r3, r4, r5) := by first | (rw [hy429]; with_reducible exact H) | (have H2_ := (Option.bind_some _ _).symm.trans H; rw [hy429]; with_reducible exact H2_) | (have H2_ := (Option.bind_some _ _).symm.trans H; with_reducible exact H2_) | with_reducible exact H | (rw [hy429]; exact H) | exact H
    have Ny429 := Aside0.mk hy429
    clear hy429
    simp only [Option.some.injEq, Prod.mk.injEq] at H
    obtain ⟨rfl, rfl, rfl, rfl, rfl⟩ := H
    have hQ_ := Aside0.mk (Kd.Q_of_R HO_403000.out)
    clear HO_403000
    have HO_403000 := hQ_
    clear hQ_
    go_wp2_with (first | ((with_reducible refine gate_callee (f := 42) rfl ?_); refine goesL_ (some 20) rfl rfl Try.func42 (by kernel_rfl) rfl #[.pointer (some ⟨g, 0, none⟩), .int .i64 12] rfl zT8 ?_; (with_reducible refine (spec_l1Below.calls g s0_0 x1001_1 x1002_1 12 t410 t411 t412 w0 _ ?side1 ?side2 A23.out).mono ?_); (case side1 => exact zB8_8); (case side2 => exact zB8_10); rintro e w66 ⟨rfl, hi, hb, hk⟩; refine ⟨_, rfl, ?_⟩; have n0_ := Aside0.mk (Kd.Q_mono (Kd.Q_keep (IsS90.apartQ (show IsS90 w0 _ g s0_0 x1001_1 x1002_1 from zB8_8) (zQ8 HO_403000.out) (by decide)) hk (fun _ h => h.2)) (fun _ h => h.1)); have n1_ := Aside0.mk (zh8 hk BK393.out NB393_0.out); have n2_ := Aside0.mk (zh8 hk BK402.out NB402_0.out); have n3_ := Aside0.mk (KeepBut.trans (zB8_9) hk (.inl rfl)); have n4_ := Aside0.mk (hb); have n5_ := Aside0.mk (hi); clear HO_403000; clear BK393; clear BK402; clear HK; clear HB; clear HI0; have HO_403000 := n0_; have BK393 := n1_; have BK402 := n2_; have HK := n3_; have HB := n4_; have HI0 := n5_; clear n0_ n1_ n2_ n3_ n4_ n5_; (try clear hb); (try clear hb2); (try clear hk); (try clear hi); have hnb67 := NB402_393.out; have hnc67 := NB393_402.out; have hnb68 := NB402_0.out; have hnc68 := NB0_402.out; obtain ⟨hcz69_0, hcz69_1, hcz69_2, hfz69_0, hfz69_1, hfz69_2⟩ := zc8_3 (w := w66) BK402.out; obtain ⟨Ao70, co70, eo70, _⟩ := Kd.Q_slice HO_403000.out; subst eo70; have q71 : (1 : Int) ≤ ((x403000_1.length : Int) : Int) := zA8; obtain ⟨i071, hi071, _, hsz71, _⟩ := info_parts info3; have hcut71 := cut_from (P := Try.prog) 29 3 .i64 Try.underlying29 hi071 1 hsz71 Ao70 x403000_1.length co70 1 (by omega) q71; have hr71 := Kd.Q_drop (k := (1 : Int).toNat) HO_403000.out (by omega); obtain ⟨A71, hA71⟩ : ∃ A1, A1 = (if co70 = (1 : Int).toNat then Ao70 else (Ao70 : Option Addr).map (·.add ((1 : Int).toNat * 1))) := ⟨_, rfl⟩; obtain ⟨c71, hc71⟩ : ∃ c1, c1 = co70 - (1 : Int).toNat := ⟨_, rfl⟩; have hy71 : y429.length = x403000_1.length - (1 : Int).toNat := (by rw [Ny429.out, List.length_drop]); rw [← Ny429.out] at hr71; rw [← hy71, ← hA71, ← hc71] at hcut71; replace hr71 : Kd.Q (Kd.int .i64) 3 w66 w.heap.size (fun _ => True) (.slice A71 y429.length c71) y429 := (by rw [hA71, hc71, hy71]; exact hr71); have HE71 : Aside0 ((Value.slice A71 y429.length c71).ownBlock = (.slice Ao70 x403000_1.length co70 : Value).ownBlock) := ⟨by rw [hA71]; split <;> (cases (Ao70 : Option Addr) <;> rfl)⟩; clear hy71 hi071 hsz71 HO_403000 hA71 hc71; have HO431 := Aside0.mk hr71; clear hr71; replace q71 := eq_true q71; have hnb72 := NB393_0.out; have hnc72 := NB0_393.out; obtain ⟨hcz73_0, hcz73_1, hcz73_2, hfz73_0, hfz73_1, hfz73_2⟩ := zc8_3 (w := w66) BK393.out))
    refine bodyPost_ret (results_cell_row rfl _ _ gb393 49 #[.slice A71 y429.length c71, .int .i64 t400, .int .i64 t401] (0, 0) _ rfl (by refine zP8 ?_; refine blk_put (cs := #[.slice A71 y429.length c71, .int .i64 t400, .int .i64 0]) ?_ 2 _ rfl; refine zP8 ?_; refine blk_put (cs := #[.slice A71 y429.length c71, .int .i64 0, .int .i64 0]) ?_ 1 _ rfl; refine zP8 ?_; refine blk_put (cs := #[.slice none 0 0, .int .i64 0, .int .i64 0]) ?_ 0 _ rfl; refine zP8 ?_; refine blk_far ?_ NB393_402.out _; refine zP8 ?_; exact BK393.out) Try.underlying49 rfl (by kernel_rfl)) rfl ?_
    exact ⟨_, zE8, ⟨by (with_reducible repeat (first | apply Kd.Q_alloc | apply Kd.Q_drewN | apply Kd.Q_drew)); exact Kd.Q_mono (Kd.Q_far (p := ⟨gb393, 2, none⟩) (Kd.Q_far (p := ⟨gb393, 1, none⟩) (Kd.Q_far (p := ⟨gb393, 0, none⟩) (Kd.Q_far (p := ⟨gb402, 0, none⟩) (Kd.Q_types (Kd.Q_types HO431.out BK402.out (by decide)) BK393.out (by decide)) (fun _ hk => hk.1.2) (.slice A71 y429.length c71)) (fun _ hk => hk.2) (.slice A71 y429.length c71)) (fun _ hk => hk.2) (.int .i64 t400)) (fun _ hk => hk.2) (.int .i64 t401)) (fun _ hk => trivial), fun hl_ => absurd hl_ (by rw [Ny429.out, List.length_drop]; have h4_ := HL4.out; simp only [Int.toNat_one]; omega)⟩, zB8_8, zB8_10, zB8_9⟩
   rw [if_pos c34] at H
   have c34b0 : (t410 == 1) = true := beq_iff_eq.mpr c34
   have c34b1 : (t410 != 1) = false := bne_eq_false_iff_eq.mpr c34
   clear c34
   obtain ⟨y416, hy416⟩ : ∃ y_ : List Int, y_ = (([(-1), 65536] : List Int)) := ⟨_, rfl⟩
   replace H : ((spec_l1PickInt.f s0_0 t411 t412 y416).bind fun bt419 => (if 0 < (x403000_1.length : Int) then (some ((x403000_1.set (0 : Int).toNat bt419.1), t400, t401, bt419.2.1, bt419.2.2)) else (none))) = some (r1, r2, r3, r4, r5) := by first | (rw [hy416]; with_reducible exact H) | (have H2_ := (Option.bind_some _ _).symm.trans H; rw [hy416]; with_reducible exact H2_) | (have H2_ := (Option.bind_some _ _).symm.trans H; with_reducible exact H2_) | with_reducible exact H | (rw [hy416]; exact H) | exact H
   have Ny416 := Aside0.mk hy416
   clear hy416
   replace H := Option.bind_eq_some_iff.mp H
   obtain ⟨⟨t419, t420, t421⟩, A350, H⟩ := H
   replace H : (if 0 < (x403000_1.length : Int) then (some ((x403000_1.set (0 : Int).toNat t419), t400, t401, t420, t421)) else (none)) = some (r1, r2, r3, r4, r5) := H
   have A35 := Aside0.mk A350
   clear A350
   by_cases c36 : 0 < (x403000_1.length : Int)
   rotate_left
   ·rw [if_neg c36] at H
    exact absurd H (by simp)
   rw [if_pos c36] at H
   have c36b0 : decide (0 < (x403000_1.length : Int)) = true := decide_eq_true c36
   have c36b1 : decide (0 < x403000_1.length) = true := decide_eq_true (by omega)
   clear c36
   obtain ⟨y422, hy422⟩ : ∃ y_ : List Int, y_ = (x403000_1.set (0 : Int).toNat t419) := ⟨_, rfl⟩
   replace H : (some (y422, t400, t401, t420, t421)) = some (r1, r2, r3, r4, r5) := by first | (rw [hy422]; with_reducible exact H) | (have H2_ := (Option.bind_some _ _).symm.trans H; rw [hy422]; with_reducible exact H2_) | (have H2_ := (Option.bind_some _ _).symm.trans H; with_reducible exact H2_) | with_reducible exact H | (rw [hy422]; exact H) | exact H
   have Ny422 := Aside0.mk hy422
   clear hy422
   simp only [Option.some.injEq, Prod.mk.injEq] at H
   obtain ⟨rfl, rfl, rfl, rfl, rfl⟩ := H
   try go_wp2_with (first | ((with_reducible refine gate_callee (f := 42) rfl ?_); refine goesL_ (some 20) rfl rfl Try.func42 (by kernel_rfl) rfl #[.pointer (some ⟨g, 0, none⟩), .int .i64 12] rfl zT8 ?_; (with_reducible refine (spec_l1Below.calls g s0_0 x1001_1 x1002_1 12 t410 t411 t412 w0 _ ?side1 ?side2 A23.out).mono ?_); (case side1 => exact zB8_8); (case side2 => exact zB8_10); rintro e w38 ⟨rfl, hi, hb, hk⟩; refine ⟨_, rfl, ?_⟩; have n0_ := Aside0.mk (Kd.R_mono (Kd.R_keep (IsS90.apart (show IsS90 w0 _ g s0_0 x1001_1 x1002_1 from zB8_8) (zR8 HO_403000.out) (by decide)) hk (fun _ h => h.2)) (fun _ h => h.1)); have n1_ := Aside0.mk (zh8 hk BK393.out NB393_0.out); have n2_ := Aside0.mk (zh8 hk BK402.out NB402_0.out); have n3_ := Aside0.mk (KeepBut.trans (zB8_9) hk (.inl rfl)); have n4_ := Aside0.mk (hb); have n5_ := Aside0.mk (hi); clear HO_403000; clear BK393; clear BK402; clear HK; clear HB; clear HI0; have HO_403000 := n0_; have BK393 := n1_; have BK402 := n2_; have HK := n3_; have HB := n4_; have HI0 := n5_; clear n0_ n1_ n2_ n3_ n4_ n5_; (try clear hb); (try clear hb2); (try clear hk); (try clear hi)))
   have n0_ := Aside0.mk (Kd.R_drew HO_403000.out)
   have n1_ := Aside0.mk (blk_drew BK393.out)
   have n2_ := Aside0.mk (blk_drew BK402.out)
   have n3_ := Aside0.mk (IsS90.drew HI0.out)
   have n4_ := Aside0.mk (keep_drew HK.out)
   have n5_ := Aside0.mk (below_drew1 HB.out)
   clear HO_403000 BK393 BK402 HI0 HK HB
   have HO_403000 := n0_
   have BK393 := n1_
   have BK402 := n2_
   have HI0 := n3_
   have HK := n4_
   have HB := n5_
   clear n0_ n1_ n2_ n3_ n4_ n5_
   refine start_ (n := 7) (S := fun w' => w'.cell? ⟨gb402, 0, none⟩ = some (u403000) ∧ w'.cell? ⟨gb402, 1, none⟩ = some (.int .i64 t400) ∧ w'.cell? ⟨gb402, 2, none⟩ = some (.int .i64 t401)) (ds := [6]) #[false, false, false, false, false, false, false] (by kernel_rfl) rfl rfl ⟨(blk_cell BK402.out 0).trans rfl, (blk_cell BK402.out 1).trans rfl, (blk_cell BK402.out 2).trans rfl⟩ (fun hHeld => ?_)
   generalize w38.drew = w39 at HO_403000 BK393 BK402 HI0 HK HB hHeld ⊢
   refine pure_ (i := 0) (N := some 29) (v := ?_) (a' := ?_) #[true, false, false, false, false, false, false] rfl rfl (by kernel_rfl) (fun _ _ _ h => h) (Or.inl ⟨by rfl, ?_⟩) ?_ ?_
   rotate_left
   ·intro w'
    go_simp
    with_reducible rfl
   rotate_left
   ·exact zV8
   refine pure_ (i := 2) (N := some 31) (v := ?_) (a' := ?_) #[true, false, true, false, false, false, false] rfl rfl (by kernel_rfl) (fun _ _ _ h => h) (Or.inl ⟨by rfl, ?_⟩) ?_ ?_
   rotate_left
   ·intro w'
    go_simp
    with_reducible rfl
   rotate_left
   ·exact zV8
   refine take_ (i := 1) (N := some 30) (v := ?_) (a' := ?_) #[true, true, true, false, false, false, false] rfl rfl (by kernel_rfl) (fun _ _ _ h => h) (Or.inl ⟨by rfl, ?_⟩) hHeld ?_ ?_
   rotate_left
   ·rintro w' ⟨s0, s1, s2⟩
    go_simp
    with_reducible rfl
   rotate_left
   ·exact zV8
   refine one_ (i := 3) (N := some 32) #[true, true, true, true, false, false, false] rfl rfl (by kernel_rfl) (by decide) (fun K hK => ?_)
   refine Kd.R_lit_step (Kd.int .i64) _ 3 ?hg (N := 32) ?hd (xs := ([(-1), 65536] : List Int)) (inner := [.int .i64 (-1), .int .i64 65536]) (ok := fun _ => True) (okp := fun _ => True) ?hr ?hp (fun _ hk => hk) trivial (Below.refl _ _) (Nat.le_refl _) (by simp) ?_; (case hd => rfl); (case hg => rfl); (case hr => first | (go_simp; done) | (go_simp; rfl)); (case hp => exact (Reps.one (show Kd.M (Kd.int .i64) _ _ _ (-1) [.int .i64 (-1)] from rfl) (Reps.one (show Kd.M (Kd.int .i64) _ _ _ 65536 [.int .i64 65536] from rfl) (Reps.none _ _))))
   intro v417 w40 ho41 hb hg_ hnew_
   clear hg_ hnew_
   (first | rw [← Ny416.out] at ho41 | (simp only [Int.reduceToNat] at ho41; rw [← Ny416.out] at ho41))
   have n0_ := Aside0.mk (Kd.R_elder' (zR8 HO_403000.out) (Kd.R_base ho41) hb)
   have n1_ := Aside0.mk (Kd.R_lower (Kd.R_new' ho41 (Kd.R_lt (zR8 HO_403000.out))) (keep_size (w := w) (g := g) (row := none) (zB8_9)))
   have n2_ := Aside0.mk (zb8 BK393.out hb)
   have n3_ := Aside0.mk (zb8 BK402.out hb)
   have n4_ := Aside0.mk (IsS90.below (zB8_8) hb)
   have n5_ := Aside0.mk (KeepBut.trans (zB8_9) (KeepBut.of_below hb g none) (.inl rfl))
   have n6_ := Aside0.mk (below_step (zB8_10) hb)
   clear HO_403000 BK393 BK402 HI0 HK HB
   have HO_403000 := n0_
   have HO418 := n1_
   have BK393 := n2_
   have BK402 := n3_
   have HI0 := n4_
   have HK := n5_
   have HB := n6_
   clear n0_ n1_ n2_ n3_ n4_ n5_ n6_ hb ho41
   obtain ⟨Ao42, co42, eo42⟩ := Kd.R_slice HO418.out
   (first | subst eo42 | (injection eo42 with f1_ f2_ f3_; have f4_ := f1_.symm; have f5_ := f3_.symm; clear f1_ f2_ f3_; subst f4_; subst f5_))
   refine hK.out _ _ ⟨(blk_cell BK402.out 0).trans rfl, (blk_cell BK402.out 1).trans rfl, (blk_cell BK402.out 2).trans rfl⟩ (fun hHeld => ?_)
   clear hK K
   refine norm_ (a' := ?_) ?_ ?_
   rotate_left
   ·show Act.put _ (some 32) _ = _
    simp only [Act.put, List.setIfInBounds_toArray, List.set_cons_zero, List.set_cons_succ, i64_w, i32_w]
    rfl
   refine one_ (i := 4) (N := some 33) #[true, true, true, true, true, false, false] rfl rfl (by kernel_rfl) (by decide) (fun K hK => ?_)
   refine goes_ Try.func61 (by kernel_rfl) rfl #[.pointer (some ⟨g, 0, none⟩), .slice Ao42 y416.length co42] (by rfl) rfl rfl zT8 ?_
   with_reducible refine (spec_l1PickInt.calls g s0_0 t411 t412 _ _ y416 t419 t420 t421 w0 _ ?side1 ?side2 ?side3 ?side4 ?side5 A35.out).mono ?_
   (case side1 => exact zB8_8)
   (case side2 => exact zB8_10)
   (case side3 => exact zC8 (Kd.R_reads' HO418.out).2.2)
   (case side4 => exact (Kd.R_reads' HO418.out).2.1)
   (case side5 => exact far_slice (IsS90.own_ne HI0.out HO418.out (by decide)))
   rintro e w43 ⟨rfl, hi, hb, hk⟩
   refine ⟨_, rfl, ?_⟩
   have n0_ := Aside0.mk (Kd.R_mono (Kd.R_keep (IsS90.apart (show IsS90 w0 _ g s0_0 t411 t412 from zB8_8) (zR8 HO_403000.out) (by decide)) hk (fun _ h => h.2)) (fun _ h => h.1))
   have n1_ := Aside0.mk (zh8 hk BK393.out NB393_0.out)
   have n2_ := Aside0.mk (zh8 hk BK402.out NB402_0.out)
   have n3_ := Aside0.mk (Kd.R_mono (Kd.R_keep (IsS90.apart (show IsS90 w0 _ g s0_0 t411 t412 from zB8_8) (zR8 HO418.out) (by decide)) hk (fun _ h => h.2)) (fun _ h => h.1))
   have n4_ := Aside0.mk (KeepBut.trans (zB8_9) hk (.inl rfl))
   have n5_ := Aside0.mk (hb)
   have n6_ := Aside0.mk (hi)
   clear HO_403000 BK393 BK402 HO418 HK HB HI0
   have HO_403000 := n0_
   have BK393 := n1_
   have BK402 := n2_
   have HO418 := n3_
   have HK := n4_
   have HB := n5_
   have HI0 := n6_
   clear n0_ n1_ n2_ n3_ n4_ n5_ n6_
   (try clear hb)
   (try clear hb2)
   (try clear hk)
   (try clear hi)
   have p37 : 0 ≤ (0 : Int) := (by omega)
   have q37 : (0 : Int) < ((x403000_1.length : Int) : Int) := zA8
   have qi37 : (0 < x403000_1.length) = True := eq_true (by omega)
   obtain ⟨go37, co37, eo37, gb37, gl37, cl37, HG37⟩ := Kd.R_form HO_403000.out (by omega)
   (first | cases eo37 | (injection eo37 with ea_ en_ ec_; (first | subst ea_ | (injection ea_ with ea_; subst ea_)); subst ec_; clear en_))
   have GB37 := Aside0.mk gb37
   have GG37 := Aside0.mk HG37
   clear gb37 gl37 HG37
   obtain ⟨hx37_0, hf37_0⟩ := Kd.R_celln 0 HO_403000.out (0 : Int) p37 q37
   (try rw [show ((0 : Int)).toNat = 0 from rfl] at hx37_0)
   (try simp only [Nat.reduceMul, Nat.zero_mul, Nat.zero_add, Nat.reduceAdd] at hx37_0)
   (try rw [show ((0 : Int)).toNat = 0 from rfl] at hf37_0)
   (try simp only [Nat.reduceMul, Nat.zero_mul, Nat.zero_add, Nat.reduceAdd] at hf37_0)
   replace p37 := eq_true p37
   replace q37 := eq_true q37
   have HN0_go37 := Aside0.mk (show g ≠ go37 from by have h_ := IsS90.own_ne HI0.out HO_403000.out (by decide); intro e_; exact h_ (by rw [e_]; rfl))
   have HP44 := Kd.R_putn HO_403000.out (0 : Int) t419
   rw [← Ny422.out] at HP44
   have HQ44 := Aside0.mk HP44
   clear HP44
   refine hK.out _ _ ⟨(blk_cell BK402.out 0).trans rfl, (blk_cell BK402.out 1).trans rfl, (blk_cell BK402.out 2).trans rfl⟩ (fun hHeld => ?_)
   clear hK K
   refine norm_ (a' := ?_) ?_ ?_
   rotate_left
   ·show Act.put _ (some 33) _ = _
    simp only [Act.put, List.setIfInBounds_toArray, List.set_cons_zero, List.set_cons_succ, i64_w, i32_w]
    rfl
   refine pure_ (i := 5) (N := some 34) (v := ?_) (a' := ?_) #[true, true, true, true, true, true, false] rfl rfl (by kernel_rfl) (fun _ _ _ h => h) (Or.inl ⟨by rfl, ?_⟩) ?_ ?_
   rotate_left
   ·intro w'
    go_simp
    with_reducible rfl
   rotate_left
   ·exact zV8
   refine last_ (i := 6) (N := none) #[true, true, true, true, true, true, true] rfl rfl (by kernel_rfl) (by decide) (fun K hK => ?_)
   refine skip_ (w1 := ?_) (by rfl) rfl ?_ ?_
   rotate_left
   ·go_simp
    rfl
   refine hK.out _ _ ?_
   clear hK K
   refine done_ (by kernel_rfl) ?_
   have n0_ : Aside0 (Kd.R (Kd.int .i64) 3 (w43.setCell ⟨go37, 0, none⟩ (.int .i64 t419)) w.heap.size (fun k_ => some k_ ≠ (.slice Ao42 y416.length co42 : Value).ownBlock) (.slice (some ⟨go37, 0, none⟩) x403000_1.length co37) y422) := ⟨by (with_reducible repeat (first | apply Kd.R_alloc | apply Kd.R_drewN | apply Kd.R_drew)); exact Kd.R_mono HQ44.out (fun _ hk => hk.2)⟩
   have n1_ : Aside0 (Kd.R (Kd.int .i64) 3 (w43.setCell ⟨go37, 0, none⟩ (.int .i64 t419)) w.heap.size (fun k_ => some k_ ≠ (.slice (some ⟨go37, 0, none⟩) x403000_1.length co37 : Value).ownBlock) (.slice Ao42 y416.length co42) y416) := ⟨by (with_reducible repeat (first | apply Kd.R_alloc | apply Kd.R_drewN | apply Kd.R_drew)); exact Kd.R_mono (Kd.R_far (p := ⟨go37, 0, none⟩) (Kd.R_mono HO418.out (fun k_ hk => (⟨hk, fun e_ => hk.2 (by rw [e_]; rfl)⟩ : _ ∧ k_ ≠ go37))) (fun _ hk => hk.2) (.int .i64 t419)) (fun _ hk => hk.1.2)⟩
   have n2_ : Aside0 ((w43.setCell ⟨go37, 0, none⟩ (.int .i64 t419)).heap[gb393]? = some (.cells #[.slice none 0 0, .int .i64 0, .int .i64 0] 49 (0, 0))) := ⟨by refine zP8 ?_; refine blk_far ?_ (by have h_ := Kd.R_ne HO_403000.out BK393.out (by decide); intro e_; exact h_ (by rw [e_]; rfl)) _; refine zP8 ?_; exact BK393.out⟩
   have n3_ : Aside0 ((w43.setCell ⟨go37, 0, none⟩ (.int .i64 t419)).heap[gb402]? = some (.cells #[.slice (some ⟨go37, 0, none⟩) x403000_1.length co37, .int .i64 t400, .int .i64 t401] 49 (0, 0))) := ⟨by refine zP8 ?_; refine blk_far ?_ (by have h_ := Kd.R_ne HO_403000.out BK402.out (by decide); intro e_; exact h_ (by rw [e_]; rfl)) _; refine zP8 ?_; exact BK402.out⟩
   have n4_ : Aside0 (IsS90 w0 (w43.setCell ⟨go37, 0, none⟩ (.int .i64 t419)) g s0_0 t420 t421) := ⟨zB8_14⟩
   have n5_ : Aside0 (KeepBut w (w43.setCell ⟨go37, 0, none⟩ (.int .i64 t419)) g none) := ⟨zB8_15⟩
   have n6_ : Aside0 (Below w0.heap.size w0 (w43.setCell ⟨go37, 0, none⟩ (.int .i64 t419))) := ⟨zB8_16⟩
   (try clear HO_403000)
   (try clear HO418)
   (try clear BK393)
   (try clear BK402)
   (try clear HI0)
   (try clear HK)
   (try clear HB)
   generalize (w43.setCell ⟨go37, 0, none⟩ (.int .i64 t419)) = w45 at n0_ n1_ n2_ n3_ n4_ n5_ n6_ ⊢
   have HO_403000 := n0_
   have HO418 := n1_
   have BK393 := n2_
   have BK402 := n3_
   have HI0 := n4_
   have HK := n5_
   have HB := n6_
   clear n0_ n1_ n2_ n3_ n4_ n5_ n6_
   have hnb46 := NB402_393.out
   have hnc46 := NB393_402.out
   have hnb47 := NB402_0.out
   have hnc47 := NB0_402.out
   obtain ⟨hcz48_0, hcz48_1, hcz48_2, hfz48_0, hfz48_1, hfz48_2⟩ := zc8_3 (w := w45) BK402.out
   have hnb49 := NB393_0.out
   have hnc49 := NB0_393.out
   obtain ⟨hcz50_0, hcz50_1, hcz50_2, hfz50_0, hfz50_1, hfz50_2⟩ := zc8_3 (w := w45) BK393.out
   try go_wp2
   refine bodyPost_ret (results_cell_row rfl _ _ gb393 49 #[.slice (some ⟨go37, 0, none⟩) x403000_1.length co37, .int .i64 t400, .int .i64 t401] (0, 0) _ rfl (by refine zP8 ?_; refine blk_put (cs := #[.slice (some ⟨go37, 0, none⟩) x403000_1.length co37, .int .i64 t400, .int .i64 0]) ?_ 2 _ rfl; refine zP8 ?_; refine blk_put (cs := #[.slice (some ⟨go37, 0, none⟩) x403000_1.length co37, .int .i64 0, .int .i64 0]) ?_ 1 _ rfl; refine zP8 ?_; refine blk_put (cs := #[.slice none 0 0, .int .i64 0, .int .i64 0]) ?_ 0 _ rfl; refine zP8 ?_; exact BK393.out) Try.underlying49 rfl (by kernel_rfl)) rfl ?_
   exact ⟨_, zE8, QR_of (by (with_reducible repeat (first | apply Kd.R_alloc | apply Kd.R_drewN | apply Kd.R_drew)); exact Kd.R_mono (Kd.R_far (p := ⟨gb393, 2, none⟩) (Kd.R_far (p := ⟨gb393, 1, none⟩) (Kd.R_far (p := ⟨gb393, 0, none⟩) (Kd.R_types HO_403000.out BK393.out (by decide)) (fun _ hk => hk.2) (.slice (some ⟨go37, 0, none⟩) x403000_1.length co37)) (fun _ hk => hk.2) (.int .i64 t400)) (fun _ hk => hk.2) (.int .i64 t401)) (fun _ hk => trivial)), zB8_8, zB8_10, zB8_9⟩

end Go.Proofs.Ytgbjengnkbomoaa.PFnByHart
