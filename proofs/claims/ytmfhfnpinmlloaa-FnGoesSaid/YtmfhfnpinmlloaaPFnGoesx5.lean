-- made by wip/tools/myprint.py out of the seat's translation
import Derived.Test.YtmfhfnpinmlloaaPFnGoesx0
import Derived.Test.YtmfhfnpinmlloaaPFnGoesx2
import Derived.Test.YtmfhfnpinmlloaaPFnGoesx3
import Derived.Test.YtmfhfnpinmlloaaPFnGoesx4
namespace Go.Proofs.Ytmfhfnpinmlloaa.PFnGoes
open Go.RowKit Go.Proofs.YtmfhfnpinmlloaaW.PrintWords Go.Proofs.YtmfhfnpinmlloaaW.PrintLast Go.Proofs.YtmfhfnpinmlloaaW.PrintMore
attribute [local go_sem] max2_int min2_int max_two min_two max_three min_three max_four min_four   -- for this text's walks alone
set_option linter.unusedVariables false
set_option linter.unusedSimpArgs false
theorem zc5_3 {w : World} {g : Nat} {a0 a1 a2 : Value} {t : TypeId} (h : w.heap[g]? = some (.cells #[a0, a1, a2] t (0, 0))) : w.cell? ⟨g, 0, none⟩ = some a0 ∧ w.cell? ⟨g, 1, none⟩ = some a1 ∧ w.cell? ⟨g, 2, none⟩ = some a2 ∧ w.frozen? ⟨g, 0, none⟩ = false ∧ w.frozen? ⟨g, 1, none⟩ = false ∧ w.frozen? ⟨g, 2, none⟩ = false := ⟨(blk_cell h 0).trans rfl, (blk_cell h 1).trans rfl, (blk_cell h 2).trans rfl, blk_frozen h 0, blk_frozen h 1, blk_frozen h 2⟩
theorem zR5 {p q : Prop} (x : q) (h : q → p := by intro h; (with_reducible repeat (first | apply Kd.R_alloc | apply Kd.R_drewN | apply Kd.R_drew)); exact h) : p := h x
theorem zS5 {p q : Prop} (x : q) (h : q → p := by intro h; (with_reducible repeat (first | apply Kd.S_alloc | apply Kd.S_drewN | apply Kd.S_drew)); exact h) : p := h x
theorem zQ5 {p q : Prop} (x : q) (h : q → p := by intro h; (with_reducible repeat (first | apply Kd.Q_alloc | apply Kd.Q_drewN | apply Kd.Q_drew)); exact h) : p := h x
theorem zK5 {p q : Prop} (x : q) (h : q → p := by intro h; (with_reducible repeat (first | refine blk_drewN ?_ _ | refine blk_drew ?_ | refine blk_alloc ?_ _)); exact h) : p := h x
theorem zA5 {p : Prop} [Decidable p] (h : decide p = true := by first | (with_reducible assumption) | assumption) : p := of_decide_eq_true h
theorem zT5 {p : Prop} (h : p := by (try simp only [List.map_toArray, List.map_cons, List.map_nil]); first | done | rfl | (simp only [List.length_drop, List.length_take]; rfl)) : p := h
theorem zC5 {p q : Prop} (x : q) (h : q → p := by intro h; repeat (first | exact h | (with_reducible refine Kd.C_alloc ?_ _) | (with_reducible refine Kd.C_drewN ?_ _) | (with_reducible refine Kd.C_drew ?_))) : p := h x
theorem zb5 {W w w1 : World} {g : Nat} {o : Obj} (x : W.heap[g]? = some o) (hb : Below w.heap.size w w1) (h : W.heap[g]? = some o → w.heap[g]? = some o := by intro h; (with_reducible repeat (first | refine blk_drewN ?_ _ | refine blk_drew ?_ | refine blk_alloc ?_ _)); exact h) : w1.heap[g]? = some o := blk_below (h x) hb
theorem zg5 {W w w1 : World} {g : Nat} {o : Obj} {row : Option Nat} (x : W.heap[g]? = some o) (hg : w.grownBy w1 row) (hne : some g ≠ row) (h : W.heap[g]? = some o → w.heap[g]? = some o := by intro h; (with_reducible repeat (first | refine blk_drewN ?_ _ | refine blk_drew ?_ | refine blk_alloc ?_ _)); exact h) : w1.heap[g]? = some o := blk_grown (h x) hg hne
theorem zh5 {W w w1 : World} {g g' : Nat} {o : Obj} (hk : KeepBut w w1 g none) (x : W.heap[g']? = some o) (hn : g' ≠ g) (h : W.heap[g']? = some o → w.heap[g']? = some o := by intro h; (with_reducible repeat (first | refine blk_drewN ?_ _ | refine blk_drew ?_ | refine blk_alloc ?_ _)); exact h) : w1.heap[g']? = some o := KeepBut.blk hk (h x) hn (by simp)
theorem zP5 {p q : Prop} (x : q) (h : q → p := by intro h; (with_reducible repeat (first | refine blk_drewN ?_ _ | refine blk_drew ?_ | refine blk_alloc ?_ _)); exact h) : p := h x
theorem zE5 {p : Prop} (h : p := by first | rfl | (simp [errW_none, errW_some] <;> rfl) | (simp [*, errW_none, errW_some] <;> rfl)) : p := h
theorem zB5_0 {p : Prop} (h : p := by repeat (first | (with_reducible first | exact HI0.out | apply IsS56.alloc | apply IsS56.drewN | apply IsS56.drew | apply IsS56.set_1 | apply IsS56.set_2) | exact HI0.out)) : p := h
theorem zB5_1 {p : Prop} (h : p := by repeat (first | (with_reducible first | exact HB.out | apply below_alloc | apply pw_below_drewN | apply below_drew1 | refine below_set ?_ (IsS56.ge HI0.out)) | exact HB.out)) : p := h
theorem zB5_2 {p : Prop} (h : p := by repeat (first | (with_reducible first | exact HK.out | apply KeepBut.set_ | apply keep_drewN | apply keep_drew | apply keep_alloc) | exact HK.out)) : p := h
theorem zB5_3 {p : Prop} (h : p := by repeat (first | (with_reducible first | exact HI0.out | apply IsS56.alloc | apply IsS56.drewN | apply IsS56.drew | apply IsS56.set_1 | apply IsS56.set_2 | refine IsS56.far ?_ NB0_287.out _) | exact HI0.out)) : p := h
theorem zB5_4 {p : Prop} (h : p := by repeat (first | (with_reducible first | exact HK.out | apply KeepBut.set_ | apply keep_drewN | apply keep_drew | apply keep_alloc | refine keep_far ?_ GW287.out _) | exact HK.out)) : p := h
theorem zB5_5 {p : Prop} (h : p := by repeat (first | (with_reducible first | exact HB.out | apply below_alloc | apply pw_below_drewN | apply below_drew1 | refine below_set ?_ (IsS56.ge HI0.out) | refine below_set ?_ GE287.out) | exact HB.out)) : p := h
theorem zB5_6 {p : Prop} (h : p := by repeat (first | (with_reducible first | exact HB.out | apply below_alloc | apply pw_below_drewN | apply below_drew1) | exact HB.out)) : p := h
theorem zB5_7 {p : Prop} (h : p := by repeat (first | (with_reducible first | exact HBW.out | apply below_alloc | apply pw_below_drewN | apply below_drew1) | exact HBW.out)) : p := h
theorem zB5_8 {p : Prop} (h : p := by repeat (first | (with_reducible first | exact HB.out | apply below_alloc | apply pw_below_drewN | apply below_drew1 | refine below_set ?_ GE316.out) | exact HB.out)) : p := h
theorem zB5_9 {p : Prop} (h : p := by repeat (first | (with_reducible first | exact HBW.out | apply below_alloc | apply pw_below_drewN | apply below_drew1 | refine below_set ?_ GW316.out) | exact HBW.out)) : p := h
theorem zB5_10 {p : Prop} (h : p := by repeat (first | (with_reducible first | exact HB.out | apply below_alloc | apply pw_below_drewN | apply below_drew1 | refine below_set ?_ GE317.out) | exact HB.out)) : p := h
theorem zB5_11 {p : Prop} (h : p := by repeat (first | (with_reducible first | exact HBW.out | apply below_alloc | apply pw_below_drewN | apply below_drew1 | refine below_set ?_ GW317.out) | exact HBW.out)) : p := h
theorem zB5_12 {p : Prop} (h : p := by repeat (first | (with_reducible first | exact HI321.out | apply IsS56.alloc | apply IsS56.drewN | apply IsS56.drew | apply IsS56.set_1 | apply IsS56.set_2) | exact HI321.out)) : p := h
theorem zB5_13 {p : Prop} (h : p := by repeat (first | (with_reducible first | exact HB.out | apply below_alloc | apply pw_below_drewN | apply below_drew1 | refine below_set ?_ (IsS56.ge HI321.out)) | exact HB.out)) : p := h

/-! ### spec_l18DrawRun: function 11 -/
mutual
def spec_l18DrawRun.l0 : Nat → Int → List Int → List (S29) → Int → List Int → Int → Int → Option (List Int × (List (S29)) × List Int × Int × Int)
 | 0, _, _, _, _, _, _, _ => none
 | k + 1, x1, x7, x8, x9, x1000, x1001, x1002 => (spec_l1Below.f x1000 x1001 x1002 3).bind fun bt277 => (if x9 < (wrap64 (1 + bt277.1)) then ((spec_l9DrawHart.f k x1000 bt277.2.1 bt277.2.2).bind fun bt280 => ((spec_HartOk.f k bt280.1 bt280.2.1 bt280.2.2.1).bind fun t288 => (if t288 = true then (if x8.length < 3518437208883 then (spec_l18DrawRun.l0 k x1 x7 (x8 ++ [(⟨bt280.1, bt280.2.1, bt280.2.2.1⟩ : S29)]) (wrap64 (x9 + 1)) x1000 bt280.2.2.2.1 bt280.2.2.2.2) else (none)) else ((spec_l1Below.f x1000 bt280.2.2.2.1 bt280.2.2.2.2 20).bind fun bt292 => ((spec_HartNew.f bt292.1).bind fun bt295 => (if x8.length < 3518437208883 then (spec_l18DrawRun.l0 k x1 x7 (x8 ++ [(⟨bt295.1, bt295.2.1, bt295.2.2⟩ : S29)]) (wrap64 (x9 + 1)) x1000 bt292.2.1 bt292.2.2) else (none))))))) else (spec_l18DrawRun.l1 k x1 x7 x8 (([] : List Int)) 0 x1000 bt277.2.1 bt277.2.2))
def spec_l18DrawRun.l1 : Nat → Int → List Int → List (S29) → List Int → Int → List Int → Int → Int → Option (List Int × (List (S29)) × List Int × Int × Int)
 | 0, _, _, _, _, _, _, _, _ => none
 | k + 1, x1, x7, x8, x11, x12, x1000, x1001, x1002 => (spec_l1Below.f x1000 x1001 x1002 x1).bind fun bt306 => (if x12 < bt306.1 then ((spec_l1Below.f x1000 bt306.2.1 bt306.2.2 (x8.length : Int)).bind fun bt309 => (if x11.length < 17592186044416 then (spec_l18DrawRun.l1 k x1 x7 x8 (x11 ++ [bt309.1]) (wrap64 (x12 + 1)) x1000 bt309.2.1 bt309.2.2) else (none))) else (some (x7, x8, x11, bt306.2.1, bt306.2.2)))
end
def spec_l18DrawRun.f (k : Nat) (s0_0 : List Int) (s0_1 : Int) (s0_2 : Int) (a1 : Int) : Option (List Int × (List (S29)) × List Int × Int × Int) := (spec_l9DrawMem.f k s0_0 s0_1 s0_2).bind fun bt269 => (spec_l18DrawRun.l0 k a1 bt269.1 (([] : List (S29))) 0 s0_0 bt269.2.1 bt269.2.2)
theorem spec_l18DrawRun.mono_l : ∀ k, (∀ y0 y1 y2 y3 y4 y5 y6, LeO (spec_l18DrawRun.l0 k y0 y1 y2 y3 y4 y5 y6) (spec_l18DrawRun.l0 (k + 1) y0 y1 y2 y3 y4 y5 y6)) ∧ (∀ y0 y1 y2 y3 y4 y5 y6 y7, LeO (spec_l18DrawRun.l1 k y0 y1 y2 y3 y4 y5 y6 y7) (spec_l18DrawRun.l1 (k + 1) y0 y1 y2 y3 y4 y5 y6 y7))
 | 0 => ⟨fun _ _ _ _ _ _ _ r h => by simp [spec_l18DrawRun.l0] at h, fun _ _ _ _ _ _ _ _ r h => by simp [spec_l18DrawRun.l1] at h⟩
 | k + 1 => by
  obtain ⟨ih0, ih1⟩ := spec_l18DrawRun.mono_l k
  refine ⟨?_, ?_⟩
  ·intro y0 y1 y2 y3 y4 y5 y6
   unfold spec_l18DrawRun.l0
   repeat' first
   | (with_reducible exact ih0 _ _ _ _ _ _ _)
   | (with_reducible exact ih1 _ _ _ _ _ _ _ _)
   | (with_reducible exact spec_HartOk.mono _ _ _ _)
   | (with_reducible exact spec_l9DrawHart.mono _ _ _ _)
   | (with_reducible exact spec_l9DrawMem.mono _ _ _ _)
   | (with_reducible exact LeO.refl _)
   | (with_reducible exact LeO.none _)
   | (with_reducible refine LeO.ite ?_ ?_)
   | (with_reducible refine LeO.bind ?_ (fun _ => ?_))
   | exact ih0 _ _ _ _ _ _ _
   | exact ih1 _ _ _ _ _ _ _ _
   | exact spec_HartOk.mono _ _ _ _
   | exact spec_l9DrawHart.mono _ _ _ _
   | exact spec_l9DrawMem.mono _ _ _ _
   | exact LeO.none _
   | refine LeO.ite ?_ ?_
   | refine LeO.bind ?_ (fun _ => ?_)
  ·intro y0 y1 y2 y3 y4 y5 y6 y7
   unfold spec_l18DrawRun.l1
   repeat' first
   | (with_reducible exact ih0 _ _ _ _ _ _ _)
   | (with_reducible exact ih1 _ _ _ _ _ _ _ _)
   | (with_reducible exact spec_HartOk.mono _ _ _ _)
   | (with_reducible exact spec_l9DrawHart.mono _ _ _ _)
   | (with_reducible exact spec_l9DrawMem.mono _ _ _ _)
   | (with_reducible exact LeO.refl _)
   | (with_reducible exact LeO.none _)
   | (with_reducible refine LeO.ite ?_ ?_)
   | (with_reducible refine LeO.bind ?_ (fun _ => ?_))
   | exact ih0 _ _ _ _ _ _ _
   | exact ih1 _ _ _ _ _ _ _ _
   | exact spec_HartOk.mono _ _ _ _
   | exact spec_l9DrawHart.mono _ _ _ _
   | exact spec_l9DrawMem.mono _ _ _ _
   | exact LeO.none _
   | refine LeO.ite ?_ ?_
   | refine LeO.bind ?_ (fun _ => ?_)
theorem spec_l18DrawRun.mono : ∀ a0 a1 a2 a3 k, LeO (spec_l18DrawRun.f k a0 a1 a2 a3) (spec_l18DrawRun.f (k + 1) a0 a1 a2 a3) := by
 intro a0 a1 a2 a3 k
 obtain ⟨ih0, ih1⟩ := spec_l18DrawRun.mono_l k
 unfold spec_l18DrawRun.f
 repeat' first
   | (with_reducible exact ih0 _ _ _ _ _ _ _)
   | (with_reducible exact ih1 _ _ _ _ _ _ _ _)
   | (with_reducible exact spec_HartOk.mono _ _ _ _)
   | (with_reducible exact spec_l9DrawHart.mono _ _ _ _)
   | (with_reducible exact spec_l9DrawMem.mono _ _ _ _)
   | (with_reducible exact LeO.refl _)
   | (with_reducible exact LeO.none _)
   | (with_reducible refine LeO.ite ?_ ?_)
   | (with_reducible refine LeO.bind ?_ (fun _ => ?_))
   | exact ih0 _ _ _ _ _ _ _
   | exact ih1 _ _ _ _ _ _ _ _
   | exact spec_HartOk.mono _ _ _ _
   | exact spec_l9DrawHart.mono _ _ _ _
   | exact spec_l9DrawMem.mono _ _ _ _
   | exact LeO.none _
   | refine LeO.ite ?_ ?_
   | refine LeO.bind ?_ (fun _ => ?_)
theorem l1Words_len {n : Int} : ∀ (k : Nat) (r : List Int) (x : Int), spec_l1Words.l0 k r n x = some true → (r.length : Int) = n
 | 0, r, x, h => by simp [spec_l1Words.l0] at h
 | k + 1, r, x, h => by
  unfold spec_l1Words.l0 at h
  by_cases c : x < (r.length : Int)
  rotate_left
  ·rw [if_neg c] at h; simpa using h
  rw [if_pos c] at h
  by_cases c2 : 0 ≤ x
  rotate_left
  ·rw [if_neg c2] at h; cases h
  rw [if_pos c2] at h
  obtain ⟨b, hb, h⟩ := Option.bind_eq_some_iff.1 h
  cases b with
  | true => exact l1Words_len k r _ (by simpa using h)
  | false => simp at h
theorem hartOk_len {k : Nat} {r : List Int} {p s : Int} (h : spec_HartOk.f k r p s = some true) : r.length = 4 := by
 unfold spec_HartOk.f at h
 obtain ⟨b, hb, h⟩ := Option.bind_eq_some_iff.1 h
 cases b with
 | false => simp at h
 | true =>
  have := l1Words_len k r 0 (show spec_l1Words.l0 k r 4 0 = some true from hb)
  omega
set_option maxHeartbeats 8000000 in
set_option maxRecDepth 100000 in
theorem spec_l18DrawRun.calls (k : Nat) (g : Nat) (s0_0 : List Int) (s0_1 : Int) (s0_2 : Int) (a1 : Int) (r1 : List Int) (r2 : List (S29)) (r3 : List Int) (r4 : Int) (r5 : Int) (w0 w : World) (hI : IsS56 w0 w g s0_0 s0_1 s0_2) (hB : Below w0.heap.size w0 w) (h : spec_l18DrawRun.f k s0_0 s0_1 s0_2 a1 = some (r1, r2, r3, r4, r5)) :
  Calls Try.prog 11 #[.pointer (some ⟨g, 0, none⟩), .int .i64 a1] w fun e w' => ∃ v0_ v1_ v2_ : Value, e = .returned (.tuple #[v0_, v1_, v2_]) ∧ Kd.R (Kd.int .i64) 3 w' w.heap.size (fun k_ => some k_ ≠ (v2_ : Value).ownBlock) v0_ r1 ∧ Kd.S k29 29 w' w.heap.size (fun k_ => some k_ ≠ (v0_ : Value).ownBlock ∧ some k_ ≠ (v2_ : Value).ownBlock) v1_ r2 ∧ Kd.R (Kd.int .i64) 3 w' w.heap.size (fun k_ => some k_ ≠ (v0_ : Value).ownBlock) v2_ r3 ∧ IsS56 w0 w' g s0_0 r4 r5 ∧ Below w0.heap.size w0 w' ∧ KeepBut w w' g none := by
 have hu29 := Try.underlying29
 have HI0 := Aside0.mk hI
 have HK := Aside0.mk (KeepBut.refl w g none)
 have HL := Aside0.mk hB.size
 clear hI
 have HW0 := Aside0.mk hB.size
 have HB := Aside0.mk hB
 clear hB
 have H : ((spec_l9DrawMem.f k s0_0 s0_1 s0_2).bind fun bt269 => (spec_l18DrawRun.l0 k a1 bt269.1 (([] : List (S29))) 0 s0_0 bt269.2.1 bt269.2.2)) = some (r1, r2, r3, r4, r5) := h
 clear h
 replace H := Option.bind_eq_some_iff.mp H
 obtain ⟨⟨t269, t272, t273⟩, A30, H⟩ := H
 replace H : (spec_l18DrawRun.l0 k a1 t269 (([] : List (S29))) 0 s0_0 t272 t273) = some (r1, r2, r3, r4, r5) := H
 have A3 := Aside0.mk A30
 clear A30
 obtain ⟨y274, hy274⟩ : ∃ y_ : List (S29), y_ = (([] : List (S29))) := ⟨_, rfl⟩
 replace H : (spec_l18DrawRun.l0 k a1 t269 y274 0 s0_0 t272 t273) = some (r1, r2, r3, r4, r5) := by first | (rw [hy274]; with_reducible exact H) | (have H2_ := (Option.bind_some _ _).symm.trans H; rw [hy274]; with_reducible exact H2_) | (have H2_ := (Option.bind_some _ _).symm.trans H; with_reducible exact H2_) | with_reducible exact H | (rw [hy274]; exact H) | exact H
 have Ny274 := Aside0.mk hy274
 clear hy274
 have H' := Aside0.mk H
 clear H
 go_enter Try.func11, Try.ntmps11
 go_wp2_with (first | ((with_reducible refine gate_callee (f := 27) rfl ?_); refine goesL_ (some 14) rfl rfl Try.func27 (by kernel_rfl) rfl #[.pointer (some ⟨g, 0, none⟩)] rfl zT5 ?_; (with_reducible refine (spec_l9DrawMem.calls k g s0_0 s0_1 s0_2 t269 t272 t273 w0 _ ?side1 ?side2 A3.out).mono ?_); (case side1 => exact zB5_0); (case side2 => exact zB5_1); rintro e w4 ⟨v270, rfl, ho0, hi, hb, hk⟩; refine ⟨_, rfl, ?_⟩; have n0_ := Aside0.mk (Kd.R_lower ho0 (keep_size (w := w) (g := g) (row := none) (zB5_2))); have n1_ := Aside0.mk (KeepBut.trans (zB5_2) hk (.inl rfl)); have n2_ := Aside0.mk (hb); have n3_ := Aside0.mk (hi); clear HK; clear HB; clear HI0; have HO271 := n0_; have HK := n1_; have HB := n2_; have HI0 := n3_; clear n0_ n1_ n2_ n3_; (try clear hb); (try clear hb2); (try clear hk); (try clear hi); (try clear ho0)) | ((with_reducible refine gate_dst (N := 15) rfl ?_); refine Kd.S_lit k29 _ 29 ?hg (N := 15) ?hd (xs := ([] : List (S29))) (inner := []) (ok := fun _ => True) (okp := fun _ => True) ?hr ?hp (fun _ hk => hk) trivial (Below.refl _ _) (Nat.le_refl _) (by simp) ?_; (case hd => rfl); (case hg => rfl); (case hr => first | (go_simp; done) | (go_simp; rfl)); (case hp => exact (Reps.none _ _)); intro v275 w5 ho6 hb hg_ hnew_; clear hg_ hnew_; (first | rw [← Ny274.out] at ho6 | (simp only [Int.reduceToNat] at ho6; rw [← Ny274.out] at ho6)); have n0_ := Aside0.mk (Kd.R_below (zR5 HO271.out) hb); have n1_ := Aside0.mk (Kd.S_lower (Kd.S_new' ho6 (Kd.R_lt (zR5 HO271.out))) (keep_size (w := w) (g := g) (row := none) (zB5_2))); have n2_ := Aside0.mk (IsS56.below (zB5_0) hb); have n3_ := Aside0.mk (KeepBut.trans (zB5_2) (KeepBut.of_below hb g none) (.inl rfl)); have n4_ := Aside0.mk (below_step (zB5_1) hb); clear HO271; clear HI0; clear HK; clear HB; have HO271 := n0_; have HO276 := n1_; have HI0 := n2_; have HK := n3_; have HB := n4_; clear n0_ n1_ n2_ n3_ n4_; clear hb ho6))
 go_loopg [8, 9] k (fun kq v8 v9 w' => ∃ (x8_1 : List (S29)) (x9_1 : Int) (x1001_1 : Int) (x1002_1 : Int), v9 = .int .i64 x9_1 ∧ Aside0 (spec_l18DrawRun.l0 kq a1 t269 x8_1 x9_1 s0_0 x1001_1 x1002_1 = some (r1, r2, r3, r4, r5)) ∧ Aside0 (kq ≤ k) ∧ Aside0 (Kd.R (Kd.int .i64) 3 w' w.heap.size (fun _ => True) v270 t269) ∧ Aside0 (Kd.S k29 29 w' w.heap.size (fun k_ => some k_ ≠ (v270 : Value).ownBlock) v8 x8_1) ∧ Aside0 (IsS56 w0 w' g s0_0 x1001_1 x1002_1) ∧ Aside0 (KeepBut w w' g none) ∧ Aside0 (Below w0.heap.size w0 w'))
 case atStart => exact ⟨(y274), (0), (t272), (t273), (by first | rfl | (simp; done) | (simp [*]; done)), H', ⟨Nat.le_refl _⟩, ⟨zR5 HO271.out⟩, ⟨by (with_reducible repeat (first | apply Kd.S_alloc | apply Kd.S_drewN | apply Kd.S_drew)); exact Kd.S_mono HO276.out (fun _ hk => hk.2)⟩, ⟨zB5_0⟩, ⟨zB5_2⟩, ⟨zB5_1⟩⟩
 case round =>
  clear H'
  try clear c1
  try clear c2
  try clear p2
  obtain ⟨x8_1, x9_1, x1001_1, x1002_1, rfl, HA, HK1, HO_7, HO_8, HI0, HK, HB⟩ := hrel
  cases gk with
  | zero => exact absurd HA.out (by simp [spec_l18DrawRun.l0])
  | succ k1 =>
   have H := HA.out
   clear HA
   simp only [spec_l18DrawRun.l0] at H
   replace H := Option.bind_eq_some_iff.mp H
   obtain ⟨⟨t277, t278, t279⟩, A70, H⟩ := H
   replace H : (if x9_1 < (wrap64 (1 + t277)) then ((spec_l9DrawHart.f k1 s0_0 t278 t279).bind fun bt280 => ((spec_HartOk.f k1 bt280.1 bt280.2.1 bt280.2.2.1).bind fun t288 => (if t288 = true then (if x8_1.length < 3518437208883 then (spec_l18DrawRun.l0 k1 a1 t269 (x8_1 ++ [(⟨bt280.1, bt280.2.1, bt280.2.2.1⟩ : S29)]) (wrap64 (x9_1 + 1)) s0_0 bt280.2.2.2.1 bt280.2.2.2.2) else (none)) else ((spec_l1Below.f s0_0 bt280.2.2.2.1 bt280.2.2.2.2 20).bind fun bt292 => ((spec_HartNew.f bt292.1).bind fun bt295 => (if x8_1.length < 3518437208883 then (spec_l18DrawRun.l0 k1 a1 t269 (x8_1 ++ [(⟨bt295.1, bt295.2.1, bt295.2.2⟩ : S29)]) (wrap64 (x9_1 + 1)) s0_0 bt292.2.1 bt292.2.2) else (none))))))) else (spec_l18DrawRun.l1 k1 a1 t269 x8_1 (([] : List Int)) 0 s0_0 t278 t279)) = some (r1, r2, r3, r4, r5) := H
   have A7 := Aside0.mk A70
   clear A70
   by_cases c8 : x9_1 < (wrap64 (1 + t277))
   rotate_left
   ·rw [if_neg c8] at H
    have c8b0 : decide (x9_1 < (wrap64 (1 + t277))) = false := decide_eq_false c8
    clear c8
    obtain ⟨y303, hy303⟩ : ∃ y_ : List Int, y_ = (([] : List Int)) := ⟨_, rfl⟩
    replace H : (spec_l18DrawRun.l1 k1 a1 t269 x8_1 y303 0 s0_0 t278 t279) = some (r1, r2, r3, r4, r5) := by first | (rw [hy303]; with_reducible exact H) | (have H2_ := (Option.bind_some _ _).symm.trans H; rw [hy303]; with_reducible exact H2_) | (have H2_ := (Option.bind_some _ _).symm.trans H; with_reducible exact H2_) | with_reducible exact H | (rw [hy303]; exact H) | exact H
    have Ny303 := Aside0.mk hy303
    clear hy303
    have H' := Aside0.mk H
    clear H
    go_wp2_with (first | ((with_reducible refine gate_callee (f := 28) rfl ?_); refine goesL_ (some 18) rfl rfl Try.func28 (by kernel_rfl) rfl #[.pointer (some ⟨g, 0, none⟩), .int .i64 3] rfl zT5 ?_; (with_reducible refine (spec_l1Below.calls g s0_0 x1001_1 x1002_1 3 t277 t278 t279 w0 _ ?side1 ?side2 A7.out).mono ?_); (case side1 => exact zB5_0); (case side2 => exact zB5_1); rintro e w39 ⟨rfl, hi, hb, hk⟩; refine ⟨_, rfl, ?_⟩; have n0_ := Aside0.mk (Kd.R_mono (Kd.R_keep (IsS56.apart (show IsS56 w0 _ g s0_0 x1001_1 x1002_1 from zB5_0) (zR5 HO_7.out) (by decide)) hk (fun _ h => h.2)) (fun _ h => h.1)); have n1_ := Aside0.mk (Kd.S_mono (Kd.S_keep (IsS56.apartS (show IsS56 w0 _ g s0_0 x1001_1 x1002_1 from zB5_0) (zS5 HO_8.out) (by decide)) hk (fun _ h => h.2)) (fun _ h => h.1)); have n2_ := Aside0.mk (KeepBut.trans (zB5_2) hk (.inl rfl)); have n3_ := Aside0.mk (hb); have n4_ := Aside0.mk (hi); clear HO_7; clear HO_8; clear HK; clear HB; clear HI0; have HO_7 := n0_; have HO_8 := n1_; have HK := n2_; have HB := n3_; have HI0 := n4_; clear n0_ n1_ n2_ n3_ n4_; (try clear hb); (try clear hb2); (try clear hk); (try clear hi)) | ((with_reducible refine gate_dst (N := 35) rfl ?_); refine Kd.R_lit (Kd.int .i64) _ 3 ?hg (N := 35) ?hd (xs := ([] : List Int)) (inner := []) (ok := fun _ => True) (okp := fun _ => True) ?hr ?hp (fun _ hk => hk) trivial (Below.refl _ _) (Nat.le_refl _) (by simp) ?_; (case hd => rfl); (case hg => rfl); (case hr => first | (go_simp; done) | (go_simp; rfl)); (case hp => exact (Reps.none _ _)); intro v304 w40 ho41 hb hg_ hnew_; clear hg_ hnew_; (first | rw [← Ny303.out] at ho41 | (simp only [Int.reduceToNat] at ho41; rw [← Ny303.out] at ho41)); have n0_ := Aside0.mk (Kd.R_elder' (zR5 HO_7.out) (Kd.R_base ho41) hb); have n1_ := Aside0.mk (Kd.S_elder' (zS5 HO_8.out) (Kd.R_base ho41) hb); have n2_ := Aside0.mk (Kd.R_lower (Kd.R_new' ho41 (Kd.R_lt (zR5 HO_7.out))) (keep_size (w := w) (g := g) (row := none) (zB5_2))); have n3_ := Aside0.mk (IsS56.below (zB5_0) hb); have n4_ := Aside0.mk (KeepBut.trans (zB5_2) (KeepBut.of_below hb g none) (.inl rfl)); have n5_ := Aside0.mk (below_step (zB5_1) hb); clear HO_7; clear HO_8; clear HI0; clear HK; clear HB; have HO_7 := n0_; have HO_8 := n1_; have HO305 := n2_; have HI0 := n3_; have HK := n4_; have HB := n5_; clear n0_ n1_ n2_ n3_ n4_ n5_; clear hb ho41))
    go_loopg [11, 12] k1 (fun kq v11 v12 w' => ∃ (x11_2 : List Int) (x12_2 : Int) (x1001_2 : Int) (x1002_2 : Int), v12 = .int .i64 x12_2 ∧ Aside0 (spec_l18DrawRun.l1 kq a1 t269 x8_1 x11_2 x12_2 s0_0 x1001_2 x1002_2 = some (r1, r2, r3, r4, r5)) ∧ Aside0 (kq ≤ k1) ∧ Aside0 (Kd.R (Kd.int .i64) 3 w' w.heap.size (fun k_ => some k_ ≠ (v11 : Value).ownBlock) v270 t269) ∧ Aside0 (Kd.S k29 29 w' w.heap.size (fun k_ => some k_ ≠ (v270 : Value).ownBlock ∧ some k_ ≠ (v11 : Value).ownBlock) u8 x8_1) ∧ Aside0 (Kd.R (Kd.int .i64) 3 w' w.heap.size (fun k_ => some k_ ≠ (v270 : Value).ownBlock) v11 x11_2) ∧ Aside0 (IsS56 w0 w' g s0_0 x1001_2 x1002_2) ∧ Aside0 (KeepBut w w' g none) ∧ Aside0 (Below w0.heap.size w0 w'))
    case atStart => exact ⟨(y303), (0), (t278), (t279), (by first | rfl | (simp; done) | (simp [*]; done)), H', ⟨Nat.le_refl _⟩, ⟨by (with_reducible repeat (first | apply Kd.R_alloc | apply Kd.R_drewN | apply Kd.R_drew)); exact Kd.R_mono HO_7.out (fun _ hk => hk.2)⟩, ⟨zS5 HO_8.out⟩, ⟨by (with_reducible repeat (first | apply Kd.R_alloc | apply Kd.R_drewN | apply Kd.R_drew)); exact Kd.R_mono HO305.out (fun _ hk => hk.2)⟩, ⟨zB5_0⟩, ⟨zB5_2⟩, ⟨zB5_1⟩⟩
    case round =>
     clear H'
     try clear c1
     try clear c2
     try clear p2
     try clear c3
     try clear p6
     try clear c8
     try clear c8b0
     try clear c11
     try clear c12
     try clear c17
     try clear c24
     try clear c27
     try clear c28
     try clear c29
     try clear c30
     try clear c31
     try clear hcz18_0
     try clear hcz18_1
     try clear hcz18_2
     try clear hcz20_0
     try clear hcz20_1
     try clear hcz20_2
     try clear hcz30_0
     try clear hcz30_1
     try clear hcz30_2
     try clear hcz35_0
     try clear hcz35_1
     try clear hcz35_2
     try clear hcz37_0
     try clear hcz37_1
     try clear hcz37_2
     try clear hfz18_0
     try clear hfz18_1
     try clear hfz18_2
     try clear hfz20_0
     try clear hfz20_1
     try clear hfz20_2
     try clear hfz30_0
     try clear hfz30_1
     try clear hfz30_2
     try clear hfz35_0
     try clear hfz35_1
     try clear hfz35_2
     try clear hfz37_0
     try clear hfz37_1
     try clear hfz37_2
     try clear p2
     obtain ⟨x11_2, x12_2, x1001_2, x1002_2, rfl, HA, HK2, HO_7, HO_8, HO_11, HI0, HK, HB⟩ := hrel
     cases gk with
     | zero => exact absurd HA.out (by simp [spec_l18DrawRun.l1])
     | succ k2 =>
      have H := HA.out
      clear HA
      simp only [spec_l18DrawRun.l1] at H
      replace H := Option.bind_eq_some_iff.mp H
      obtain ⟨⟨t306, t307, t308⟩, A420, H⟩ := H
      replace H : (if x12_2 < t306 then ((spec_l1Below.f s0_0 t307 t308 (x8_1.length : Int)).bind fun bt309 => (if x11_2.length < 17592186044416 then (spec_l18DrawRun.l1 k2 a1 t269 x8_1 (x11_2 ++ [bt309.1]) (wrap64 (x12_2 + 1)) s0_0 bt309.2.1 bt309.2.2) else (none))) else (some (t269, x8_1, x11_2, t307, t308))) = some (r1, r2, r3, r4, r5) := H
      have A42 := Aside0.mk A420
      clear A420
      by_cases c43 : x12_2 < t306
      rotate_left
      ·rw [if_neg c43] at H
       have c43b0 : decide (x12_2 < t306) = false := decide_eq_false c43
       clear c43
       simp only [Option.some.injEq, Prod.mk.injEq] at H
       obtain ⟨rfl, rfl, rfl, rfl, rfl⟩ := H
       go_wp2_with (first | ((with_reducible refine gate_callee (f := 28) rfl ?_); refine goesL_ (some 39) rfl rfl Try.func28 (by kernel_rfl) rfl #[.pointer (some ⟨g, 0, none⟩), .int .i64 a1] rfl zT5 ?_; (with_reducible refine (spec_l1Below.calls g s0_0 x1001_2 x1002_2 a1 t306 t307 t308 w0 _ ?side1 ?side2 A42.out).mono ?_); (case side1 => exact zB5_0); (case side2 => exact zB5_1); rintro e w50 ⟨rfl, hi, hb, hk⟩; refine ⟨_, rfl, ?_⟩; have n0_ := Aside0.mk (Kd.R_mono (Kd.R_keep (IsS56.apart (show IsS56 w0 _ g s0_0 x1001_2 x1002_2 from zB5_0) (zR5 HO_7.out) (by decide)) hk (fun _ h => h.2)) (fun _ h => h.1)); have n1_ := Aside0.mk (Kd.S_mono (Kd.S_keep (IsS56.apartS (show IsS56 w0 _ g s0_0 x1001_2 x1002_2 from zB5_0) (zS5 HO_8.out) (by decide)) hk (fun _ h => h.2)) (fun _ h => h.1)); have n2_ := Aside0.mk (Kd.R_mono (Kd.R_keep (IsS56.apart (show IsS56 w0 _ g s0_0 x1001_2 x1002_2 from zB5_0) (zR5 HO_11.out) (by decide)) hk (fun _ h => h.2)) (fun _ h => h.1)); have n3_ := Aside0.mk (KeepBut.trans (zB5_2) hk (.inl rfl)); have n4_ := Aside0.mk (hb); have n5_ := Aside0.mk (hi); clear HO_7; clear HO_8; clear HO_11; clear HK; clear HB; clear HI0; have HO_7 := n0_; have HO_8 := n1_; have HO_11 := n2_; have HK := n3_; have HB := n4_; have HI0 := n5_; clear n0_ n1_ n2_ n3_ n4_ n5_; (try clear hb); (try clear hb2); (try clear hk); (try clear hi)))
       go_ret3
       exact ⟨_, _, _, zE5, zR5 HO_7.out, zS5 HO_8.out, zR5 HO_11.out, zB5_0, zB5_1, zB5_2⟩
      rw [if_pos c43] at H
      have c43b0 : decide (x12_2 < t306) = true := decide_eq_true c43
      clear c43
      replace H := Option.bind_eq_some_iff.mp H
      obtain ⟨⟨t309, t310, t311⟩, A440, H⟩ := H
      replace H : (if x11_2.length < 17592186044416 then (spec_l18DrawRun.l1 k2 a1 t269 x8_1 (x11_2 ++ [t309]) (wrap64 (x12_2 + 1)) s0_0 t310 t311) else (none)) = some (r1, r2, r3, r4, r5) := H
      have A44 := Aside0.mk A440
      clear A440
      by_cases c45 : x11_2.length < 17592186044416
      rotate_left
      ·rw [if_neg c45] at H
       exact absurd H (by simp)
      rw [if_pos c45] at H
      have LMc45 := Aside0.mk c45
      clear c45
      obtain ⟨y312, hy312⟩ : ∃ y_ : List Int, y_ = (x11_2 ++ [t309]) := ⟨_, rfl⟩
      replace H : (spec_l18DrawRun.l1 k2 a1 t269 x8_1 y312 (wrap64 (x12_2 + 1)) s0_0 t310 t311) = some (r1, r2, r3, r4, r5) := by first | (rw [hy312]; with_reducible exact H) | (have H2_ := (Option.bind_some _ _).symm.trans H; rw [hy312]; with_reducible exact H2_) | (have H2_ := (Option.bind_some _ _).symm.trans H; with_reducible exact H2_) | with_reducible exact H | (rw [hy312]; exact H) | exact H
      have Ny312 := Aside0.mk hy312
      clear hy312
      have H' := Aside0.mk H
      clear H
      go_wp2_with (first | ((with_reducible refine gate_callee (f := 28) rfl ?_); refine goesL_ (some 39) rfl rfl Try.func28 (by kernel_rfl) rfl #[.pointer (some ⟨g, 0, none⟩), .int .i64 a1] rfl zT5 ?_; (with_reducible refine (spec_l1Below.calls g s0_0 x1001_2 x1002_2 a1 t306 t307 t308 w0 _ ?side1 ?side2 A42.out).mono ?_); (case side1 => exact zB5_0); (case side2 => exact zB5_1); rintro e w46 ⟨rfl, hi, hb, hk⟩; refine ⟨_, rfl, ?_⟩; have n0_ := Aside0.mk (Kd.R_mono (Kd.R_keep (IsS56.apart (show IsS56 w0 _ g s0_0 x1001_2 x1002_2 from zB5_0) (zR5 HO_7.out) (by decide)) hk (fun _ h => h.2)) (fun _ h => h.1)); have n1_ := Aside0.mk (Kd.S_mono (Kd.S_keep (IsS56.apartS (show IsS56 w0 _ g s0_0 x1001_2 x1002_2 from zB5_0) (zS5 HO_8.out) (by decide)) hk (fun _ h => h.2)) (fun _ h => h.1)); have n2_ := Aside0.mk (Kd.R_mono (Kd.R_keep (IsS56.apart (show IsS56 w0 _ g s0_0 x1001_2 x1002_2 from zB5_0) (zR5 HO_11.out) (by decide)) hk (fun _ h => h.2)) (fun _ h => h.1)); have n3_ := Aside0.mk (KeepBut.trans (zB5_2) hk (.inl rfl)); have n4_ := Aside0.mk (hb); have n5_ := Aside0.mk (hi); clear HO_7; clear HO_8; clear HO_11; clear HK; clear HB; clear HI0; have HO_7 := n0_; have HO_8 := n1_; have HO_11 := n2_; have HK := n3_; have HB := n4_; have HI0 := n5_; clear n0_ n1_ n2_ n3_ n4_ n5_; (try clear hb); (try clear hb2); (try clear hk); (try clear hi); obtain ⟨Ao47, co47, eo47⟩ := Kd.S_slice HO_8.out; subst eo47) | ((with_reducible refine gate_callee (f := 28) rfl ?_); refine goesL_ (some 47) rfl rfl Try.func28 (by kernel_rfl) rfl #[.pointer (some ⟨g, 0, none⟩), .int .i64 (x8_1.length : Int)] rfl zT5 ?_; (with_reducible refine (spec_l1Below.calls g s0_0 t307 t308 (x8_1.length : Int) t309 t310 t311 w0 _ ?side1 ?side2 A44.out).mono ?_); (case side1 => exact zB5_0); (case side2 => exact zB5_1); rintro e w48 ⟨rfl, hi, hb, hk⟩; refine ⟨_, rfl, ?_⟩; have n0_ := Aside0.mk (Kd.R_mono (Kd.R_keep (IsS56.apart (show IsS56 w0 _ g s0_0 t307 t308 from zB5_0) (zR5 HO_7.out) (by decide)) hk (fun _ h => h.2)) (fun _ h => h.1)); have n1_ := Aside0.mk (Kd.S_mono (Kd.S_keep (IsS56.apartS (show IsS56 w0 _ g s0_0 t307 t308 from zB5_0) (zS5 HO_8.out) (by decide)) hk (fun _ h => h.2)) (fun _ h => h.1)); have n2_ := Aside0.mk (Kd.R_mono (Kd.R_keep (IsS56.apart (show IsS56 w0 _ g s0_0 t307 t308 from zB5_0) (zR5 HO_11.out) (by decide)) hk (fun _ h => h.2)) (fun _ h => h.1)); have n3_ := Aside0.mk (KeepBut.trans (zB5_2) hk (.inl rfl)); have n4_ := Aside0.mk (hb); have n5_ := Aside0.mk (hi); clear HO_7; clear HO_8; clear HO_11; clear HK; clear HB; clear HI0; have HO_7 := n0_; have HO_8 := n1_; have HO_11 := n2_; have HK := n3_; have HB := n4_; have HI0 := n5_; clear n0_ n1_ n2_ n3_ n4_ n5_; (try clear hb); (try clear hb2); (try clear hk); (try clear hi)) | ((with_reducible refine gate_builtin (b := .append) (xs := #[.tmp 43, .tmp 48]) rfl ?_); at_builtin; refine Kd.R_append (Kd.int .i64) w.heap.size rfl (.tmp 43) (.tmp 48) 24 3 (.int .i64 0) 8 rfl Try.underlying24 info3 rfl (by decide) (by omega) u11 x11_2 t309 [.int .i64 t309] (fun k_ => some k_ ≠ (v270 : Value).ownBlock) (fun _ => False) rfl rfl ?aP (fun _ hk => hk.elim) ?aF ?aO (Below.refl _ _) ?aS ?aL ?_; (case aP => exact rfl); (case aF => exact (fun k_ hk => Kd.fresh' (Kd.R_lt (zR5 HO_7.out)) k_ hk)); (case aO => exact (zR5 HO_11.out)); (case aS => exact (keep_size (w := w) (g := g) (row := none) (zB5_2))); (case aL => have := LMc45.out; omega); intro v313 w49 ho hb hg hat; rw [← Ny312.out] at ho; have n0_ := Aside0.mk (Kd.R_after (ok := (fun _ => True)) (by (with_reducible repeat (first | apply Kd.R_alloc | apply Kd.R_drewN | apply Kd.R_drew)); exact Kd.R_mono HO_7.out (fun _ hk => ⟨trivial, hk⟩)) hg hat); have n1_ := Aside0.mk (Kd.S_after (ok := (fun k_ => some k_ ≠ (v270 : Value).ownBlock)) (zS5 HO_8.out) hg hat); have n2_ := Aside0.mk (IsS56.grown (show IsS56 w0 _ g s0_0 t310 t311 from zB5_0) hg (IsS56.own_ne HI0.out HO_11.out (by decide))); have n3_ := Aside0.mk (below_weaken (zB5_1) HL.out hb); have n4_ := Aside0.mk (KeepBut.trans (zB5_2) (KeepBut.of_grown hg g) (Kd.R_base2 HO_11.out)); have n5_ := Aside0.mk (ho); clear HO_7; clear HO_8; clear HI0; clear HB; clear HK; clear HO_11; have HO_7 := n0_; have HO_8 := n1_; have HI0 := n2_; have HB := n3_; have HK := n4_; have HO314 := n5_; clear n0_ n1_ n2_ n3_ n4_ n5_; clear ho hb hg hat))
      go_roundg k2
      case measure => have := HK1.out; have := HK2.out; omega
      case rel => exact ⟨(y312), (wrap64 (x12_2 + 1)), (t310), (t311), (by first | rfl | (simp; done) | (simp [*]; done)), H', ⟨by have := HK1.out; have := HK2.out; omega⟩, ⟨by (with_reducible repeat (first | apply Kd.R_alloc | apply Kd.R_drewN | apply Kd.R_drew)); exact Kd.R_mono HO_7.out (fun _ hk => hk.2)⟩, ⟨zS5 HO_8.out⟩, ⟨zR5 HO314.out⟩, ⟨zB5_0⟩, ⟨zB5_2⟩, ⟨zB5_1⟩⟩
   rw [if_pos c8] at H
   have c8b0 : decide (x9_1 < (wrap64 (1 + t277))) = true := decide_eq_true c8
   clear c8
   replace H := Option.bind_eq_some_iff.mp H
   obtain ⟨⟨t280, t283, t284, t285, t286⟩, A90, H⟩ := H
   replace H : ((spec_HartOk.f k1 t280 t283 t284).bind fun t288 => (if t288 = true then (if x8_1.length < 3518437208883 then (spec_l18DrawRun.l0 k1 a1 t269 (x8_1 ++ [(⟨t280, t283, t284⟩ : S29)]) (wrap64 (x9_1 + 1)) s0_0 t285 t286) else (none)) else ((spec_l1Below.f s0_0 t285 t286 20).bind fun bt292 => ((spec_HartNew.f bt292.1).bind fun bt295 => (if x8_1.length < 3518437208883 then (spec_l18DrawRun.l0 k1 a1 t269 (x8_1 ++ [(⟨bt295.1, bt295.2.1, bt295.2.2⟩ : S29)]) (wrap64 (x9_1 + 1)) s0_0 bt292.2.1 bt292.2.2) else (none)))))) = some (r1, r2, r3, r4, r5) := H
   have A9 := Aside0.mk A90
   clear A90
   replace H := Option.bind_eq_some_iff.mp H
   obtain ⟨t288, A100, H⟩ := H
   replace H : (if t288 = true then (if x8_1.length < 3518437208883 then (spec_l18DrawRun.l0 k1 a1 t269 (x8_1 ++ [(⟨t280, t283, t284⟩ : S29)]) (wrap64 (x9_1 + 1)) s0_0 t285 t286) else (none)) else ((spec_l1Below.f s0_0 t285 t286 20).bind fun bt292 => ((spec_HartNew.f bt292.1).bind fun bt295 => (if x8_1.length < 3518437208883 then (spec_l18DrawRun.l0 k1 a1 t269 (x8_1 ++ [(⟨bt295.1, bt295.2.1, bt295.2.2⟩ : S29)]) (wrap64 (x9_1 + 1)) s0_0 bt292.2.1 bt292.2.2) else (none))))) = some (r1, r2, r3, r4, r5) := H
   have A10 := Aside0.mk A100
   clear A100
   by_cases c11 : t288 = true
   ·subst c11
    have H1 : (if x8_1.length < 3518437208883 then (spec_l18DrawRun.l0 k1 a1 t269 (x8_1 ++ [(⟨t280, t283, t284⟩ : S29)]) (wrap64 (x9_1 + 1)) s0_0 t285 t286) else (none)) = some (r1, r2, r3, r4, r5) := by rw [if_pos rfl] at H; exact H
    clear H
    have H := H1
    clear H1
    by_cases c12 : x8_1.length < 3518437208883
    rotate_left
    ·rw [if_neg c12] at H
     exact absurd H (by simp)
    rw [if_pos c12] at H
    have LMc12 := Aside0.mk c12
    clear c12
    obtain ⟨y289, hy289⟩ : ∃ y_ : List (S29), y_ = (x8_1 ++ [(⟨t280, t283, t284⟩ : S29)]) := ⟨_, rfl⟩
    replace H : (spec_l18DrawRun.l0 k1 a1 t269 y289 (wrap64 (x9_1 + 1)) s0_0 t285 t286) = some (r1, r2, r3, r4, r5) := by first | (rw [hy289]; with_reducible exact H) | (have H2_ := (Option.bind_some _ _).symm.trans H; rw [hy289]; with_reducible exact H2_) | (have H2_ := (Option.bind_some _ _).symm.trans H; with_reducible exact H2_) | with_reducible exact H | (rw [hy289]; exact H) | exact H
    have Ny289 := Aside0.mk hy289
    clear hy289
    have H' := Aside0.mk H
    clear H
    go_wp2_with (first | ((with_reducible refine gate_callee (f := 28) rfl ?_); refine goesL_ (some 18) rfl rfl Try.func28 (by kernel_rfl) rfl #[.pointer (some ⟨g, 0, none⟩), .int .i64 3] rfl zT5 ?_; (with_reducible refine (spec_l1Below.calls g s0_0 x1001_1 x1002_1 3 t277 t278 t279 w0 _ ?side1 ?side2 A7.out).mono ?_); (case side1 => exact zB5_0); (case side2 => exact zB5_1); rintro e w13 ⟨rfl, hi, hb, hk⟩; refine ⟨_, rfl, ?_⟩; have n0_ := Aside0.mk (Kd.R_mono (Kd.R_keep (IsS56.apart (show IsS56 w0 _ g s0_0 x1001_1 x1002_1 from zB5_0) (zR5 HO_7.out) (by decide)) hk (fun _ h => h.2)) (fun _ h => h.1)); have n1_ := Aside0.mk (Kd.S_mono (Kd.S_keep (IsS56.apartS (show IsS56 w0 _ g s0_0 x1001_1 x1002_1 from zB5_0) (zS5 HO_8.out) (by decide)) hk (fun _ h => h.2)) (fun _ h => h.1)); have n2_ := Aside0.mk (KeepBut.trans (zB5_2) hk (.inl rfl)); have n3_ := Aside0.mk (hb); have n4_ := Aside0.mk (hi); clear HO_7; clear HO_8; clear HK; clear HB; clear HI0; have HO_7 := n0_; have HO_8 := n1_; have HK := n2_; have HB := n3_; have HI0 := n4_; clear n0_ n1_ n2_ n3_ n4_; (try clear hb); (try clear hb2); (try clear hk); (try clear hi)) | ((with_reducible refine gate_callee (f := 29) rfl ?_); refine goesL_ (some 24) rfl rfl Try.func29 (by kernel_rfl) rfl #[.pointer (some ⟨g, 0, none⟩)] rfl zT5 ?_; (with_reducible refine (spec_l9DrawHart.calls k1 g s0_0 t278 t279 t280 t283 t284 t285 t286 w0 _ ?side1 ?side2 A9.out).mono ?_); (case side1 => exact zB5_0); (case side2 => exact zB5_1); rintro e w14 ⟨v281, rfl, hoq_, hi, hb, hk⟩; have ho0 := hoq_.2 (hartOk_len A10.out); clear hoq_; refine ⟨_, rfl, ?_⟩; have n0_ := Aside0.mk (Kd.R_mono (Kd.R_told (Kd.R_oldK (IsS56.apart (show IsS56 w0 _ g s0_0 t278 t279 from zB5_0) (zR5 HO_7.out) (by decide)) hk) (Kd.R_base ho0)) (fun _ h_ => h_.1)); have n1_ := Aside0.mk (Kd.S_mono (Kd.S_told (Kd.S_oldK (IsS56.apartS (show IsS56 w0 _ g s0_0 t278 t279 from zB5_0) (zS5 HO_8.out) (by decide)) hk) (Kd.R_base ho0)) (fun _ h_ => h_.1)); have n2_ := Aside0.mk (Kd.R_lower (Kd.R_new' ho0 (Kd.R_lt (zR5 HO_7.out))) (keep_size (w := w) (g := g) (row := none) (zB5_2))); have n3_ := Aside0.mk (KeepBut.trans (zB5_2) hk (.inl rfl)); have n4_ := Aside0.mk (hb); have n5_ := Aside0.mk (hi); clear HO_7; clear HO_8; clear HK; clear HB; clear HI0; have HO_7 := n0_; have HO_8 := n1_; have HO282 := n2_; have HK := n3_; have HB := n4_; have HI0 := n5_; clear n0_ n1_ n2_ n3_ n4_ n5_; (try clear hb); (try clear hb2); (try clear hk); (try clear hi); (try clear ho0)) | ((with_reducible refine gate_dst (N := 10) rfl ?_); refine box_event ?hg (N := 10) ?hd (cs := #[.slice none 0 0, .int .i64 0, .int .i64 0]) (t := 29) ?hr ?_; (case hd => rfl); (case hg => rfl); (case hr => first | (go_simp; done) | (go_simp; rfl)); intro gb287 hg w15 hbox hb; have n0_ := Aside0.mk (Kd.R_below (zR5 HO_7.out) hb); have n1_ := Aside0.mk (Kd.S_below (Kd.S_elderB (zS5 HO_8.out) gb287 (Nat.le_of_eq hg.symm)) hb); have n2_ := Aside0.mk (Kd.R_below (zR5 HO282.out) hb); have n3_ := Aside0.mk (IsS56.below (zB5_0) hb); have n4_ := Aside0.mk (KeepBut.trans (zB5_2) (KeepBut.of_below hb g none) (.inl rfl)); have n5_ := Aside0.mk (below_step (zB5_1) hb); have n6_ := Aside0.mk (hbox); have n7_ := Aside0.mk ((by rw [hg]; exact (keep_size (w := w) (g := g) (row := none) (zB5_2)) : w.heap.size ≤ gb287)); have n8_ := Aside0.mk ((Nat.le_trans HW0.out (by rw [hg]; exact (keep_size (w := w) (g := g) (row := none) (zB5_2)) : w.heap.size ≤ gb287) : w0.heap.size ≤ gb287)); have n9_ := Aside0.mk ((by rw [hg]; exact Nat.ne_of_lt (IsS56.lt (show IsS56 w0 _ g s0_0 t285 t286 from zB5_0)) : g ≠ gb287)); have n10_ := Aside0.mk ((by rw [hg]; exact Nat.ne_of_gt (IsS56.lt (show IsS56 w0 _ g s0_0 t285 t286 from zB5_0)) : gb287 ≠ g)); clear HO_7; clear HO_8; clear HO282; clear HI0; clear HK; clear HB; have HO_7 := n0_; have HO_8 := n1_; have HO282 := n2_; have HI0 := n3_; have HK := n4_; have HB := n5_; have BK287 := n6_; have GW287 := n7_; have GE287 := n8_; have NB0_287 := n9_; have NB287_0 := n10_; clear n0_ n1_ n2_ n3_ n4_ n5_ n6_ n7_ n8_ n9_ n10_; clear hb hbox hg; obtain ⟨Ao16, co16, eo16⟩ := Kd.R_slice HO282.out; subst eo16; have hnb17 := NB287_0.out; have hnc17 := NB0_287.out; obtain ⟨hcz18_0, hcz18_1, hcz18_2, hfz18_0, hfz18_1, hfz18_2⟩ := zc5_3 (w := w15) BK287.out) | ((with_reducible refine gate_callee (f := 30) rfl ?_); refine goesL_ (some 26) rfl rfl Try.func30 (by kernel_rfl) rfl #[.agg #[.slice Ao16 t280.length co16, .int .i64 t283, .int .i64 t284]] rfl zT5 ?_; (with_reducible refine (spec_HartOk.calls k1 _ _ t280 t283 t284 true _ ?side1 ?side2 A10.out).mono ?_); (case side1 => refine (Kd.R_reads' (e := 3) (base := w.heap.size) (ok := fun k_ => (True ∧ some k_ ≠ (v270 : Value).ownBlock)) (n := t280.length) (c := co16) ?_).2.2; exact (by (with_reducible repeat (first | apply Kd.R_alloc | apply Kd.R_drewN | apply Kd.R_drew)); exact (Kd.R_mono (Kd.R_far (p := ⟨gb287, 2, none⟩) (Kd.R_far (p := ⟨gb287, 1, none⟩) (Kd.R_far (p := ⟨gb287, 0, none⟩) (Kd.R_types HO282.out BK287.out (by decide)) (fun _ hk => hk.2) (.slice Ao16 t280.length co16)) (fun _ hk => hk.2) (.int .i64 t283)) (fun _ hk => hk.2) (.int .i64 t284)) (fun _ h_ => h_.1)))); (case side2 => exact (Kd.R_reads' HO282.out).2.1); rintro e w19 ⟨rfl, hb⟩; refine ⟨_, rfl, ?_⟩; have n0_ := Aside0.mk (Kd.R_below (by (with_reducible repeat (first | apply Kd.R_alloc | apply Kd.R_drewN | apply Kd.R_drew)); exact (Kd.R_mono (Kd.R_far (p := ⟨gb287, 2, none⟩) (Kd.R_far (p := ⟨gb287, 1, none⟩) (Kd.R_far (p := ⟨gb287, 0, none⟩) (Kd.R_types HO_7.out BK287.out (by decide)) (fun _ hk => hk.2) (.slice Ao16 t280.length co16)) (fun _ hk => hk.2) (.int .i64 t283)) (fun _ hk => hk.2) (.int .i64 t284)) (fun _ h_ => h_.1))) hb); have n1_ := Aside0.mk (Kd.S_below (by (with_reducible repeat (first | apply Kd.S_alloc | apply Kd.S_drewN | apply Kd.S_drew)); exact (Kd.S_mono (Kd.S_far (p := ⟨gb287, 2, none⟩) (Kd.S_far (p := ⟨gb287, 1, none⟩) (Kd.S_far (p := ⟨gb287, 0, none⟩) (Kd.S_mono HO_8.out (fun k_ hk => (⟨hk, hk.2⟩ : _ ∧ k_ ≠ gb287))) (fun _ hk => hk.2) (.slice Ao16 t280.length co16)) (fun _ hk => hk.2) (.int .i64 t283)) (fun _ hk => hk.2) (.int .i64 t284)) (fun _ h_ => h_.1))) hb); have n2_ := Aside0.mk (Kd.R_below (by (with_reducible repeat (first | apply Kd.R_alloc | apply Kd.R_drewN | apply Kd.R_drew)); exact (Kd.R_mono (Kd.R_far (p := ⟨gb287, 2, none⟩) (Kd.R_far (p := ⟨gb287, 1, none⟩) (Kd.R_far (p := ⟨gb287, 0, none⟩) (Kd.R_types HO282.out BK287.out (by decide)) (fun _ hk => hk.2) (.slice Ao16 t280.length co16)) (fun _ hk => hk.2) (.int .i64 t283)) (fun _ hk => hk.2) (.int .i64 t284)) (fun _ h_ => h_.1))) hb); have n3_ := Aside0.mk (IsS56.below (show IsS56 w0 (((w15.setCell ⟨gb287, 0, none⟩ (.slice Ao16 t280.length co16)).setCell ⟨gb287, 1, none⟩ (.int .i64 t283)).setCell ⟨gb287, 2, none⟩ (.int .i64 t284)) g s0_0 t285 t286 from zB5_3) hb); have n4_ := Aside0.mk (blk_below (g := gb287) (o := .cells #[.slice Ao16 t280.length co16, .int .i64 t283, .int .i64 t284] 29 (0, 0)) (by refine zP5 ?_; refine blk_put (cs := #[.slice Ao16 t280.length co16, .int .i64 t283, .int .i64 0]) ?_ 2 _ rfl; refine zP5 ?_; refine blk_put (cs := #[.slice Ao16 t280.length co16, .int .i64 0, .int .i64 0]) ?_ 1 _ rfl; refine zP5 ?_; refine blk_put (cs := #[.slice none 0 0, .int .i64 0, .int .i64 0]) ?_ 0 _ rfl; refine zP5 ?_; exact BK287.out) hb); have n5_ := Aside0.mk (KeepBut.trans (zB5_4) (KeepBut.of_below hb g none) (.inl rfl)); have n6_ := Aside0.mk (below_step (zB5_5) hb); clear HO_7; clear HO_8; clear HO282; clear HI0; clear BK287; clear HK; clear HB; have HO_7 := n0_; have HO_8 := n1_; have HO282 := n2_; have HI0 := n3_; have BK287 := n4_; have HK := n5_; have HB := n6_; clear n0_ n1_ n2_ n3_ n4_ n5_ n6_; (try clear hb); (try clear hb2); (try clear hk); (try clear hi); obtain ⟨hcz20_0, hcz20_1, hcz20_2, hfz20_0, hfz20_1, hfz20_2⟩ := zc5_3 (w := w19) BK287.out) | ((with_reducible refine gate_builtin (b := .append) (xs := #[.tmp 31, .tmp 33]) rfl ?_); at_builtin; refine Kd.S_append k29 w.heap.size rfl (.tmp 31) (.tmp 33) 25 29 (.agg #[(.slice none 0 0), (.int .i64 0), (.int .i64 0)]) 40 rfl Try.underlying25 info29 rfl (by decide) (by omega) u8 x8_1 (⟨t280, t283, t284⟩ : S29) [.slice Ao16 t280.length co16, .int .i64 t283, .int .i64 t284] (fun k_ => some k_ ≠ (v270 : Value).ownBlock ∧ k_ ≠ gb287) (fun k_ => some k_ = (.slice Ao16 t280.length co16 : Value).ownBlock) rfl rfl ?aP (fun k_ hk_ => ((Kd.R_mono (ok' := fun k_ => ((fun k_ => some k_ ≠ (v270 : Value).ownBlock ∧ k_ ≠ gb287)) k_ ∧ some k_ ≠ (u8 : Value).ownBlock) (Kd.R_types (Kd.R_apart' (HO282.out) (Kd.S_typed HO_8.out) (by decide)) BK287.out (by decide)) (fun k_ hk => ⟨⟨hk.1.1.2, hk.2⟩, hk.1.2⟩))).1 k_ hk_.symm) ?aF ?aO (Below.refl _ _) ?aS ?aL ?_; (case aP => exact k29_mkM _ _ _ (⟨t280, t283, t284⟩ : S29) (Kd.R_mono (Kd.R_tight rfl (Kd.R_mono (ok' := fun k_ => ((fun k_ => some k_ ≠ (v270 : Value).ownBlock ∧ k_ ≠ gb287)) k_ ∧ some k_ ≠ (u8 : Value).ownBlock) (Kd.R_types (Kd.R_apart' (HO282.out) (Kd.S_typed HO_8.out) (by decide)) BK287.out (by decide)) (fun k_ hk => ⟨⟨hk.1.1.2, hk.2⟩, hk.1.2⟩))) (fun _ h_ => h_))); (case aF => exact (fun k_ hk => ⟨Kd.fresh' (Kd.R_lt (zR5 HO_7.out)) k_ hk, Kd.freshB (g := gb287) (o := .cells #[.slice Ao16 t280.length co16, .int .i64 t283, .int .i64 t284] 29 (0, 0)) (zK5 BK287.out) k_ hk⟩)); (case aO => exact (by (with_reducible repeat (first | apply Kd.S_alloc | apply Kd.S_drewN | apply Kd.S_drew)); exact Kd.S_mono HO_8.out (fun k_ hk => ⟨⟨hk.1.1, hk.2⟩, fun e_ => hk.1.2 e_⟩))); (case aS => exact (keep_size (w := w) (g := g) (row := none) (zB5_4))); (case aL => have := LMc12.out; omega); intro v290 w21 ho hb hg hat; rw [← Ny289.out] at ho; have n0_ := Aside0.mk (Kd.R_over' (zR5 HO_7.out) (Kd.S_typed (zS5 HO_8.out)) (by decide) hg); have n1_ := Aside0.mk (IsS56.grown (show IsS56 w0 _ g s0_0 t285 t286 from zB5_3) hg (IsS56.own_neS HI0.out HO_8.out (by decide))); have n2_ := Aside0.mk (zg5 BK287.out hg (Kd.S_away HO_8.out (fun _ hk => hk.2))); have n3_ := Aside0.mk (below_weaken (zB5_5) HL.out hb); have n4_ := Aside0.mk (KeepBut.trans (zB5_4) (KeepBut.of_grown hg g) (Kd.S_base2 HO_8.out)); have n5_ := Aside0.mk (ho); clear HO_7; clear HI0; clear BK287; clear HB; clear HK; clear HO_8; clear HO282; have HO_7 := n0_; have HI0 := n1_; have BK287 := n2_; have HB := n3_; have HK := n4_; have HO291 := n5_; clear n0_ n1_ n2_ n3_ n4_ n5_; clear ho hb hg hat))
    go_roundg k1
    case measure => have := HK1.out; omega
    case rel => exact ⟨(y289), (wrap64 (x9_1 + 1)), (t285), (t286), (by first | rfl | (simp; done) | (simp [*]; done)), H', ⟨by have := HK1.out; omega⟩, ⟨by (with_reducible repeat (first | apply Kd.R_alloc | apply Kd.R_drewN | apply Kd.R_drew)); exact Kd.R_mono HO_7.out (fun _ hk => trivial)⟩, ⟨by (with_reducible repeat (first | apply Kd.S_alloc | apply Kd.S_drewN | apply Kd.S_drew)); exact Kd.S_mono HO291.out (fun _ hk => hk.1)⟩, ⟨zB5_3⟩, ⟨zB5_4⟩, ⟨zB5_5⟩⟩
   replace c11 := Bool.eq_false_iff.mpr c11
   subst c11
   have H1 : ((spec_l1Below.f s0_0 t285 t286 20).bind fun bt292 => ((spec_HartNew.f bt292.1).bind fun bt295 => (if x8_1.length < 3518437208883 then (spec_l18DrawRun.l0 k1 a1 t269 (x8_1 ++ [(⟨bt295.1, bt295.2.1, bt295.2.2⟩ : S29)]) (wrap64 (x9_1 + 1)) s0_0 bt292.2.1 bt292.2.2) else (none)))) = some (r1, r2, r3, r4, r5) := by rw [if_neg (show ¬ (false = true) by decide)] at H; exact H
   clear H
   have H := H1
   clear H1
   replace H := Option.bind_eq_some_iff.mp H
   obtain ⟨⟨t292, t293, t294⟩, A220, H⟩ := H
   replace H : ((spec_HartNew.f t292).bind fun bt295 => (if x8_1.length < 3518437208883 then (spec_l18DrawRun.l0 k1 a1 t269 (x8_1 ++ [(⟨bt295.1, bt295.2.1, bt295.2.2⟩ : S29)]) (wrap64 (x9_1 + 1)) s0_0 t293 t294) else (none))) = some (r1, r2, r3, r4, r5) := H
   have A22 := Aside0.mk A220
   clear A220
   replace H := Option.bind_eq_some_iff.mp H
   obtain ⟨⟨t295, t298, t299⟩, A230, H⟩ := H
   replace H : (if x8_1.length < 3518437208883 then (spec_l18DrawRun.l0 k1 a1 t269 (x8_1 ++ [(⟨t295, t298, t299⟩ : S29)]) (wrap64 (x9_1 + 1)) s0_0 t293 t294) else (none)) = some (r1, r2, r3, r4, r5) := H
   have A23 := Aside0.mk A230
   clear A230
   by_cases c24 : x8_1.length < 3518437208883
   rotate_left
   ·rw [if_neg c24] at H
    exact absurd H (by simp)
   rw [if_pos c24] at H
   have LMc24 := Aside0.mk c24
   clear c24
   obtain ⟨y300, hy300⟩ : ∃ y_ : List (S29), y_ = (x8_1 ++ [(⟨t295, t298, t299⟩ : S29)]) := ⟨_, rfl⟩
   replace H : (spec_l18DrawRun.l0 k1 a1 t269 y300 (wrap64 (x9_1 + 1)) s0_0 t293 t294) = some (r1, r2, r3, r4, r5) := by first | (rw [hy300]; with_reducible exact H) | (have H2_ := (Option.bind_some _ _).symm.trans H; rw [hy300]; with_reducible exact H2_) | (have H2_ := (Option.bind_some _ _).symm.trans H; with_reducible exact H2_) | with_reducible exact H | (rw [hy300]; exact H) | exact H
   have Ny300 := Aside0.mk hy300
   clear hy300
   have H' := Aside0.mk H
   clear H
   go_wp2_with (first | ((with_reducible refine gate_callee (f := 28) rfl ?_); refine goesL_ (some 18) rfl rfl Try.func28 (by kernel_rfl) rfl #[.pointer (some ⟨g, 0, none⟩), .int .i64 3] rfl zT5 ?_; (with_reducible refine (spec_l1Below.calls g s0_0 x1001_1 x1002_1 3 t277 t278 t279 w0 _ ?side1 ?side2 A7.out).mono ?_); (case side1 => exact zB5_0); (case side2 => exact zB5_1); rintro e w25 ⟨rfl, hi, hb, hk⟩; refine ⟨_, rfl, ?_⟩; have n0_ := Aside0.mk (Kd.R_mono (Kd.R_keep (IsS56.apart (show IsS56 w0 _ g s0_0 x1001_1 x1002_1 from zB5_0) (zR5 HO_7.out) (by decide)) hk (fun _ h => h.2)) (fun _ h => h.1)); have n1_ := Aside0.mk (Kd.S_mono (Kd.S_keep (IsS56.apartS (show IsS56 w0 _ g s0_0 x1001_1 x1002_1 from zB5_0) (zS5 HO_8.out) (by decide)) hk (fun _ h => h.2)) (fun _ h => h.1)); have n2_ := Aside0.mk (KeepBut.trans (zB5_2) hk (.inl rfl)); have n3_ := Aside0.mk (hb); have n4_ := Aside0.mk (hi); clear HO_7; clear HO_8; clear HK; clear HB; clear HI0; have HO_7 := n0_; have HO_8 := n1_; have HK := n2_; have HB := n3_; have HI0 := n4_; clear n0_ n1_ n2_ n3_ n4_; (try clear hb); (try clear hb2); (try clear hk); (try clear hi)) | ((with_reducible refine gate_callee (f := 29) rfl ?_); refine goesL_ (some 24) rfl rfl Try.func29 (by kernel_rfl) rfl #[.pointer (some ⟨g, 0, none⟩)] rfl zT5 ?_; (with_reducible refine (spec_l9DrawHart.calls k1 g s0_0 t278 t279 t280 t283 t284 t285 t286 w0 _ ?side1 ?side2 A9.out).mono ?_); (case side1 => exact zB5_0); (case side2 => exact zB5_1); rintro e w26 ⟨v281, rfl, hoq_, hi, hb, hk⟩; have ho0 := hoq_.1; clear hoq_; refine ⟨_, rfl, ?_⟩; have n0_ := Aside0.mk (Kd.R_mono (Kd.R_told (Kd.R_oldK (IsS56.apart (show IsS56 w0 _ g s0_0 t278 t279 from zB5_0) (zR5 HO_7.out) (by decide)) hk) (Kd.Q_base ho0)) (fun _ h_ => h_.1)); have n1_ := Aside0.mk (Kd.S_mono (Kd.S_told (Kd.S_oldK (IsS56.apartS (show IsS56 w0 _ g s0_0 t278 t279 from zB5_0) (zS5 HO_8.out) (by decide)) hk) (Kd.Q_base ho0)) (fun _ h_ => h_.1)); have n2_ := Aside0.mk (Kd.Q_lower (Kd.Q_new' ho0 (Kd.R_lt (zR5 HO_7.out))) (keep_size (w := w) (g := g) (row := none) (zB5_2))); have n3_ := Aside0.mk (KeepBut.trans (zB5_2) hk (.inl rfl)); have n4_ := Aside0.mk (hb); have n5_ := Aside0.mk (hi); clear HO_7; clear HO_8; clear HK; clear HB; clear HI0; have HO_7 := n0_; have HO_8 := n1_; have HO282 := n2_; have HK := n3_; have HB := n4_; have HI0 := n5_; clear n0_ n1_ n2_ n3_ n4_ n5_; (try clear hb); (try clear hb2); (try clear hk); (try clear hi); (try clear ho0)) | ((with_reducible refine gate_dst (N := 10) rfl ?_); refine box_event ?hg (N := 10) ?hd (cs := #[.slice none 0 0, .int .i64 0, .int .i64 0]) (t := 29) ?hr ?_; (case hd => rfl); (case hg => rfl); (case hr => first | (go_simp; done) | (go_simp; rfl)); intro gb287 hg w27 hbox hb; have n0_ := Aside0.mk (Kd.R_below (zR5 HO_7.out) hb); have n1_ := Aside0.mk (Kd.S_below (Kd.S_elderB (zS5 HO_8.out) gb287 (Nat.le_of_eq hg.symm)) hb); have n2_ := Aside0.mk (Kd.Q_below (zQ5 HO282.out) hb); have n3_ := Aside0.mk (IsS56.below (zB5_0) hb); have n4_ := Aside0.mk (KeepBut.trans (zB5_2) (KeepBut.of_below hb g none) (.inl rfl)); have n5_ := Aside0.mk (below_step (zB5_1) hb); have n6_ := Aside0.mk (hbox); have n7_ := Aside0.mk ((by rw [hg]; exact (keep_size (w := w) (g := g) (row := none) (zB5_2)) : w.heap.size ≤ gb287)); have n8_ := Aside0.mk ((Nat.le_trans HW0.out (by rw [hg]; exact (keep_size (w := w) (g := g) (row := none) (zB5_2)) : w.heap.size ≤ gb287) : w0.heap.size ≤ gb287)); have n9_ := Aside0.mk ((by rw [hg]; exact Nat.ne_of_lt (IsS56.lt (show IsS56 w0 _ g s0_0 t285 t286 from zB5_0)) : g ≠ gb287)); have n10_ := Aside0.mk ((by rw [hg]; exact Nat.ne_of_gt (IsS56.lt (show IsS56 w0 _ g s0_0 t285 t286 from zB5_0)) : gb287 ≠ g)); clear HO_7; clear HO_8; clear HO282; clear HI0; clear HK; clear HB; have HO_7 := n0_; have HO_8 := n1_; have HO282 := n2_; have HI0 := n3_; have HK := n4_; have HB := n5_; have BK287 := n6_; have GW287 := n7_; have GE287 := n8_; have NB0_287 := n9_; have NB287_0 := n10_; clear n0_ n1_ n2_ n3_ n4_ n5_ n6_ n7_ n8_ n9_ n10_; clear hb hbox hg; obtain ⟨Ao28, co28, eo28, _⟩ := Kd.Q_slice HO282.out; subst eo28; have hnb29 := NB287_0.out; have hnc29 := NB0_287.out; obtain ⟨hcz30_0, hcz30_1, hcz30_2, hfz30_0, hfz30_1, hfz30_2⟩ := zc5_3 (w := w27) BK287.out) | ((with_reducible refine gate_callee (f := 30) rfl ?_); refine goesL_ (some 26) rfl rfl Try.func30 (by kernel_rfl) rfl #[.agg #[.slice Ao28 t280.length co28, .int .i64 t283, .int .i64 t284]] rfl zT5 ?_; (with_reducible refine (spec_HartOk.calls k1 _ _ t280 t283 t284 false _ ?side1 ?side2 A10.out).mono ?_); (case side1 => refine (Kd.Q_reads' (e := 3) (base := w.heap.size) (ok := fun k_ => (True ∧ some k_ ≠ (v270 : Value).ownBlock)) (n := t280.length) (c := co28) ?_).2.2; exact (by (with_reducible repeat (first | apply Kd.Q_alloc | apply Kd.Q_drewN | apply Kd.Q_drew)); exact (Kd.Q_mono (Kd.Q_far (p := ⟨gb287, 2, none⟩) (Kd.Q_far (p := ⟨gb287, 1, none⟩) (Kd.Q_far (p := ⟨gb287, 0, none⟩) (Kd.Q_types HO282.out BK287.out (by decide)) (fun _ hk => hk.2) (.slice Ao28 t280.length co28)) (fun _ hk => hk.2) (.int .i64 t283)) (fun _ hk => hk.2) (.int .i64 t284)) (fun _ h_ => h_.1)))); (case side2 => exact (Kd.Q_reads' HO282.out).2.1); rintro e w31 ⟨rfl, hb⟩; refine ⟨_, rfl, ?_⟩; have n0_ := Aside0.mk (Kd.R_below (by (with_reducible repeat (first | apply Kd.R_alloc | apply Kd.R_drewN | apply Kd.R_drew)); exact (Kd.R_mono (Kd.R_far (p := ⟨gb287, 2, none⟩) (Kd.R_far (p := ⟨gb287, 1, none⟩) (Kd.R_far (p := ⟨gb287, 0, none⟩) (Kd.R_types HO_7.out BK287.out (by decide)) (fun _ hk => hk.2) (.slice Ao28 t280.length co28)) (fun _ hk => hk.2) (.int .i64 t283)) (fun _ hk => hk.2) (.int .i64 t284)) (fun _ h_ => h_.1))) hb); have n1_ := Aside0.mk (Kd.S_below (by (with_reducible repeat (first | apply Kd.S_alloc | apply Kd.S_drewN | apply Kd.S_drew)); exact (Kd.S_mono (Kd.S_far (p := ⟨gb287, 2, none⟩) (Kd.S_far (p := ⟨gb287, 1, none⟩) (Kd.S_far (p := ⟨gb287, 0, none⟩) (Kd.S_mono HO_8.out (fun k_ hk => (⟨hk, hk.2⟩ : _ ∧ k_ ≠ gb287))) (fun _ hk => hk.2) (.slice Ao28 t280.length co28)) (fun _ hk => hk.2) (.int .i64 t283)) (fun _ hk => hk.2) (.int .i64 t284)) (fun _ h_ => h_.1))) hb); have n2_ := Aside0.mk (Kd.Q_below (by (with_reducible repeat (first | apply Kd.Q_alloc | apply Kd.Q_drewN | apply Kd.Q_drew)); exact (Kd.Q_mono (Kd.Q_far (p := ⟨gb287, 2, none⟩) (Kd.Q_far (p := ⟨gb287, 1, none⟩) (Kd.Q_far (p := ⟨gb287, 0, none⟩) (Kd.Q_types HO282.out BK287.out (by decide)) (fun _ hk => hk.2) (.slice Ao28 t280.length co28)) (fun _ hk => hk.2) (.int .i64 t283)) (fun _ hk => hk.2) (.int .i64 t284)) (fun _ h_ => h_.1))) hb); have n3_ := Aside0.mk (IsS56.below (show IsS56 w0 (((w27.setCell ⟨gb287, 0, none⟩ (.slice Ao28 t280.length co28)).setCell ⟨gb287, 1, none⟩ (.int .i64 t283)).setCell ⟨gb287, 2, none⟩ (.int .i64 t284)) g s0_0 t285 t286 from zB5_3) hb); have n4_ := Aside0.mk (blk_below (g := gb287) (o := .cells #[.slice Ao28 t280.length co28, .int .i64 t283, .int .i64 t284] 29 (0, 0)) (by refine zP5 ?_; refine blk_put (cs := #[.slice Ao28 t280.length co28, .int .i64 t283, .int .i64 0]) ?_ 2 _ rfl; refine zP5 ?_; refine blk_put (cs := #[.slice Ao28 t280.length co28, .int .i64 0, .int .i64 0]) ?_ 1 _ rfl; refine zP5 ?_; refine blk_put (cs := #[.slice none 0 0, .int .i64 0, .int .i64 0]) ?_ 0 _ rfl; refine zP5 ?_; exact BK287.out) hb); have n5_ := Aside0.mk (KeepBut.trans (zB5_4) (KeepBut.of_below hb g none) (.inl rfl)); have n6_ := Aside0.mk (below_step (zB5_5) hb); clear HO_7; clear HO_8; clear HO282; clear HI0; clear BK287; clear HK; clear HB; have HO_7 := n0_; have HO_8 := n1_; have HO282 := n2_; have HI0 := n3_; have BK287 := n4_; have HK := n5_; have HB := n6_; clear n0_ n1_ n2_ n3_ n4_ n5_ n6_; (try clear hb); (try clear hb2); (try clear hk); (try clear hi)) | ((with_reducible refine gate_callee (f := 28) rfl ?_); refine goesL_ (some 29) rfl rfl Try.func28 (by kernel_rfl) rfl #[.pointer (some ⟨g, 0, none⟩), .int .i64 20] rfl zT5 ?_; (with_reducible refine (spec_l1Below.calls g s0_0 t285 t286 20 t292 t293 t294 w0 _ ?side1 ?side2 A22.out).mono ?_); (case side1 => exact zB5_3); (case side2 => exact zB5_5); rintro e w32 ⟨rfl, hi, hb, hk⟩; refine ⟨_, rfl, ?_⟩; have n0_ := Aside0.mk (Kd.R_mono (Kd.R_keep (IsS56.apart (show IsS56 w0 _ g s0_0 t285 t286 from zB5_3) (zR5 HO_7.out) (by decide)) hk (fun _ h => h.2)) (fun _ h => h.1)); have n1_ := Aside0.mk (Kd.S_mono (Kd.S_keep (IsS56.apartS (show IsS56 w0 _ g s0_0 t285 t286 from zB5_3) (zS5 HO_8.out) (by decide)) hk (fun _ h => h.2)) (fun _ h => h.1)); have n2_ := Aside0.mk (Kd.Q_mono (Kd.Q_keep (IsS56.apartQ (show IsS56 w0 _ g s0_0 t285 t286 from zB5_3) (zQ5 HO282.out) (by decide)) hk (fun _ h => h.2)) (fun _ h => h.1)); have n3_ := Aside0.mk (zh5 hk BK287.out NB287_0.out); have n4_ := Aside0.mk (KeepBut.trans (zB5_4) hk (.inl rfl)); have n5_ := Aside0.mk (hb); have n6_ := Aside0.mk (hi); clear HO_7; clear HO_8; clear HO282; clear BK287; clear HK; clear HB; clear HI0; have HO_7 := n0_; have HO_8 := n1_; have HO282 := n2_; have BK287 := n3_; have HK := n4_; have HB := n5_; have HI0 := n6_; clear n0_ n1_ n2_ n3_ n4_ n5_ n6_; (try clear hb); (try clear hb2); (try clear hk); (try clear hi)) | ((with_reducible refine gate_callee (f := 31) rfl ?_); refine goesL_ (some 30) rfl rfl Try.func31 (by kernel_rfl) rfl #[.int .i64 t292] rfl zT5 ?_; (with_reducible refine (spec_HartNew.calls t292 t295 t298 t299 _ A23.out).mono ?_); rintro e w33 ⟨v296, rfl, ho0, hb⟩; refine ⟨_, rfl, ?_⟩; have n0_ := Aside0.mk (Kd.R_elder' (zR5 HO_7.out) (Kd.R_base ho0) hb); have n1_ := Aside0.mk (Kd.S_elder' (zS5 HO_8.out) (Kd.R_base ho0) hb); have n2_ := Aside0.mk (Kd.Q_elder' (zQ5 HO282.out) (Kd.R_base ho0) hb); have n3_ := Aside0.mk (Kd.R_lower (Kd.R_new' (Kd.R_new' ho0 (Kd.R_lt (zR5 HO_7.out))) (Kd.Q_lt (zQ5 HO282.out))) (keep_size (w := w) (g := g) (row := none) (zB5_4))); have n4_ := Aside0.mk (IsS56.below (zB5_3) hb); have n5_ := Aside0.mk (zb5 BK287.out hb); have n6_ := Aside0.mk (KeepBut.trans (zB5_4) (KeepBut.of_below hb g none) (.inl rfl)); have n7_ := Aside0.mk (below_step (zB5_5) hb); clear HO_7; clear HO_8; clear HO282; clear HI0; clear BK287; clear HK; clear HB; have HO_7 := n0_; have HO_8 := n1_; have HO282 := n2_; have HO297 := n3_; have HI0 := n4_; have BK287 := n5_; have HK := n6_; have HB := n7_; clear n0_ n1_ n2_ n3_ n4_ n5_ n6_ n7_; (try clear hb); (try clear hb2); (try clear hk); (try clear hi); (try clear ho0); obtain ⟨Ao34, co34, eo34⟩ := Kd.R_slice HO297.out; subst eo34; obtain ⟨hcz35_0, hcz35_1, hcz35_2, hfz35_0, hfz35_1, hfz35_2⟩ := zc5_3 (w := w33) BK287.out) | ((with_reducible refine gate_store (t := 29) (p := 10) rfl ?_); refine store_event (t := 29) (p := 10) (v := ?vo_w36) (w1 := (((w33.setCell ⟨gb287, 0, none⟩ (.slice Ao34 t295.length co34)).setCell ⟨gb287, 1, none⟩ (.int .i64 t298)).setCell ⟨gb287, 2, none⟩ (.int .i64 t299))) ?hg ?ho ?hn ?hr ?_; (case ho => rfl); (case hg => rfl); (case hn => rfl); (case hr => first | (go_simp; done) | (go_simp; rfl)); intro w36 hw; have n0_ : Aside0 (Kd.R (Kd.int .i64) 3 w36 w.heap.size (fun k_ => some k_ ≠ (.slice Ao28 t280.length co28 : Value).ownBlock ∧ some k_ ≠ (.slice Ao34 t295.length co34 : Value).ownBlock) v270 t269) := ⟨(by rw [hw]; exact (by (with_reducible repeat (first | apply Kd.R_alloc | apply Kd.R_drewN | apply Kd.R_drew)); exact Kd.R_mono (Kd.R_far (p := ⟨gb287, 2, none⟩) (Kd.R_far (p := ⟨gb287, 1, none⟩) (Kd.R_far (p := ⟨gb287, 0, none⟩) (Kd.R_types HO_7.out BK287.out (by decide)) (fun _ hk => hk.2) (.slice Ao34 t295.length co34)) (fun _ hk => hk.2) (.int .i64 t298)) (fun _ hk => hk.2) (.int .i64 t299)) (fun _ hk => ⟨hk.1.1.2, hk.1.2⟩)))⟩; have n1_ : Aside0 (Kd.S k29 29 w36 w.heap.size (fun k_ => some k_ ≠ (v270 : Value).ownBlock ∧ some k_ ≠ (.slice Ao28 t280.length co28 : Value).ownBlock ∧ some k_ ≠ (.slice Ao34 t295.length co34 : Value).ownBlock ∧ k_ ≠ gb287) u8 x8_1) := ⟨(by rw [hw]; exact (by (with_reducible repeat (first | apply Kd.S_alloc | apply Kd.S_drewN | apply Kd.S_drew)); exact Kd.S_mono (Kd.S_far (p := ⟨gb287, 2, none⟩) (Kd.S_far (p := ⟨gb287, 1, none⟩) (Kd.S_far (p := ⟨gb287, 0, none⟩) (Kd.S_mono HO_8.out (fun k_ hk => (⟨hk, hk.1.2⟩ : _ ∧ k_ ≠ gb287))) (fun _ hk => hk.2) (.slice Ao34 t295.length co34)) (fun _ hk => hk.2) (.int .i64 t298)) (fun _ hk => hk.2) (.int .i64 t299)) (fun _ hk => ⟨hk.1.1.1.1, ⟨hk.1.1.1.2, ⟨hk.1.2, hk.1.1.2⟩⟩⟩)))⟩; have n2_ : Aside0 (Kd.Q (Kd.int .i64) 3 w36 w.heap.size (fun k_ => some k_ ≠ (v270 : Value).ownBlock ∧ some k_ ≠ (.slice Ao34 t295.length co34 : Value).ownBlock) (.slice Ao28 t280.length co28) t280) := ⟨(by rw [hw]; exact (by (with_reducible repeat (first | apply Kd.Q_alloc | apply Kd.Q_drewN | apply Kd.Q_drew)); exact Kd.Q_mono (Kd.Q_far (p := ⟨gb287, 2, none⟩) (Kd.Q_far (p := ⟨gb287, 1, none⟩) (Kd.Q_far (p := ⟨gb287, 0, none⟩) (Kd.Q_types HO282.out BK287.out (by decide)) (fun _ hk => hk.2) (.slice Ao34 t295.length co34)) (fun _ hk => hk.2) (.int .i64 t298)) (fun _ hk => hk.2) (.int .i64 t299)) (fun _ hk => ⟨hk.1.1.2, hk.1.2⟩)))⟩; have n3_ : Aside0 (Kd.R (Kd.int .i64) 3 w36 w.heap.size (fun k_ => some k_ ≠ (v270 : Value).ownBlock ∧ some k_ ≠ (.slice Ao28 t280.length co28 : Value).ownBlock) (.slice Ao34 t295.length co34) t295) := ⟨(by rw [hw]; exact (by (with_reducible repeat (first | apply Kd.R_alloc | apply Kd.R_drewN | apply Kd.R_drew)); exact Kd.R_mono (Kd.R_far (p := ⟨gb287, 2, none⟩) (Kd.R_far (p := ⟨gb287, 1, none⟩) (Kd.R_far (p := ⟨gb287, 0, none⟩) (Kd.R_types HO297.out BK287.out (by decide)) (fun _ hk => hk.2) (.slice Ao34 t295.length co34)) (fun _ hk => hk.2) (.int .i64 t298)) (fun _ hk => hk.2) (.int .i64 t299)) (fun _ hk => ⟨hk.1.1.2, hk.1.2⟩)))⟩; have n4_ : Aside0 (w36.heap[gb287]? = some (.cells #[.slice Ao34 t295.length co34, .int .i64 t298, .int .i64 t299] 29 (0, 0))) := ⟨(by rw [hw]; exact (by refine zP5 ?_; refine blk_put (cs := #[.slice Ao34 t295.length co34, .int .i64 t298, .int .i64 t284]) ?_ 2 _ rfl; refine zP5 ?_; refine blk_put (cs := #[.slice Ao34 t295.length co34, .int .i64 t283, .int .i64 t284]) ?_ 1 _ rfl; refine zP5 ?_; refine blk_put (cs := #[.slice Ao28 t280.length co28, .int .i64 t283, .int .i64 t284]) ?_ 0 _ rfl; refine zP5 ?_; exact BK287.out))⟩; have n5_ : Aside0 (IsS56 w0 w36 g s0_0 t293 t294) := ⟨(by rw [hw]; exact (zB5_3))⟩; have n6_ : Aside0 (KeepBut w w36 g none) := ⟨(by rw [hw]; exact (zB5_4))⟩; have n7_ : Aside0 (Below w0.heap.size w0 w36) := ⟨(by rw [hw]; exact (zB5_5))⟩; clear hw; clear HO_7; clear HO_8; clear HO282; clear HO297; clear BK287; clear HI0; clear HK; clear HB; have HO_7 := n0_; have HO_8 := n1_; have HO282 := n2_; have HO297 := n3_; have BK287 := n4_; have HI0 := n5_; have HK := n6_; have HB := n7_; clear n0_ n1_ n2_ n3_ n4_ n5_ n6_ n7_; obtain ⟨hcz37_0, hcz37_1, hcz37_2, hfz37_0, hfz37_1, hfz37_2⟩ := zc5_3 (w := w36) BK287.out) | ((with_reducible refine gate_builtin (b := .append) (xs := #[.tmp 31, .tmp 33]) rfl ?_); at_builtin; refine Kd.S_append k29 w.heap.size rfl (.tmp 31) (.tmp 33) 25 29 (.agg #[(.slice none 0 0), (.int .i64 0), (.int .i64 0)]) 40 rfl Try.underlying25 info29 rfl (by decide) (by omega) u8 x8_1 (⟨t295, t298, t299⟩ : S29) [.slice Ao34 t295.length co34, .int .i64 t298, .int .i64 t299] (fun k_ => some k_ ≠ (v270 : Value).ownBlock ∧ some k_ ≠ (.slice Ao28 t280.length co28 : Value).ownBlock ∧ k_ ≠ gb287) (fun k_ => some k_ = (.slice Ao34 t295.length co34 : Value).ownBlock) rfl rfl ?aP (fun k_ hk_ => ((Kd.R_mono (ok' := fun k_ => ((fun k_ => some k_ ≠ (v270 : Value).ownBlock ∧ some k_ ≠ (.slice Ao28 t280.length co28 : Value).ownBlock ∧ k_ ≠ gb287)) k_ ∧ some k_ ≠ (u8 : Value).ownBlock) (Kd.R_types (Kd.R_apart' (HO297.out) (Kd.S_typed HO_8.out) (by decide)) BK287.out (by decide)) (fun k_ hk => ⟨⟨hk.1.1.1, ⟨hk.1.1.2, hk.2⟩⟩, hk.1.2⟩))).1 k_ hk_.symm) ?aF ?aO (Below.refl _ _) ?aS ?aL ?_; (case aP => exact k29_mkM _ _ _ (⟨t295, t298, t299⟩ : S29) (Kd.R_mono (Kd.R_tight rfl (Kd.R_mono (ok' := fun k_ => ((fun k_ => some k_ ≠ (v270 : Value).ownBlock ∧ some k_ ≠ (.slice Ao28 t280.length co28 : Value).ownBlock ∧ k_ ≠ gb287)) k_ ∧ some k_ ≠ (u8 : Value).ownBlock) (Kd.R_types (Kd.R_apart' (HO297.out) (Kd.S_typed HO_8.out) (by decide)) BK287.out (by decide)) (fun k_ hk => ⟨⟨hk.1.1.1, ⟨hk.1.1.2, hk.2⟩⟩, hk.1.2⟩))) (fun _ h_ => h_))); (case aF => exact (fun k_ hk => ⟨Kd.fresh' (Kd.R_lt (zR5 HO_7.out)) k_ hk, Kd.fresh' (Kd.Q_lt (zQ5 HO282.out)) k_ hk, Kd.freshB (g := gb287) (o := .cells #[.slice Ao34 t295.length co34, .int .i64 t298, .int .i64 t299] 29 (0, 0)) (zK5 BK287.out) k_ hk⟩)); (case aO => exact (by (with_reducible repeat (first | apply Kd.S_alloc | apply Kd.S_drewN | apply Kd.S_drew)); exact Kd.S_mono HO_8.out (fun k_ hk => ⟨⟨hk.1, ⟨hk.2.1, hk.2.2.2⟩⟩, fun e_ => hk.2.2.1 e_⟩))); (case aS => exact (keep_size (w := w) (g := g) (row := none) (zB5_4))); (case aL => have := LMc24.out; omega); intro v301 w38 ho hb hg hat; rw [← Ny300.out] at ho; have n0_ := Aside0.mk (Kd.R_over' (zR5 HO_7.out) (Kd.S_typed (zS5 HO_8.out)) (by decide) hg); have n1_ := Aside0.mk (IsS56.grown (show IsS56 w0 _ g s0_0 t293 t294 from zB5_3) hg (IsS56.own_neS HI0.out HO_8.out (by decide))); have n2_ := Aside0.mk (Kd.Q_over' (zQ5 HO282.out) (Kd.S_typed (zS5 HO_8.out)) (by decide) hg); have n3_ := Aside0.mk (zg5 BK287.out hg (Kd.S_away HO_8.out (fun _ hk => hk.2.2.2))); have n4_ := Aside0.mk (below_weaken (zB5_5) HL.out hb); have n5_ := Aside0.mk (KeepBut.trans (zB5_4) (KeepBut.of_grown hg g) (Kd.S_base2 HO_8.out)); have n6_ := Aside0.mk (ho); clear HO_7; clear HI0; clear HO282; clear BK287; clear HB; clear HK; clear HO_8; clear HO297; have HO_7 := n0_; have HI0 := n1_; have HO282 := n2_; have BK287 := n3_; have HB := n4_; have HK := n5_; have HO302 := n6_; clear n0_ n1_ n2_ n3_ n4_ n5_ n6_; clear ho hb hg hat))
   go_roundg k1
   case measure => have := HK1.out; omega
   case rel => exact ⟨(y300), (wrap64 (x9_1 + 1)), (t293), (t294), (by first | rfl | (simp; done) | (simp [*]; done)), H', ⟨by have := HK1.out; omega⟩, ⟨by (with_reducible repeat (first | apply Kd.R_alloc | apply Kd.R_drewN | apply Kd.R_drew)); exact Kd.R_mono HO_7.out (fun _ hk => trivial)⟩, ⟨by (with_reducible repeat (first | apply Kd.S_alloc | apply Kd.S_drewN | apply Kd.S_drew)); exact Kd.S_mono HO302.out (fun _ hk => hk.1)⟩, ⟨zB5_3⟩, ⟨zB5_4⟩, ⟨zB5_5⟩⟩

/-! ### spec_l1New: function 12 -/
def spec_l1New.l0 : Nat → List Int → Int → Int → Option (List Int × Int × Int)
 | 0, _, _, _ => none
 | k + 1, x0, x3, x4 => if x4 < (x0.length : Int) then (if x4 < 4000 then (if 0 ≤ x4 then (spec_l1New.l0 k x0 (Go.bits .and .i64 (wrap64 ((wrap64 ((wrap64 (x3 * 131)) + (wrap64 (rd x0 x4)))) + 7)) 1073741823) (wrap64 (x4 + 1))) else (none)) else (some (x0, 0, x3))) else (some (x0, 0, x3))
def spec_l1New.f (k : Nat) (l0 : List Int) : Option (List Int × Int × Int) := spec_l1New.l0 k l0 (wrap64 (20404 + (l0.length : Int))) 0
theorem spec_l1New.mono_l : ∀ k, (∀ y0 y1 y2, LeO (spec_l1New.l0 k y0 y1 y2) (spec_l1New.l0 (k + 1) y0 y1 y2))
 | 0 => fun _ _ _ r h => by simp [spec_l1New.l0] at h
 | k + 1 => by
  have ih0 := spec_l1New.mono_l k
  ·intro y0 y1 y2
   unfold spec_l1New.l0
   repeat' first
   | (with_reducible exact ih0 _ _ _)
   | (with_reducible exact LeO.refl _)
   | (with_reducible exact LeO.none _)
   | (with_reducible refine LeO.ite ?_ ?_)
   | (with_reducible refine LeO.bind ?_ (fun _ => ?_))
   | exact ih0 _ _ _
   | exact LeO.none _
   | refine LeO.ite ?_ ?_
   | refine LeO.bind ?_ (fun _ => ?_)
theorem spec_l1New.mono : ∀ a0 k, LeO (spec_l1New.f k a0) (spec_l1New.f (k + 1) a0) := by
 intro a0 k
 have ih0 := spec_l1New.mono_l k
 unfold spec_l1New.f
 repeat' first
   | (with_reducible exact ih0 _ _ _)
   | (with_reducible exact LeO.refl _)
   | (with_reducible exact LeO.none _)
   | (with_reducible refine LeO.ite ?_ ?_)
   | (with_reducible refine LeO.bind ?_ (fun _ => ?_))
   | exact ih0 _ _ _
   | exact LeO.none _
   | refine LeO.ite ?_ ?_
   | refine LeO.bind ?_ (fun _ => ?_)
set_option maxHeartbeats 8000000 in
set_option maxRecDepth 100000 in
theorem spec_l1New.calls (k : Nat) (A0 : Option Addr) (c0 : Nat) (l0 : List Int) (r1 : List Int) (r2 : Int) (r3 : Int) (w0 w : World) (hB : Below w0.heap.size w0 w) (hr0 : Kd.C (Kd.int .u8) w0 A0 l0.length l0) (hc0 : l0.length ≤ c0) (h : spec_l1New.f k l0 = some (r1, r2, r3)) :
  Calls Try.prog 12 #[.slice A0 l0.length c0] w fun e w' => ∃ g_ : Nat, e = .returned (.pointer (some ⟨g_, 0, none⟩)) ∧ IsS56 w0 w' g_ r1 r2 r3 ∧ Below w0.heap.size w0 w' ∧ Below w.heap.size w w' := by
 have hu56 := Try.underlying56
 have HR0 := Aside0.mk hr0
 have HC0 := Aside0.mk hc0
 clear hr0 hc0
 have HBW := Aside0.mk (Below.refl w.heap.size w)
 have HW0 := Aside0.mk hB.size
 have HB := Aside0.mk hB
 clear hB
 have H : (spec_l1New.l0 k l0 (wrap64 (20404 + (l0.length : Int))) 0) = some (r1, r2, r3) := h
 clear h
 have H' := Aside0.mk H
 clear H
 go_enter Try.func12, Try.ntmps12
 go_wp2
 go_loopg [3, 4] k (fun kq v3 v4 w' => ∃ (x3_1 : Int) (x4_1 : Int), v3 = .int .i64 x3_1 ∧ v4 = .int .i64 x4_1 ∧ Aside0 (spec_l1New.l0 kq l0 x3_1 x4_1 = some (r1, r2, r3)) ∧ Aside0 (kq ≤ k) ∧ Aside0 (Below w0.heap.size w0 w') ∧ Aside0 (Below w.heap.size w w'))
 case atStart => exact ⟨(wrap64 (20404 + (l0.length : Int))), (0), (by first | rfl | (simp; done) | (simp [*]; done)), (by first | rfl | (simp; done) | (simp [*]; done)), H', ⟨Nat.le_refl _⟩, ⟨zB5_6⟩, ⟨zB5_7⟩⟩
 case round =>
  clear H'
  try clear c1
  obtain ⟨x3_1, x4_1, rfl, rfl, HA, HK1, HB, HBW⟩ := hrel
  cases gk with
  | zero => exact absurd HA.out (by simp [spec_l1New.l0])
  | succ k1 =>
   have H := HA.out
   clear HA
   simp only [spec_l1New.l0] at H
   by_cases c2 : x4_1 < (l0.length : Int)
   rotate_left
   ·rw [if_neg c2] at H
    have c2b0 : decide (x4_1 < (l0.length : Int)) = false := decide_eq_false c2
    clear c2
    simp only [Option.some.injEq, Prod.mk.injEq] at H
    obtain ⟨rfl, rfl, rfl⟩ := H
    go_wp2_with (first | ((with_reducible refine gate_dst (N := 31) rfl ?_); refine box_event ?hg (N := 31) ?hd (cs := #[.slice A0 l0.length c0, .int .i64 0, .int .i64 x3_1]) (t := 56) ?hr ?_; (case hd => rfl); (case hg => rfl); (case hr => first | (go_simp; done) | (go_simp; rfl)); intro gb317 hg w6 hbox hb; have n0_ := Aside0.mk (below_step HBW.out hb); have n1_ := Aside0.mk (below_step (zB5_6) hb); have n2_ := Aside0.mk (hbox); have n3_ := Aside0.mk ((by rw [hg]; exact (below_size (zB5_7)) : w.heap.size ≤ gb317)); have n4_ := Aside0.mk ((Nat.le_trans HW0.out (by rw [hg]; exact (below_size (zB5_7)) : w.heap.size ≤ gb317) : w0.heap.size ≤ gb317)); clear HBW; clear HB; have HBW := n0_; have HB := n1_; have BK317 := n2_; have GW317 := n3_; have GE317 := n4_; clear n0_ n1_ n2_ n3_ n4_; clear hb hbox hg))
    go_ret
    exact ⟨_, rfl, (show IsS56 w0 _ gb317 l0 0 x3_1 from ⟨_, _, zK5 BK317.out, GE317.out, HR0.out⟩), zB5_10, zB5_11⟩
   rw [if_pos c2] at H
   have c2b0 : decide (x4_1 < (l0.length : Int)) = true := decide_eq_true c2
   clear c2
   by_cases c3 : x4_1 < 4000
   ·rw [if_pos c3] at H
    have c3b0 : decide (x4_1 < 4000) = true := decide_eq_true c3
    clear c3
    by_cases c4 : 0 ≤ x4_1
    rotate_left
    ·rw [if_neg c4] at H
     exact absurd H (by simp)
    rw [if_pos c4] at H
    have c4b0 : decide (0 ≤ x4_1) = true := decide_eq_true c4
    clear c4
    have H' := Aside0.mk H
    clear H
    have p315 : 0 ≤ (x4_1 : Int) := zA5
    have q315 : x4_1 < (l0.length : Int) := zA5
    obtain ⟨ad315, e315, hx315_0⟩ := Kd.at_int HR0.out x4_1 p315 q315
    cases e315
    replace hx315_0 := pw_cell_below HB.out hx315_0
    replace p315 := eq_true p315
    replace q315 := eq_true q315
    go_wp2
    go_roundg k1
    case measure => have := HK1.out; omega
    case rel => exact ⟨(Go.bits .and .i64 (wrap64 ((wrap64 ((wrap64 (x3_1 * 131)) + (wrap64 (rd l0 x4_1)))) + 7)) 1073741823), (wrap64 (x4_1 + 1)), (by first | rfl | (simp; done) | (simp [*]; done)), (by first | rfl | (simp; done) | (simp [*]; done)), H', ⟨by have := HK1.out; omega⟩, ⟨zB5_6⟩, ⟨zB5_7⟩⟩
   rw [if_neg c3] at H
   have c3b0 : decide (x4_1 < 4000) = false := decide_eq_false c3
   clear c3
   simp only [Option.some.injEq, Prod.mk.injEq] at H
   obtain ⟨rfl, rfl, rfl⟩ := H
   go_wp2_with (first | ((with_reducible refine gate_dst (N := 31) rfl ?_); refine box_event ?hg (N := 31) ?hd (cs := #[.slice A0 l0.length c0, .int .i64 0, .int .i64 x3_1]) (t := 56) ?hr ?_; (case hd => rfl); (case hg => rfl); (case hr => first | (go_simp; done) | (go_simp; rfl)); intro gb316 hg w5 hbox hb; have n0_ := Aside0.mk (below_step HBW.out hb); have n1_ := Aside0.mk (below_step (zB5_6) hb); have n2_ := Aside0.mk (hbox); have n3_ := Aside0.mk ((by rw [hg]; exact (below_size (zB5_7)) : w.heap.size ≤ gb316)); have n4_ := Aside0.mk ((Nat.le_trans HW0.out (by rw [hg]; exact (below_size (zB5_7)) : w.heap.size ≤ gb316) : w0.heap.size ≤ gb316)); clear HBW; clear HB; have HBW := n0_; have HB := n1_; have BK316 := n2_; have GW316 := n3_; have GE316 := n4_; clear n0_ n1_ n2_ n3_ n4_; clear hb hbox hg))
   go_ret
   exact ⟨_, rfl, (show IsS56 w0 _ gb316 l0 0 x3_1 from ⟨_, _, zK5 BK316.out, GE316.out, HR0.out⟩), zB5_8, zB5_9⟩

/-! ### spec_l1Long: function 13 -/
def spec_l1Long.f (l0 : List Int) (a1 : Int) (a2 : Int) : Option (Int) := if (wrap64 (a1 + (wrap64 ((l0.length : Int) / 4)))) > a2 then (some a2) else (some (wrap64 (a1 + (wrap64 ((l0.length : Int) / 4)))))
set_option maxHeartbeats 8000000 in
set_option maxRecDepth 100000 in
theorem spec_l1Long.calls (A0 : Option Addr) (c0 : Nat) (l0 : List Int) (a1 : Int) (a2 : Int) (r : Int) (w : World) (hr0 : Kd.C (Kd.int .u8) w A0 l0.length l0) (hc0 : l0.length ≤ c0) (h : spec_l1Long.f l0 a1 a2 = some r) :
  Calls Try.prog 13 #[.slice A0 l0.length c0, .int .i64 a1, .int .i64 a2] w fun e w' => e = .returned (.int .i64 r) ∧ Drawn0 w w' := by
 have HR0 := Aside0.mk hr0
 have HC0 := Aside0.mk hc0
 clear hr0 hc0
 have H : (if (wrap64 (a1 + (wrap64 ((l0.length : Int) / 4)))) > a2 then (some a2) else (some (wrap64 (a1 + (wrap64 ((l0.length : Int) / 4)))))) = some r := h
 clear h
 by_cases c4 : (wrap64 (a1 + (wrap64 ((l0.length : Int) / 4)))) > a2
 ·rw [if_pos c4] at H
  have c4b0 : decide (a2 < (wrap64 (a1 + (wrap64 ((l0.length : Int) / 4))))) = true := decide_eq_true c4
  clear c4
  obtain rfl := Option.some.inj H
  go_enter Try.func13, Try.ntmps13
  go_wp2
  go_ret
  exact ⟨by first | rfl | (simp; done) | (simp [*]; done), by repeat (first | exact Drawn0.refl _ | apply Drawn0.step)⟩
 rw [if_neg c4] at H
 have c4b0 : decide (a2 < (wrap64 (a1 + (wrap64 ((l0.length : Int) / 4))))) = false := decide_eq_false c4
 clear c4
 obtain rfl := Option.some.inj H
 go_enter Try.func13, Try.ntmps13
 go_wp2
 go_ret
 exact ⟨by first | rfl | (simp; done) | (simp [*]; done), by repeat (first | exact Drawn0.refl _ | apply Drawn0.step)⟩

/-! ### spec_DrawSteps: function 5 -/
def spec_DrawSteps.f (k : Nat) (l0 : List Int) : Option (List Int × (List (S29)) × List Int) := (spec_l1New.f k l0).bind fun bt318 => ((spec_l1Long.f l0 40 80).bind fun t322 => ((spec_l18DrawRun.f k bt318.1 bt318.2.1 bt318.2.2 t322).bind fun bt323 => (some (bt323.1, bt323.2.1, bt323.2.2.1))))
theorem spec_DrawSteps.mono : ∀ a0 k, LeO (spec_DrawSteps.f k a0) (spec_DrawSteps.f (k + 1) a0) := by
 intro a0 k
 unfold spec_DrawSteps.f
 repeat' first
   | (with_reducible exact spec_l18DrawRun.mono _ _ _ _ _)
   | (with_reducible exact spec_l1New.mono _ _)
   | (with_reducible exact LeO.refl _)
   | (with_reducible exact LeO.none _)
   | (with_reducible refine LeO.ite ?_ ?_)
   | (with_reducible refine LeO.bind ?_ (fun _ => ?_))
   | exact spec_l18DrawRun.mono _ _ _ _ _
   | exact spec_l1New.mono _ _
   | exact LeO.none _
   | refine LeO.ite ?_ ?_
   | refine LeO.bind ?_ (fun _ => ?_)
set_option maxHeartbeats 8000000 in
set_option maxRecDepth 100000 in
theorem spec_DrawSteps.calls (k : Nat) (A0 : Option Addr) (c0 : Nat) (l0 : List Int) (r1 : List Int) (r2 : List (S29)) (r3 : List Int) (w : World) (hr0 : Kd.C (Kd.int .u8) w A0 l0.length l0) (hc0 : l0.length ≤ c0) (h : spec_DrawSteps.f k l0 = some (r1, r2, r3)) :
  Calls Try.prog 5 #[.slice A0 l0.length c0] w fun e w' => ∃ v0_ v1_ v2_ : Value, e = .returned (.tuple #[v0_, v1_, v2_]) ∧ Kd.R (Kd.int .i64) 3 w' w.heap.size (fun k_ => some k_ ≠ (v2_ : Value).ownBlock) v0_ r1 ∧ Kd.S k29 29 w' w.heap.size (fun k_ => some k_ ≠ (v0_ : Value).ownBlock ∧ some k_ ≠ (v2_ : Value).ownBlock) v1_ r2 ∧ Kd.R (Kd.int .i64) 3 w' w.heap.size (fun k_ => some k_ ≠ (v0_ : Value).ownBlock) v2_ r3 ∧ Below w.heap.size w w' := by
 have HR0 := Aside0.mk hr0
 have HC0 := Aside0.mk hc0
 clear hr0 hc0
 have HB := Aside0.mk (Below.refl w.heap.size w)
 have H : ((spec_l1New.f k l0).bind fun bt318 => ((spec_l1Long.f l0 40 80).bind fun t322 => ((spec_l18DrawRun.f k bt318.1 bt318.2.1 bt318.2.2 t322).bind fun bt323 => (some (bt323.1, bt323.2.1, bt323.2.2.1))))) = some (r1, r2, r3) := h
 clear h
 replace H := Option.bind_eq_some_iff.mp H
 obtain ⟨⟨t318, t319, t320⟩, A20, H⟩ := H
 replace H : ((spec_l1Long.f l0 40 80).bind fun t322 => ((spec_l18DrawRun.f k t318 t319 t320 t322).bind fun bt323 => (some (bt323.1, bt323.2.1, bt323.2.2.1)))) = some (r1, r2, r3) := H
 have A2 := Aside0.mk A20
 clear A20
 replace H := Option.bind_eq_some_iff.mp H
 obtain ⟨t322, A30, H⟩ := H
 replace H : ((spec_l18DrawRun.f k t318 t319 t320 t322).bind fun bt323 => (some (bt323.1, bt323.2.1, bt323.2.2.1))) = some (r1, r2, r3) := H
 have A3 := Aside0.mk A30
 clear A30
 replace H := Option.bind_eq_some_iff.mp H
 obtain ⟨⟨t323, t326, t329, t332, t333⟩, A40, H⟩ := H
 replace H : (some (t323, t326, t329)) = some (r1, r2, r3) := H
 have A4 := Aside0.mk A40
 clear A40
 simp only [Option.some.injEq, Prod.mk.injEq] at H
 obtain ⟨rfl, rfl, rfl⟩ := H
 go_enter Try.func5, Try.ntmps5
 go_wp2_with (first | ((with_reducible refine gate_callee (f := 12) rfl ?_); refine goesL_ (some 10) rfl rfl Try.func12 (by kernel_rfl) rfl #[.slice A0 l0.length c0] rfl zT5 ?_; (with_reducible refine (spec_l1New.calls k _ _ l0 t318 t319 t320 w _ ?side1 ?side2 ?side3 A2.out).mono ?_); (case side1 => exact zB5_6); (case side2 => exact HR0.out); (case side3 => exact HC0.out); rintro e w5 ⟨g321, rfl, hi, hb, hb2⟩; refine ⟨_, rfl, ?_⟩; have n0_ := Aside0.mk (hb); have n1_ := Aside0.mk (hi); clear HB; have HB := n0_; have HI321 := n1_; clear n0_ n1_; (try clear hb); (try clear hb2); (try clear hk); (try clear hi)) | ((with_reducible refine gate_callee (f := 13) rfl ?_); refine goesL_ (some 12) rfl rfl Try.func13 (by kernel_rfl) rfl #[.slice A0 l0.length c0, .int .i64 40, .int .i64 80] rfl zT5 ?_; (with_reducible refine (spec_l1Long.calls _ _ l0 40 80 t322 _ ?side1 ?side2 A3.out).mono ?_); (case side1 => exact zC5 (Kd.C_below HR0.out HB.out)); (case side2 => exact HC0.out); rintro e w' ⟨rfl, ⟨nd, rfl⟩⟩; refine ⟨_, rfl, ?_⟩) | ((with_reducible refine gate_callee (f := 11) rfl ?_); refine goesL_ (some 13) rfl rfl Try.func11 (by kernel_rfl) rfl #[.pointer (some ⟨g321, 0, none⟩), .int .i64 t322] rfl zT5 ?_; (with_reducible refine (spec_l18DrawRun.calls k g321 t318 t319 t320 t322 t323 t326 t329 t332 t333 w _ ?side1 ?side2 A4.out).mono ?_); (case side1 => exact zB5_12); (case side2 => exact zB5_13); rintro e w6 ⟨v324, v327, v330, rfl, ho0, ho1, ho2, hi, hb, hk⟩; refine ⟨_, rfl, ?_⟩; have n0_ := Aside0.mk (Kd.R_lower ho0 (below_size (zB5_13))); have n1_ := Aside0.mk (Kd.S_lower ho1 (below_size (zB5_13))); have n2_ := Aside0.mk (Kd.R_lower ho2 (below_size (zB5_13))); have n3_ := Aside0.mk (hb); have n4_ := Aside0.mk (hi); clear HB; clear HI321; have HO325 := n0_; have HO328 := n1_; have HO331 := n2_; have HB := n3_; have HI321 := n4_; clear n0_ n1_ n2_ n3_ n4_; (try clear hb); (try clear hb2); (try clear hk); (try clear hi); (try clear ho0); (try clear ho1); (try clear ho2)))
 go_ret3
 exact ⟨_, _, _, zE5, zR5 HO325.out, zS5 HO328.out, zR5 HO331.out, zB5_13⟩

-- NOT PRINTED: function 41 (slices_IndexFunc_int_int)

-- NOT PRINTED: function 24 (slices_ContainsFunc_int_int)

/-! ### impl_from: function 33 -/
def impl_from.f (a0 : Int) (a1 : Int) (a2 : Int) : Option (Bool) := if a0 ≥ a1 then (some (decide (a0 ≤ a2))) else (some false)
set_option maxHeartbeats 8000000 in
set_option maxRecDepth 100000 in
theorem impl_from.calls (a0 : Int) (a1 : Int) (a2 : Int) (r : Bool) (w : World) (h : impl_from.f a0 a1 a2 = some r) :
  Calls Try.prog 33 #[.int .i64 a0, .int .i64 a1, .int .i64 a2] w fun e w' => e = .returned (.bool r) ∧ Drawn0 w w' := by
 have H : (if a0 ≥ a1 then (some (decide (a0 ≤ a2))) else (some false)) = some r := h
 clear h
 by_cases c4 : a0 ≥ a1
 ·rw [if_pos c4] at H
  have c4b0 : decide (a1 ≤ a0) = true := decide_eq_true c4
  clear c4
  obtain rfl := Option.some.inj H
  go_enter Try.func33, Try.ntmps33
  go_wp2
  go_ret
  exact ⟨by first | rfl | (simp; done) | (simp [*]; done), by repeat (first | exact Drawn0.refl _ | apply Drawn0.step)⟩
 rw [if_neg c4] at H
 have c4b0 : decide (a1 ≤ a0) = false := decide_eq_false c4
 clear c4
 obtain rfl := Option.some.inj H
 go_enter Try.func33, Try.ntmps33
 go_wp2
 go_ret
 exact ⟨by first | rfl | (simp; done) | (simp [*]; done), by repeat (first | exact Drawn0.refl _ | apply Drawn0.step)⟩

/-! ### impl_isWord: function 34 -/
def impl_isWord.f (a0 : Int) : Option (Bool) := (impl_from.f a0 0 65535).bind fun t334 => (some t334)
set_option maxHeartbeats 8000000 in
set_option maxRecDepth 100000 in
theorem impl_isWord.calls (a0 : Int) (r : Bool) (w : World) (h : impl_isWord.f a0 = some r) :
  Calls Try.prog 34 #[.int .i64 a0] w fun e w' => e = .returned (.bool r) ∧ Drawn0 w w' := by
 have H : ((impl_from.f a0 0 65535).bind fun t334 => (some t334)) = some r := h
 clear h
 replace H := Option.bind_eq_some_iff.mp H
 obtain ⟨t334, A20, H⟩ := H
 replace H : (some t334) = some r := H
 have A2 := Aside0.mk A20
 clear A20
 obtain rfl := Option.some.inj H
 go_enter Try.func34, Try.ntmps34
 go_wp2_with (first | ((with_reducible refine gate_callee (f := 33) rfl ?_); refine goesL_ (some 4) rfl rfl Try.func33 (by kernel_rfl) rfl #[.int .i64 a0, .int .i64 0, .int .i64 65535] rfl zT5 ?_; (with_reducible refine (impl_from.calls a0 0 65535 t334 _ A2.out).mono ?_); rintro e w' ⟨rfl, ⟨nd, rfl⟩⟩; refine ⟨_, rfl, ?_⟩))
 go_ret
 exact ⟨by first | rfl | (simp; done) | (simp [*]; done), by repeat (first | exact Drawn0.refl _ | apply Drawn0.step)⟩

/-! ### impl_wordsOk_1: function 51 -/
def impl_wordsOk_1.f (a0 : Int) : Option (Bool) := (impl_isWord.f a0).bind fun t335 => (some (!t335))
set_option maxHeartbeats 8000000 in
set_option maxRecDepth 100000 in
theorem impl_wordsOk_1.calls (a0 : Int) (r : Bool) (w : World) (h : impl_wordsOk_1.f a0 = some r) :
  Calls Try.prog 51 #[.int .i64 a0] w fun e w' => e = .returned (.bool r) ∧ Drawn0 w w' := by
 have H : ((impl_isWord.f a0).bind fun t335 => (some (!t335))) = some r := h
 clear h
 replace H := Option.bind_eq_some_iff.mp H
 obtain ⟨t335, A20, H⟩ := H
 replace H : (some (!t335)) = some r := H
 have A2 := Aside0.mk A20
 clear A20
 obtain rfl := Option.some.inj H
 go_enter Try.func51, Try.ntmps51
 go_wp2_with (first | ((with_reducible refine gate_callee (f := 34) rfl ?_); refine goesL_ (some 4) rfl rfl Try.func34 (by kernel_rfl) rfl #[.int .i64 a0] rfl zT5 ?_; (with_reducible refine (impl_isWord.calls a0 t335 _ A2.out).mono ?_); rintro e w' ⟨rfl, ⟨nd, rfl⟩⟩; refine ⟨_, rfl, ?_⟩))
 go_ret
 exact ⟨by first | rfl | (simp; done) | (simp [*]; done), by repeat (first | exact Drawn0.refl _ | apply Drawn0.step)⟩

/-! ### slices_IndexFunc_at_impl_wordsOk_1: function 41 -/
def slices_IndexFunc_at_impl_wordsOk_1.l0 : Nat → List Int → Int → Int → Option (Int)
 | 0, _, _, _ => none
 | k + 1, x0, x7, x8 => if x8 < x7 then (if 0 ≤ x8 then (if x8 < (x0.length : Int) then ((impl_wordsOk_1.f (rd x0 x8)).bind fun t337 => (if t337 = true then (some x8) else (slices_IndexFunc_at_impl_wordsOk_1.l0 k x0 x7 (wrap64 (x8 + 1))))) else (none)) else (none)) else (some (-1))
def slices_IndexFunc_at_impl_wordsOk_1.f (k : Nat) (l0 : List Int) (a1 : Int) : Option (Int) := slices_IndexFunc_at_impl_wordsOk_1.l0 k l0 (l0.length : Int) 0
theorem slices_IndexFunc_at_impl_wordsOk_1.mono_l : ∀ k, (∀ y0 y1 y2, LeO (slices_IndexFunc_at_impl_wordsOk_1.l0 k y0 y1 y2) (slices_IndexFunc_at_impl_wordsOk_1.l0 (k + 1) y0 y1 y2))
 | 0 => fun _ _ _ r h => by simp [slices_IndexFunc_at_impl_wordsOk_1.l0] at h
 | k + 1 => by
  have ih0 := slices_IndexFunc_at_impl_wordsOk_1.mono_l k
  ·intro y0 y1 y2
   unfold slices_IndexFunc_at_impl_wordsOk_1.l0
   repeat' first
   | (with_reducible exact ih0 _ _ _)
   | (with_reducible exact LeO.refl _)
   | (with_reducible exact LeO.none _)
   | (with_reducible refine LeO.ite ?_ ?_)
   | (with_reducible refine LeO.bind ?_ (fun _ => ?_))
   | exact ih0 _ _ _
   | exact LeO.none _
   | refine LeO.ite ?_ ?_
   | refine LeO.bind ?_ (fun _ => ?_)
theorem slices_IndexFunc_at_impl_wordsOk_1.mono : ∀ a0 a1 k, LeO (slices_IndexFunc_at_impl_wordsOk_1.f k a0 a1) (slices_IndexFunc_at_impl_wordsOk_1.f (k + 1) a0 a1) := by
 intro a0 a1 k
 have ih0 := slices_IndexFunc_at_impl_wordsOk_1.mono_l k
 unfold slices_IndexFunc_at_impl_wordsOk_1.f
 repeat' first
   | (with_reducible exact ih0 _ _ _)
   | (with_reducible exact LeO.refl _)
   | (with_reducible exact LeO.none _)
   | (with_reducible refine LeO.ite ?_ ?_)
   | (with_reducible refine LeO.bind ?_ (fun _ => ?_))
   | exact ih0 _ _ _
   | exact LeO.none _
   | refine LeO.ite ?_ ?_
   | refine LeO.bind ?_ (fun _ => ?_)
set_option maxHeartbeats 8000000 in
set_option maxRecDepth 100000 in
theorem slices_IndexFunc_at_impl_wordsOk_1.calls (k : Nat) (A0 : Option Addr) (c0 : Nat) (l0 : List Int) (a1 : Int) (r : Int) (w : World) (hr0 : Kd.C (Kd.int .i64) w A0 l0.length l0) (hc0 : l0.length ≤ c0) (h : slices_IndexFunc_at_impl_wordsOk_1.f k l0 a1 = some r) :
  Calls Try.prog 41 #[.slice A0 l0.length c0, .func (.func 51) #[] #[]] w fun e w' => e = .returned (.int .i64 r) ∧ Drawn0 w w' := by
 have HR0 := Aside0.mk hr0
 have HC0 := Aside0.mk hc0
 clear hr0 hc0
 have H : (slices_IndexFunc_at_impl_wordsOk_1.l0 k l0 (l0.length : Int) 0) = some r := h
 clear h
 have H' := Aside0.mk H
 clear H
 go_enter Try.func41, Try.ntmps41
 go_wp2
 go_loopg [8] k (fun kq v8 w' => ∃ (x8_1 : Int), v8 = .int .i64 x8_1 ∧ Aside0 (slices_IndexFunc_at_impl_wordsOk_1.l0 kq l0 (l0.length : Int) x8_1 = some r) ∧ Aside0 (kq ≤ k) ∧ Drawn0 w w')
 case atStart => exact ⟨(0), (by first | rfl | (simp; done) | (simp [*]; done)), H', ⟨Nat.le_refl _⟩, by repeat (first | exact Drawn0.refl _ | apply Drawn0.step)⟩
 case round =>
  clear H'
  try clear p2
  obtain ⟨x8_1, rfl, HA, HK1, ⟨m1, rfl⟩⟩ := hrel
  cases gk with
  | zero => exact absurd HA.out (by simp [slices_IndexFunc_at_impl_wordsOk_1.l0])
  | succ k1 =>
   have H := HA.out
   clear HA
   simp only [slices_IndexFunc_at_impl_wordsOk_1.l0] at H
   by_cases c3 : x8_1 < (l0.length : Int)
   rotate_left
   ·rw [if_neg c3] at H
    have c3b0 : decide (x8_1 < (l0.length : Int)) = false := decide_eq_false c3
    clear c3
    obtain rfl := Option.some.inj H
    go_wp2
    go_ret
    exact ⟨by first | rfl | (simp; done) | (simp [*]; done), by repeat (first | exact Drawn0.refl _ | apply Drawn0.step)⟩
   rw [if_pos c3] at H
   have c3b0 : decide (x8_1 < (l0.length : Int)) = true := decide_eq_true c3
   clear c3
   by_cases c4 : 0 ≤ x8_1
   rotate_left
   ·rw [if_neg c4] at H
    exact absurd H (by simp)
   rw [if_pos c4] at H
   have c4b0 : decide (0 ≤ x8_1) = true := decide_eq_true c4
   clear c4
   by_cases c5 : x8_1 < (l0.length : Int)
   rotate_left
   ·rw [if_neg c5] at H
    exact absurd H (by simp)
   rw [if_pos c5] at H
   have c5b0 : decide (x8_1 < (l0.length : Int)) = true := decide_eq_true c5
   clear c5
   replace H := Option.bind_eq_some_iff.mp H
   obtain ⟨t337, A60, H⟩ := H
   replace H : (if t337 = true then (some x8_1) else (slices_IndexFunc_at_impl_wordsOk_1.l0 k1 l0 (l0.length : Int) (wrap64 (x8_1 + 1)))) = some r := H
   have A6 := Aside0.mk A60
   clear A60
   by_cases c7 : t337 = true
   ·subst c7
    have H1 : (some x8_1) = some r := by rw [if_pos rfl] at H; exact H
    clear H
    have H := H1
    clear H1
    obtain rfl := Option.some.inj H
    have p336 : 0 ≤ (x8_1 : Int) := zA5
    have q336 : x8_1 < (l0.length : Int) := zA5
    obtain ⟨ad336, e336, hx336_0⟩ := Kd.at_int HR0.out x8_1 p336 q336
    cases e336
    replace p336 := eq_true p336
    replace q336 := eq_true q336
    go_wp2_with (first | (go_at_call 51; (with_reducible refine (impl_wordsOk_1.calls (rd l0 x8_1) true _ A6.out).mono ?_); rintro e w' ⟨rfl, ⟨nd, rfl⟩⟩))
    go_ret
    exact ⟨by first | rfl | (simp; done) | (simp [*]; done), by repeat (first | exact Drawn0.refl _ | apply Drawn0.step)⟩
   replace c7 := Bool.eq_false_iff.mpr c7
   subst c7
   have H1 : (slices_IndexFunc_at_impl_wordsOk_1.l0 k1 l0 (l0.length : Int) (wrap64 (x8_1 + 1))) = some r := by rw [if_neg (show ¬ (false = true) by decide)] at H; exact H
   clear H
   have H := H1
   clear H1
   have H' := Aside0.mk H
   clear H
   have p336 : 0 ≤ (x8_1 : Int) := zA5
   have q336 : x8_1 < (l0.length : Int) := zA5
   obtain ⟨ad336, e336, hx336_0⟩ := Kd.at_int HR0.out x8_1 p336 q336
   cases e336
   replace p336 := eq_true p336
   replace q336 := eq_true q336
   go_wp2_with (first | (go_at_call 51; (with_reducible refine (impl_wordsOk_1.calls (rd l0 x8_1) false _ A6.out).mono ?_); rintro e w' ⟨rfl, ⟨nd, rfl⟩⟩))
   go_roundg k1
   case measure => have := HK1.out; omega
   case rel => exact ⟨(wrap64 (x8_1 + 1)), (by first | rfl | (simp; done) | (simp [*]; done)), H', ⟨by have := HK1.out; omega⟩, by repeat (first | exact Drawn0.refl _ | apply Drawn0.step)⟩

/-! ### slices_ContainsFunc_at_impl_wordsOk_1: function 24 -/
def slices_ContainsFunc_at_impl_wordsOk_1.f (k : Nat) (l0 : List Int) (a1 : Int) : Option (Bool) := (slices_IndexFunc_at_impl_wordsOk_1.f k l0 0).bind fun t338 => (some (decide (t338 ≥ 0)))
theorem slices_ContainsFunc_at_impl_wordsOk_1.mono : ∀ a0 a1 k, LeO (slices_ContainsFunc_at_impl_wordsOk_1.f k a0 a1) (slices_ContainsFunc_at_impl_wordsOk_1.f (k + 1) a0 a1) := by
 intro a0 a1 k
 unfold slices_ContainsFunc_at_impl_wordsOk_1.f
 repeat' first
   | (with_reducible exact slices_IndexFunc_at_impl_wordsOk_1.mono _ _ _)
   | (with_reducible exact LeO.refl _)
   | (with_reducible exact LeO.none _)
   | (with_reducible refine LeO.ite ?_ ?_)
   | (with_reducible refine LeO.bind ?_ (fun _ => ?_))
   | exact slices_IndexFunc_at_impl_wordsOk_1.mono _ _ _
   | exact LeO.none _
   | refine LeO.ite ?_ ?_
   | refine LeO.bind ?_ (fun _ => ?_)
set_option maxHeartbeats 8000000 in
set_option maxRecDepth 100000 in
theorem slices_ContainsFunc_at_impl_wordsOk_1.calls (k : Nat) (A0 : Option Addr) (c0 : Nat) (l0 : List Int) (a1 : Int) (r : Bool) (w : World) (hr0 : Kd.C (Kd.int .i64) w A0 l0.length l0) (hc0 : l0.length ≤ c0) (h : slices_ContainsFunc_at_impl_wordsOk_1.f k l0 a1 = some r) :
  Calls Try.prog 24 #[.slice A0 l0.length c0, .func (.func 51) #[] #[]] w fun e w' => e = .returned (.bool r) ∧ Drawn0 w w' := by
 have HR0 := Aside0.mk hr0
 have HC0 := Aside0.mk hc0
 clear hr0 hc0
 have H : ((slices_IndexFunc_at_impl_wordsOk_1.f k l0 0).bind fun t338 => (some (decide (t338 ≥ 0)))) = some r := h
 clear h
 replace H := Option.bind_eq_some_iff.mp H
 obtain ⟨t338, A30, H⟩ := H
 replace H : (some (decide (t338 ≥ 0))) = some r := H
 have A3 := Aside0.mk A30
 clear A30
 obtain rfl := Option.some.inj H
 go_enter Try.func24, Try.ntmps24
 go_wp2_with (first | ((with_reducible refine gate_callee (f := 41) rfl ?_); refine goesL_ (some 7) rfl rfl Try.func41 (by kernel_rfl) rfl #[.slice A0 l0.length c0, .func (.func 51) #[] #[]] rfl zT5 ?_; (with_reducible refine (slices_IndexFunc_at_impl_wordsOk_1.calls k _ _ l0 0 t338 _ ?side1 ?side2 A3.out).mono ?_); (case side1 => exact zC5 HR0.out); (case side2 => exact HC0.out); rintro e w' ⟨rfl, ⟨nd, rfl⟩⟩; refine ⟨_, rfl, ?_⟩))
 go_ret
 exact ⟨by first | rfl | (simp; done) | (simp [*]; done), by repeat (first | exact Drawn0.refl _ | apply Drawn0.step)⟩

/-! ### impl_wordsOk: function 32 -/
def impl_wordsOk.f (k : Nat) (l0 : List Int) (a1 : Int) : Option (Bool) := if (l0.length : Int) = a1 then ((slices_ContainsFunc_at_impl_wordsOk_1.f k l0 0).bind fun t339 => (some (!t339))) else (some false)
theorem impl_wordsOk.mono : ∀ a0 a1 k, LeO (impl_wordsOk.f k a0 a1) (impl_wordsOk.f (k + 1) a0 a1) := by
 intro a0 a1 k
 unfold impl_wordsOk.f
 repeat' first
   | (with_reducible exact slices_ContainsFunc_at_impl_wordsOk_1.mono _ _ _)
   | (with_reducible exact LeO.refl _)
   | (with_reducible exact LeO.none _)
   | (with_reducible refine LeO.ite ?_ ?_)
   | (with_reducible refine LeO.bind ?_ (fun _ => ?_))
   | exact slices_ContainsFunc_at_impl_wordsOk_1.mono _ _ _
   | exact LeO.none _
   | refine LeO.ite ?_ ?_
   | refine LeO.bind ?_ (fun _ => ?_)
set_option maxHeartbeats 8000000 in
set_option maxRecDepth 100000 in
theorem impl_wordsOk.calls (k : Nat) (A0 : Option Addr) (c0 : Nat) (l0 : List Int) (a1 : Int) (r : Bool) (w : World) (hr0 : Kd.C (Kd.int .i64) w A0 l0.length l0) (hc0 : l0.length ≤ c0) (h : impl_wordsOk.f k l0 a1 = some r) :
  Calls Try.prog 32 #[.slice A0 l0.length c0, .int .i64 a1] w fun e w' => e = .returned (.bool r) ∧ Drawn0 w w' := by
 have HR0 := Aside0.mk hr0
 have HC0 := Aside0.mk hc0
 clear hr0 hc0
 have H : (if (l0.length : Int) = a1 then ((slices_ContainsFunc_at_impl_wordsOk_1.f k l0 0).bind fun t339 => (some (!t339))) else (some false)) = some r := h
 clear h
 by_cases c3 : (l0.length : Int) = a1
 rotate_left
 ·rw [if_neg c3] at H
  have c3b0 : ((l0.length : Int) == a1) = false := beq_eq_false_iff_ne.mpr c3
  have c3b1 : ((l0.length : Int) != a1) = true := bne_iff_ne.mpr c3
  obtain rfl := Option.some.inj H
  go_enter Try.func32, Try.ntmps32
  go_wp2
  go_ret
  exact ⟨by first | rfl | (simp; done) | (simp [*]; done), by repeat (first | exact Drawn0.refl _ | apply Drawn0.step)⟩
 rw [if_pos c3] at H
 have c3b0 : ((l0.length : Int) == a1) = true := beq_iff_eq.mpr c3
 have c3b1 : ((l0.length : Int) != a1) = false := bne_eq_false_iff_eq.mpr c3
 clear c3
 replace H := Option.bind_eq_some_iff.mp H
 obtain ⟨t339, A40, H⟩ := H
 replace H : (some (!t339)) = some r := H
 have A4 := Aside0.mk A40
 clear A40
 obtain rfl := Option.some.inj H
 go_enter Try.func32, Try.ntmps32
 go_wp2_with (first | (go_at_call 24; (with_reducible refine (slices_ContainsFunc_at_impl_wordsOk_1.calls k _ _ l0 0 t339 _ ?side1 ?side2 A4.out).mono ?_); (case side1 => exact zC5 HR0.out); (case side2 => exact HC0.out); rintro e w' ⟨rfl, ⟨nd, rfl⟩⟩))
 go_ret
 exact ⟨by first | rfl | (simp; done) | (simp [*]; done), by repeat (first | exact Drawn0.refl _ | apply Drawn0.step)⟩

/-! ### impl_memOk: function 14 -/
def impl_memOk.f (k : Nat) (l0 : List Int) : Option (Bool) := (impl_wordsOk.f k l0 24).bind fun t340 => (some t340)
theorem impl_memOk.mono : ∀ a0 k, LeO (impl_memOk.f k a0) (impl_memOk.f (k + 1) a0) := by
 intro a0 k
 unfold impl_memOk.f
 repeat' first
   | (with_reducible exact impl_wordsOk.mono _ _ _)
   | (with_reducible exact LeO.refl _)
   | (with_reducible exact LeO.none _)
   | (with_reducible refine LeO.ite ?_ ?_)
   | (with_reducible refine LeO.bind ?_ (fun _ => ?_))
   | exact impl_wordsOk.mono _ _ _
   | exact LeO.none _
   | refine LeO.ite ?_ ?_
   | refine LeO.bind ?_ (fun _ => ?_)
set_option maxHeartbeats 8000000 in
set_option maxRecDepth 100000 in
theorem impl_memOk.calls (k : Nat) (A0 : Option Addr) (c0 : Nat) (l0 : List Int) (r : Bool) (w : World) (hr0 : Kd.C (Kd.int .i64) w A0 l0.length l0) (hc0 : l0.length ≤ c0) (h : impl_memOk.f k l0 = some r) :
  Calls Try.prog 14 #[.slice A0 l0.length c0] w fun e w' => e = .returned (.bool r) ∧ Drawn0 w w' := by
 have HR0 := Aside0.mk hr0
 have HC0 := Aside0.mk hc0
 clear hr0 hc0
 have H : ((impl_wordsOk.f k l0 24).bind fun t340 => (some t340)) = some r := h
 clear h
 replace H := Option.bind_eq_some_iff.mp H
 obtain ⟨t340, A20, H⟩ := H
 replace H : (some t340) = some r := H
 have A2 := Aside0.mk A20
 clear A20
 obtain rfl := Option.some.inj H
 go_enter Try.func14, Try.ntmps14
 go_wp2_with (first | ((with_reducible refine gate_callee (f := 32) rfl ?_); refine goesL_ (some 4) rfl rfl Try.func32 (by kernel_rfl) rfl #[.slice A0 l0.length c0, .int .i64 24] rfl zT5 ?_; (with_reducible refine (impl_wordsOk.calls k _ _ l0 24 t340 _ ?side1 ?side2 A2.out).mono ?_); (case side1 => exact zC5 HR0.out); (case side2 => exact HC0.out); rintro e w' ⟨rfl, ⟨nd, rfl⟩⟩; refine ⟨_, rfl, ?_⟩))
 go_ret
 exact ⟨by first | rfl | (simp; done) | (simp [*]; done), by repeat (first | exact Drawn0.refl _ | apply Drawn0.step)⟩

/-! ### impl_isCell: function 15 -/
def impl_isCell.f (a0 : Int) : Option (Bool) := (impl_from.f a0 0 23).bind fun t341 => (some t341)
set_option maxHeartbeats 8000000 in
set_option maxRecDepth 100000 in
theorem impl_isCell.calls (a0 : Int) (r : Bool) (w : World) (h : impl_isCell.f a0 = some r) :
  Calls Try.prog 15 #[.int .i64 a0] w fun e w' => e = .returned (.bool r) ∧ Drawn0 w w' := by
 have H : ((impl_from.f a0 0 23).bind fun t341 => (some t341)) = some r := h
 clear h
 replace H := Option.bind_eq_some_iff.mp H
 obtain ⟨t341, A20, H⟩ := H
 replace H : (some t341) = some r := H
 have A2 := Aside0.mk A20
 clear A20
 obtain rfl := Option.some.inj H
 go_enter Try.func15, Try.ntmps15
 go_wp2_with (first | ((with_reducible refine gate_callee (f := 33) rfl ?_); refine goesL_ (some 4) rfl rfl Try.func33 (by kernel_rfl) rfl #[.int .i64 a0, .int .i64 0, .int .i64 23] rfl zT5 ?_; (with_reducible refine (impl_from.calls a0 0 23 t341 _ A2.out).mono ?_); rintro e w' ⟨rfl, ⟨nd, rfl⟩⟩; refine ⟨_, rfl, ?_⟩))
 go_ret
 exact ⟨by first | rfl | (simp; done) | (simp [*]; done), by repeat (first | exact Drawn0.refl _ | apply Drawn0.step)⟩

end Go.Proofs.Ytmfhfnpinmlloaa.PFnGoes
