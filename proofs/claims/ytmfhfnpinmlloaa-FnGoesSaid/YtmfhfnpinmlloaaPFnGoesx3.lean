-- made by wip/tools/myprint.py out of the seat's translation
import Derived.Test.YtmfhfnpinmlloaaPFnGoesx0
import Derived.Test.YtmfhfnpinmlloaaPFnGoesx2
namespace Go.Proofs.Ytmfhfnpinmlloaa.PFnGoes
open Go.RowKit Go.Proofs.YtmfhfnpinmlloaaW.PrintWords Go.Proofs.YtmfhfnpinmlloaaW.PrintLast Go.Proofs.YtmfhfnpinmlloaaW.PrintMore
attribute [local go_sem] max2_int min2_int max_two min_two max_three min_three max_four min_four   -- for this text's walks alone
set_option linter.unusedVariables false
set_option linter.unusedSimpArgs false
theorem zR3 {p q : Prop} (x : q) (h : q → p := by intro h; (with_reducible repeat (first | apply Kd.R_alloc | apply Kd.R_drewN | apply Kd.R_drew)); exact h) : p := h x
theorem zK3 {p q : Prop} (x : q) (h : q → p := by intro h; (with_reducible repeat (first | refine blk_drewN ?_ _ | refine blk_drew ?_ | refine blk_alloc ?_ _)); exact h) : p := h x
theorem zA3 {p : Prop} [Decidable p] (h : decide p = true := by first | (with_reducible assumption) | assumption) : p := of_decide_eq_true h
theorem zT3 {p : Prop} (h : p := by (try simp only [List.map_toArray, List.map_cons, List.map_nil]); first | done | rfl | (simp only [List.length_drop, List.length_take]; rfl)) : p := h
theorem zC3 {p q : Prop} (x : q) (h : q → p := by intro h; repeat (first | exact h | (with_reducible refine Kd.C_alloc ?_ _) | (with_reducible refine Kd.C_drewN ?_ _) | (with_reducible refine Kd.C_drew ?_))) : p := h x
theorem zb3 {W w w1 : World} {g : Nat} {o : Obj} (x : W.heap[g]? = some o) (hb : Below w.heap.size w w1) (h : W.heap[g]? = some o → w.heap[g]? = some o := by intro h; (with_reducible repeat (first | refine blk_drewN ?_ _ | refine blk_drew ?_ | refine blk_alloc ?_ _)); exact h) : w1.heap[g]? = some o := blk_below (h x) hb
theorem zP3 {p q : Prop} (x : q) (h : q → p := by intro h; (with_reducible repeat (first | refine blk_drewN ?_ _ | refine blk_drew ?_ | refine blk_alloc ?_ _)); exact h) : p := h x
theorem zV3 {a b : Act} (h : a = b := by simp only [Act.put, List.setIfInBounds_toArray, List.set_cons_zero, List.set_cons_succ, i64_w, i32_w]; rfl) : a = b := h
theorem zE3 {p : Prop} (h : p := by first | rfl | (simp [errW_none, errW_some] <;> rfl) | (simp [*, errW_none, errW_some] <;> rfl)) : p := h
theorem zB3_0 {p : Prop} (h : p := by repeat (first | (with_reducible first | exact HI0.out | apply IsS56.alloc | apply IsS56.drewN | apply IsS56.drew | apply IsS56.set_1 | apply IsS56.set_2) | exact HI0.out)) : p := h
theorem zB3_1 {p : Prop} (h : p := by repeat (first | (with_reducible first | exact HB.out | apply below_alloc | apply pw_below_drewN | apply below_drew1 | refine below_set ?_ (IsS56.ge HI0.out)) | exact HB.out)) : p := h
theorem zB3_2 {p : Prop} (h : p := by repeat (first | (with_reducible first | exact HK.out | apply KeepBut.set_ | apply keep_drewN | apply keep_drew | apply keep_alloc) | exact HK.out)) : p := h
theorem zB3_3 {p : Prop} (h : p := by repeat (first | (with_reducible first | exact HB.out | apply below_alloc | apply pw_below_drewN | apply below_drew1) | exact HB.out)) : p := h
theorem zB3_4 {p : Prop} (h : p := by repeat (first | (with_reducible first | exact HB.out | apply below_alloc | apply pw_below_drewN | apply below_drew1 | refine below_set ?_ GE222.out) | exact HB.out)) : p := h

/-! ### spec_l1Once: function 45 -/
def spec_l1Once.f (s0_0 : List Int) (s0_1 : Int) (s0_2 : Int) (a1 : Int) : Option (Bool × Int × Int) := (spec_l1Below.f s0_0 s0_1 s0_2 a1).bind fun bt166 => (some ((bt166.1 == 0), bt166.2.1, bt166.2.2))
set_option maxHeartbeats 8000000 in
set_option maxRecDepth 100000 in
theorem spec_l1Once.calls (g : Nat) (s0_0 : List Int) (s0_1 : Int) (s0_2 : Int) (a1 : Int) (r1 : Bool) (r2 : Int) (r3 : Int) (w0 w : World) (hI : IsS56 w0 w g s0_0 s0_1 s0_2) (hB : Below w0.heap.size w0 w) (h : spec_l1Once.f s0_0 s0_1 s0_2 a1 = some (r1, r2, r3)) :
  Calls Try.prog 45 #[.pointer (some ⟨g, 0, none⟩), .int .i64 a1] w fun e w' => e = .returned (.bool r1) ∧ IsS56 w0 w' g s0_0 r2 r3 ∧ Below w0.heap.size w0 w' ∧ KeepBut w w' g none := by
 have HI0 := Aside0.mk hI
 have HK := Aside0.mk (KeepBut.refl w g none)
 have HL := Aside0.mk hB.size
 clear hI
 have HW0 := Aside0.mk hB.size
 have HB := Aside0.mk hB
 clear hB
 have H : ((spec_l1Below.f s0_0 s0_1 s0_2 a1).bind fun bt166 => (some ((bt166.1 == 0), bt166.2.1, bt166.2.2))) = some (r1, r2, r3) := h
 clear h
 replace H := Option.bind_eq_some_iff.mp H
 obtain ⟨⟨t166, t167, t168⟩, A30, H⟩ := H
 replace H : (some ((t166 == 0), t167, t168)) = some (r1, r2, r3) := H
 have A3 := Aside0.mk A30
 clear A30
 simp only [Option.some.injEq, Prod.mk.injEq] at H
 obtain ⟨rfl, rfl, rfl⟩ := H
 go_enter Try.func45, Try.ntmps45
 go_wp2_with (first | ((with_reducible refine gate_callee (f := 28) rfl ?_); refine goesL_ (some 7) rfl rfl Try.func28 (by kernel_rfl) rfl #[.pointer (some ⟨g, 0, none⟩), .int .i64 a1] rfl zT3 ?_; (with_reducible refine (spec_l1Below.calls g s0_0 s0_1 s0_2 a1 t166 t167 t168 w0 _ ?side1 ?side2 A3.out).mono ?_); (case side1 => exact zB3_0); (case side2 => exact zB3_1); rintro e w4 ⟨rfl, hi, hb, hk⟩; refine ⟨_, rfl, ?_⟩; have n0_ := Aside0.mk (KeepBut.trans (zB3_2) hk (.inl rfl)); have n1_ := Aside0.mk (hb); have n2_ := Aside0.mk (hi); clear HK; clear HB; clear HI0; have HK := n0_; have HB := n1_; have HI0 := n2_; clear n0_ n1_ n2_; (try clear hb); (try clear hb2); (try clear hk); (try clear hi)))
 go_ret
 exact ⟨zE3, zB3_0, zB3_1, zB3_2⟩

/-! ### spec_l9DrawMem: function 27 -/
mutual
def spec_l9DrawMem.l0 : Nat → List Int → Int → List Int → Int → Int → Option (List Int × Int × Int)
 | 0, _, _, _, _, _ => none
 | k + 1, x3, x4, x1000, x1001, x1002 => if x4 < 24 then ((spec_l8DrawIns.f k x1000 x1001 x1002).bind fun bt172 => ((spec_Code.f bt172.1 bt172.2.1 bt172.2.2.1 bt172.2.2.2.1 bt172.2.2.2.2.1).bind fun bt179 => (if x4 > 15 then ((spec_l1PickInt.f x1000 bt172.2.2.2.2.2.1 bt172.2.2.2.2.2.2 (([0, 1, 5, 65535] : List Int))).bind fun bt184 => (if x3.length < 17592186044416 then (spec_l9DrawMem.l0 k (x3 ++ [bt184.1]) (wrap64 (x4 + 1)) x1000 bt184.2.1 bt184.2.2) else (none))) else ((spec_l1Once.f x1000 bt172.2.2.2.2.2.1 bt172.2.2.2.2.2.2 9).bind fun bt190 => (if bt190.1 = true then ((spec_l1PickInt.f x1000 bt190.2.1 bt190.2.2 (([0, 1, 5, 65535] : List Int))).bind fun bt196 => (if x3.length < 17592186044416 then (spec_l9DrawMem.l0 k (x3 ++ [bt196.1]) (wrap64 (x4 + 1)) x1000 bt196.2.1 bt196.2.2) else (none))) else (if x3.length < 17592186044416 then (spec_l9DrawMem.l0 k (x3 ++ [bt179.1]) (wrap64 (x4 + 1)) x1000 bt190.2.1 bt190.2.2) else (none))))))) else ((spec_l1Below.f x1000 x1001 x1002 4).bind fun bt205 => (if bt205.1 = 0 then (spec_l9DrawMem.l1 k x3 (([(⟨1, 1, 0, 0, 1⟩ : S41), (⟨6, 2, 0, 1, 20⟩ : S41), (⟨10, 3, 2, 1, 0⟩ : S41), (⟨8, 0, 0, 0, 1⟩ : S41)] : List (S41))) 0 x1000 bt205.2.1 bt205.2.2) else (if bt205.1 = 1 then (spec_l9DrawMem.l2 k x3 (([(⟨4, 1, 0, 0, 8⟩ : S41), (⟨3, 1, 1, 0, 1⟩ : S41), (⟨5, 0, 0, 1, 8⟩ : S41), (⟨8, 0, 0, 0, 8⟩ : S41)] : List (S41))) 0 x1000 bt205.2.1 bt205.2.2) else (some (x3, bt205.2.1, bt205.2.2)))))
def spec_l9DrawMem.l1 : Nat → List Int → List (S41) → Int → List Int → Int → Int → Option (List Int × Int × Int)
 | 0, _, _, _, _, _, _ => none
 | k + 1, x3, x7, x8, x1000, x1001, x1002 => if x8 < (x7.length : Int) then (if 0 ≤ x8 then ((spec_Code.f ((rd_T41 x7 x8).f0) ((rd_T41 x7 x8).f1) ((rd_T41 x7 x8).f2) ((rd_T41 x7 x8).f3) ((rd_T41 x7 x8).f4)).bind fun bt212 => (if x8 < (x3.length : Int) then (spec_l9DrawMem.l1 k (x3.set (x8 : Int).toNat bt212.1) x7 (wrap64 (x8 + 1)) x1000 x1001 x1002) else (none))) else (none)) else (some (x3, x1001, x1002))
def spec_l9DrawMem.l2 : Nat → List Int → List (S41) → Int → List Int → Int → Int → Option (List Int × Int × Int)
 | 0, _, _, _, _, _, _ => none
 | k + 1, x3, x9, x10, x1000, x1001, x1002 => if x10 < (x9.length : Int) then (if 0 ≤ x10 then ((spec_Code.f ((rd_T41 x9 x10).f0) ((rd_T41 x9 x10).f1) ((rd_T41 x9 x10).f2) ((rd_T41 x9 x10).f3) ((rd_T41 x9 x10).f4)).bind fun bt219 => (if x10 < (x3.length : Int) then (spec_l9DrawMem.l2 k (x3.set (x10 : Int).toNat bt219.1) x9 (wrap64 (x10 + 1)) x1000 x1001 x1002) else (none))) else (none)) else (some (x3, x1001, x1002))
end
def spec_l9DrawMem.f (k : Nat) (s0_0 : List Int) (s0_1 : Int) (s0_2 : Int) : Option (List Int × Int × Int) := spec_l9DrawMem.l0 k (([] : List Int)) 0 s0_0 s0_1 s0_2
theorem spec_l9DrawMem.mono_l : ∀ k, (∀ y0 y1 y2 y3 y4, LeO (spec_l9DrawMem.l0 k y0 y1 y2 y3 y4) (spec_l9DrawMem.l0 (k + 1) y0 y1 y2 y3 y4)) ∧ (∀ y0 y1 y2 y3 y4 y5, LeO (spec_l9DrawMem.l1 k y0 y1 y2 y3 y4 y5) (spec_l9DrawMem.l1 (k + 1) y0 y1 y2 y3 y4 y5)) ∧ (∀ y0 y1 y2 y3 y4 y5, LeO (spec_l9DrawMem.l2 k y0 y1 y2 y3 y4 y5) (spec_l9DrawMem.l2 (k + 1) y0 y1 y2 y3 y4 y5))
 | 0 => ⟨fun _ _ _ _ _ r h => by simp [spec_l9DrawMem.l0] at h, fun _ _ _ _ _ _ r h => by simp [spec_l9DrawMem.l1] at h, fun _ _ _ _ _ _ r h => by simp [spec_l9DrawMem.l2] at h⟩
 | k + 1 => by
  obtain ⟨ih0, ih1, ih2⟩ := spec_l9DrawMem.mono_l k
  refine ⟨?_, ?_, ?_⟩
  ·intro y0 y1 y2 y3 y4
   unfold spec_l9DrawMem.l0
   repeat' first
   | (with_reducible exact ih0 _ _ _ _ _)
   | (with_reducible exact ih1 _ _ _ _ _ _)
   | (with_reducible exact ih2 _ _ _ _ _ _)
   | (with_reducible exact spec_l8DrawIns.mono _ _ _ _)
   | (with_reducible exact LeO.refl _)
   | (with_reducible exact LeO.none _)
   | (with_reducible refine LeO.ite ?_ ?_)
   | (with_reducible refine LeO.bind ?_ (fun _ => ?_))
   | exact ih0 _ _ _ _ _
   | exact ih1 _ _ _ _ _ _
   | exact ih2 _ _ _ _ _ _
   | exact spec_l8DrawIns.mono _ _ _ _
   | exact LeO.none _
   | refine LeO.ite ?_ ?_
   | refine LeO.bind ?_ (fun _ => ?_)
  ·intro y0 y1 y2 y3 y4 y5
   unfold spec_l9DrawMem.l1
   repeat' first
   | (with_reducible exact ih0 _ _ _ _ _)
   | (with_reducible exact ih1 _ _ _ _ _ _)
   | (with_reducible exact ih2 _ _ _ _ _ _)
   | (with_reducible exact spec_l8DrawIns.mono _ _ _ _)
   | (with_reducible exact LeO.refl _)
   | (with_reducible exact LeO.none _)
   | (with_reducible refine LeO.ite ?_ ?_)
   | (with_reducible refine LeO.bind ?_ (fun _ => ?_))
   | exact ih0 _ _ _ _ _
   | exact ih1 _ _ _ _ _ _
   | exact ih2 _ _ _ _ _ _
   | exact spec_l8DrawIns.mono _ _ _ _
   | exact LeO.none _
   | refine LeO.ite ?_ ?_
   | refine LeO.bind ?_ (fun _ => ?_)
  ·intro y0 y1 y2 y3 y4 y5
   unfold spec_l9DrawMem.l2
   repeat' first
   | (with_reducible exact ih0 _ _ _ _ _)
   | (with_reducible exact ih1 _ _ _ _ _ _)
   | (with_reducible exact ih2 _ _ _ _ _ _)
   | (with_reducible exact spec_l8DrawIns.mono _ _ _ _)
   | (with_reducible exact LeO.refl _)
   | (with_reducible exact LeO.none _)
   | (with_reducible refine LeO.ite ?_ ?_)
   | (with_reducible refine LeO.bind ?_ (fun _ => ?_))
   | exact ih0 _ _ _ _ _
   | exact ih1 _ _ _ _ _ _
   | exact ih2 _ _ _ _ _ _
   | exact spec_l8DrawIns.mono _ _ _ _
   | exact LeO.none _
   | refine LeO.ite ?_ ?_
   | refine LeO.bind ?_ (fun _ => ?_)
theorem spec_l9DrawMem.mono : ∀ a0 a1 a2 k, LeO (spec_l9DrawMem.f k a0 a1 a2) (spec_l9DrawMem.f (k + 1) a0 a1 a2) := by
 intro a0 a1 a2 k
 obtain ⟨ih0, ih1, ih2⟩ := spec_l9DrawMem.mono_l k
 unfold spec_l9DrawMem.f
 repeat' first
   | (with_reducible exact ih0 _ _ _ _ _)
   | (with_reducible exact ih1 _ _ _ _ _ _)
   | (with_reducible exact ih2 _ _ _ _ _ _)
   | (with_reducible exact spec_l8DrawIns.mono _ _ _ _)
   | (with_reducible exact LeO.refl _)
   | (with_reducible exact LeO.none _)
   | (with_reducible refine LeO.ite ?_ ?_)
   | (with_reducible refine LeO.bind ?_ (fun _ => ?_))
   | exact ih0 _ _ _ _ _
   | exact ih1 _ _ _ _ _ _
   | exact ih2 _ _ _ _ _ _
   | exact spec_l8DrawIns.mono _ _ _ _
   | exact LeO.none _
   | refine LeO.ite ?_ ?_
   | refine LeO.bind ?_ (fun _ => ?_)
set_option maxHeartbeats 8000000 in
set_option maxRecDepth 100000 in
theorem spec_l9DrawMem.calls (k : Nat) (g : Nat) (s0_0 : List Int) (s0_1 : Int) (s0_2 : Int) (r1 : List Int) (r2 : Int) (r3 : Int) (w0 w : World) (hI : IsS56 w0 w g s0_0 s0_1 s0_2) (hB : Below w0.heap.size w0 w) (h : spec_l9DrawMem.f k s0_0 s0_1 s0_2 = some (r1, r2, r3)) :
  Calls Try.prog 27 #[.pointer (some ⟨g, 0, none⟩)] w fun e w' => ∃ v0_ : Value, e = .returned (v0_) ∧ Kd.R (Kd.int .i64) 3 w' w.heap.size (fun _ => True) v0_ r1 ∧ IsS56 w0 w' g s0_0 r2 r3 ∧ Below w0.heap.size w0 w' ∧ KeepBut w w' g none := by
 have hu41 := Try.underlying41
 have HI0 := Aside0.mk hI
 have HK := Aside0.mk (KeepBut.refl w g none)
 have HL := Aside0.mk hB.size
 clear hI
 have HW0 := Aside0.mk hB.size
 have HB := Aside0.mk hB
 clear hB
 have H : (spec_l9DrawMem.l0 k (([] : List Int)) 0 s0_0 s0_1 s0_2) = some (r1, r2, r3) := h
 clear h
 obtain ⟨y169, hy169⟩ : ∃ y_ : List Int, y_ = (([] : List Int)) := ⟨_, rfl⟩
 replace H : (spec_l9DrawMem.l0 k y169 0 s0_0 s0_1 s0_2) = some (r1, r2, r3) := by first | (rw [hy169]; with_reducible exact H) | (have H2_ := (Option.bind_some _ _).symm.trans H; rw [hy169]; with_reducible exact H2_) | (have H2_ := (Option.bind_some _ _).symm.trans H; with_reducible exact H2_) | with_reducible exact H | (rw [hy169]; exact H) | exact H
 have Ny169 := Aside0.mk hy169
 clear hy169
 have H' := Aside0.mk H
 clear H
 go_enter Try.func27, Try.ntmps27
 go_wp2_with (first | ((with_reducible refine gate_dst (N := 11) rfl ?_); refine Kd.R_lit (Kd.int .i64) _ 3 ?hg (N := 11) ?hd (xs := ([] : List Int)) (inner := []) (ok := fun _ => True) (okp := fun _ => True) ?hr ?hp (fun _ hk => hk) trivial (Below.refl _ _) (Nat.le_refl _) (by simp) ?_; (case hd => rfl); (case hg => rfl); (case hr => first | (go_simp; done) | (go_simp; rfl)); (case hp => exact (Reps.none _ _)); intro v170 w2 ho3 hb hg_ hnew_; clear hg_ hnew_; (first | rw [← Ny169.out] at ho3 | (simp only [Int.reduceToNat] at ho3; rw [← Ny169.out] at ho3)); have n0_ := Aside0.mk (Kd.R_lower ho3 (keep_size (w := w) (g := g) (row := none) (zB3_2))); have n1_ := Aside0.mk (IsS56.below (zB3_0) hb); have n2_ := Aside0.mk (KeepBut.trans (zB3_2) (KeepBut.of_below hb g none) (.inl rfl)); have n3_ := Aside0.mk (below_step (zB3_1) hb); clear HI0; clear HK; clear HB; have HO171 := n0_; have HI0 := n1_; have HK := n2_; have HB := n3_; clear n0_ n1_ n2_ n3_; clear hb ho3))
 go_loopg [3, 4] k (fun kq v3 v4 w' => ∃ (x3_1 : List Int) (x4_1 : Int) (x1001_1 : Int) (x1002_1 : Int), v4 = .int .i64 x4_1 ∧ Aside0 (spec_l9DrawMem.l0 kq x3_1 x4_1 s0_0 x1001_1 x1002_1 = some (r1, r2, r3)) ∧ Aside0 (kq ≤ k) ∧ Aside0 (Kd.R (Kd.int .i64) 3 w' w.heap.size (fun _ => True) v3 x3_1) ∧ Aside0 (IsS56 w0 w' g s0_0 x1001_1 x1002_1) ∧ Aside0 (KeepBut w w' g none) ∧ Aside0 (Below w0.heap.size w0 w'))
 case atStart => exact ⟨(y169), (0), (s0_1), (s0_2), (by first | rfl | (simp; done) | (simp [*]; done)), H', ⟨Nat.le_refl _⟩, ⟨zR3 HO171.out⟩, ⟨zB3_0⟩, ⟨zB3_2⟩, ⟨zB3_1⟩⟩
 case round =>
  clear H'
  try clear c2
  try clear p2
  obtain ⟨x3_1, x4_1, x1001_1, x1002_1, rfl, HA, HK1, HO_3, HI0, HK, HB⟩ := hrel
  cases gk with
  | zero => exact absurd HA.out (by simp [spec_l9DrawMem.l0])
  | succ k1 =>
   have H := HA.out
   clear HA
   simp only [spec_l9DrawMem.l0] at H
   by_cases c4 : x4_1 < 24
   ·rw [if_pos c4] at H
    have c4b0 : decide (x4_1 < 24) = true := decide_eq_true c4
    clear c4
    replace H := Option.bind_eq_some_iff.mp H
    obtain ⟨⟨t172, t173, t174, t175, t176, t177, t178⟩, A50, H⟩ := H
    replace H : ((spec_Code.f t172 t173 t174 t175 t176).bind fun bt179 => (if x4_1 > 15 then ((spec_l1PickInt.f s0_0 t177 t178 (([0, 1, 5, 65535] : List Int))).bind fun bt184 => (if x3_1.length < 17592186044416 then (spec_l9DrawMem.l0 k1 (x3_1 ++ [bt184.1]) (wrap64 (x4_1 + 1)) s0_0 bt184.2.1 bt184.2.2) else (none))) else ((spec_l1Once.f s0_0 t177 t178 9).bind fun bt190 => (if bt190.1 = true then ((spec_l1PickInt.f s0_0 bt190.2.1 bt190.2.2 (([0, 1, 5, 65535] : List Int))).bind fun bt196 => (if x3_1.length < 17592186044416 then (spec_l9DrawMem.l0 k1 (x3_1 ++ [bt196.1]) (wrap64 (x4_1 + 1)) s0_0 bt196.2.1 bt196.2.2) else (none))) else (if x3_1.length < 17592186044416 then (spec_l9DrawMem.l0 k1 (x3_1 ++ [bt179.1]) (wrap64 (x4_1 + 1)) s0_0 bt190.2.1 bt190.2.2) else (none)))))) = some (r1, r2, r3) := H
    have A5 := Aside0.mk A50
    clear A50
    replace H := Option.bind_eq_some_iff.mp H
    obtain ⟨⟨t179, t180⟩, A60, H⟩ := H
    replace H : (if x4_1 > 15 then ((spec_l1PickInt.f s0_0 t177 t178 (([0, 1, 5, 65535] : List Int))).bind fun bt184 => (if x3_1.length < 17592186044416 then (spec_l9DrawMem.l0 k1 (x3_1 ++ [bt184.1]) (wrap64 (x4_1 + 1)) s0_0 bt184.2.1 bt184.2.2) else (none))) else ((spec_l1Once.f s0_0 t177 t178 9).bind fun bt190 => (if bt190.1 = true then ((spec_l1PickInt.f s0_0 bt190.2.1 bt190.2.2 (([0, 1, 5, 65535] : List Int))).bind fun bt196 => (if x3_1.length < 17592186044416 then (spec_l9DrawMem.l0 k1 (x3_1 ++ [bt196.1]) (wrap64 (x4_1 + 1)) s0_0 bt196.2.1 bt196.2.2) else (none))) else (if x3_1.length < 17592186044416 then (spec_l9DrawMem.l0 k1 (x3_1 ++ [t179]) (wrap64 (x4_1 + 1)) s0_0 bt190.2.1 bt190.2.2) else (none))))) = some (r1, r2, r3) := H
    have A6 := Aside0.mk A60
    clear A60
    by_cases c7 : x4_1 > 15
    ·rw [if_pos c7] at H
     have c7b0 : decide (15 < x4_1) = true := decide_eq_true c7
     clear c7
     obtain ⟨y181, hy181⟩ : ∃ y_ : List Int, y_ = (([0, 1, 5, 65535] : List Int)) := ⟨_, rfl⟩
     replace H : ((spec_l1PickInt.f s0_0 t177 t178 y181).bind fun bt184 => (if x3_1.length < 17592186044416 then (spec_l9DrawMem.l0 k1 (x3_1 ++ [bt184.1]) (wrap64 (x4_1 + 1)) s0_0 bt184.2.1 bt184.2.2) else (none))) = some (r1, r2, r3) := by first | (rw [hy181]; with_reducible exact H) | (have H2_ := (Option.bind_some _ _).symm.trans H; rw [hy181]; with_reducible exact H2_) | (have H2_ := (Option.bind_some _ _).symm.trans H; with_reducible exact H2_) | with_reducible exact H | (rw [hy181]; exact H) | exact H
     have Ny181 := Aside0.mk hy181
     clear hy181
     replace H := Option.bind_eq_some_iff.mp H
     obtain ⟨⟨t184, t185, t186⟩, A80, H⟩ := H
     replace H : (if x3_1.length < 17592186044416 then (spec_l9DrawMem.l0 k1 (x3_1 ++ [t184]) (wrap64 (x4_1 + 1)) s0_0 t185 t186) else (none)) = some (r1, r2, r3) := H
     have A8 := Aside0.mk A80
     clear A80
     by_cases c9 : x3_1.length < 17592186044416
     rotate_left
     ·rw [if_neg c9] at H
      exact absurd H (by simp)
     rw [if_pos c9] at H
     have LMc9 := Aside0.mk c9
     clear c9
     obtain ⟨y187, hy187⟩ : ∃ y_ : List Int, y_ = (x3_1 ++ [t184]) := ⟨_, rfl⟩
     replace H : (spec_l9DrawMem.l0 k1 y187 (wrap64 (x4_1 + 1)) s0_0 t185 t186) = some (r1, r2, r3) := by first | (rw [hy187]; with_reducible exact H) | (have H2_ := (Option.bind_some _ _).symm.trans H; rw [hy187]; with_reducible exact H2_) | (have H2_ := (Option.bind_some _ _).symm.trans H; with_reducible exact H2_) | with_reducible exact H | (rw [hy187]; exact H) | exact H
     have Ny187 := Aside0.mk hy187
     clear hy187
     have H' := Aside0.mk H
     clear H
     go_wp2_with (first | ((with_reducible refine gate_callee (f := 44) rfl ?_); refine goesL_ (some 18) rfl rfl Try.func44 (by kernel_rfl) rfl #[.pointer (some ⟨g, 0, none⟩)] rfl zT3 ?_; (with_reducible refine (spec_l8DrawIns.calls k1 g s0_0 x1001_1 x1002_1 t172 t173 t174 t175 t176 t177 t178 w0 _ ?side1 ?side2 A5.out).mono ?_); (case side1 => exact zB3_0); (case side2 => exact zB3_1); rintro e w10 ⟨rfl, hi, hb, hk⟩; refine ⟨_, rfl, ?_⟩; have n0_ := Aside0.mk (Kd.R_mono (Kd.R_keep (IsS56.apart (show IsS56 w0 _ g s0_0 x1001_1 x1002_1 from zB3_0) (zR3 HO_3.out) (by decide)) hk (fun _ h => h.2)) (fun _ h => h.1)); have n1_ := Aside0.mk (KeepBut.trans (zB3_2) hk (.inl rfl)); have n2_ := Aside0.mk (hb); have n3_ := Aside0.mk (hi); clear HO_3; clear HK; clear HB; clear HI0; have HO_3 := n0_; have HK := n1_; have HB := n2_; have HI0 := n3_; clear n0_ n1_ n2_ n3_; (try clear hb); (try clear hb2); (try clear hk); (try clear hi)) | ((with_reducible refine gate_callee (f := 43) rfl ?_); refine goesL_ (some 19) rfl rfl Try.func43 (by kernel_rfl) rfl #[.agg #[.int .i64 t172, .int .i64 t173, .int .i64 t174, .int .i64 t175, .int .i64 t176]] rfl zT3 ?_; (with_reducible refine (spec_Code.calls t172 t173 t174 t175 t176 t179 t180 _ A6.out).mono ?_); rintro e w11 ⟨rfl, hb⟩; refine ⟨_, rfl, ?_⟩; have n0_ := Aside0.mk (Kd.R_below (zR3 HO_3.out) hb); have n1_ := Aside0.mk (IsS56.below (zB3_0) hb); have n2_ := Aside0.mk (KeepBut.trans (zB3_2) (KeepBut.of_below hb g none) (.inl rfl)); have n3_ := Aside0.mk (below_step (zB3_1) hb); clear HO_3; clear HI0; clear HK; clear HB; have HO_3 := n0_; have HI0 := n1_; have HK := n2_; have HB := n3_; clear n0_ n1_ n2_ n3_; (try clear hb); (try clear hb2); (try clear hk); (try clear hi)) | ((with_reducible refine gate_dst (N := 29) rfl ?_); refine Kd.R_lit (Kd.int .i64) _ 3 ?hg (N := 29) ?hd (xs := ([0, 1, 5, 65535] : List Int)) (inner := [.int .i64 0, .int .i64 1, .int .i64 5, .int .i64 65535]) (ok := fun _ => True) (okp := fun _ => True) ?hr ?hp (fun _ hk => hk) trivial (Below.refl _ _) (Nat.le_refl _) (by simp) ?_; (case hd => rfl); (case hg => rfl); (case hr => first | (go_simp; done) | (go_simp; rfl)); (case hp => exact (Reps.one (show Kd.M (Kd.int .i64) _ _ _ 0 [.int .i64 0] from rfl) (Reps.one (show Kd.M (Kd.int .i64) _ _ _ 1 [.int .i64 1] from rfl) (Reps.one (show Kd.M (Kd.int .i64) _ _ _ 5 [.int .i64 5] from rfl) (Reps.one (show Kd.M (Kd.int .i64) _ _ _ 65535 [.int .i64 65535] from rfl) (Reps.none _ _)))))); intro v182 w12 ho13 hb hg_ hnew_; clear hg_ hnew_; (first | rw [← Ny181.out] at ho13 | (simp only [Int.reduceToNat] at ho13; rw [← Ny181.out] at ho13)); have n0_ := Aside0.mk (Kd.R_elder' (zR3 HO_3.out) (Kd.R_base ho13) hb); have n1_ := Aside0.mk (Kd.R_lower (Kd.R_new' ho13 (Kd.R_lt (zR3 HO_3.out))) (keep_size (w := w) (g := g) (row := none) (zB3_2))); have n2_ := Aside0.mk (IsS56.below (zB3_0) hb); have n3_ := Aside0.mk (KeepBut.trans (zB3_2) (KeepBut.of_below hb g none) (.inl rfl)); have n4_ := Aside0.mk (below_step (zB3_1) hb); clear HO_3; clear HI0; clear HK; clear HB; have HO_3 := n0_; have HO183 := n1_; have HI0 := n2_; have HK := n3_; have HB := n4_; clear n0_ n1_ n2_ n3_ n4_; clear hb ho13; obtain ⟨Ao14, co14, eo14⟩ := Kd.R_slice HO183.out; subst eo14) | ((with_reducible refine gate_callee (f := 46) rfl ?_); refine goesL_ (some 30) rfl rfl Try.func46 (by kernel_rfl) rfl #[.pointer (some ⟨g, 0, none⟩), .slice Ao14 y181.length co14] rfl zT3 ?_; (with_reducible refine (spec_l1PickInt.calls g s0_0 t177 t178 _ _ y181 t184 t185 t186 w0 _ ?side1 ?side2 ?side3 ?side4 ?side5 A8.out).mono ?_); (case side1 => exact zB3_0); (case side2 => exact zB3_1); (case side3 => exact zC3 (Kd.R_reads' HO183.out).2.2); (case side4 => exact (Kd.R_reads' HO183.out).2.1); (case side5 => exact far_slice (IsS56.own_ne HI0.out HO183.out (by decide))); rintro e w15 ⟨rfl, hi, hb, hk⟩; refine ⟨_, rfl, ?_⟩; have n0_ := Aside0.mk (Kd.R_mono (Kd.R_keep (IsS56.apart (show IsS56 w0 _ g s0_0 t177 t178 from zB3_0) (zR3 HO_3.out) (by decide)) hk (fun _ h => h.2)) (fun _ h => h.1)); have n1_ := Aside0.mk (Kd.R_mono (Kd.R_keep (IsS56.apart (show IsS56 w0 _ g s0_0 t177 t178 from zB3_0) (zR3 HO183.out) (by decide)) hk (fun _ h => h.2)) (fun _ h => h.1)); have n2_ := Aside0.mk (KeepBut.trans (zB3_2) hk (.inl rfl)); have n3_ := Aside0.mk (hb); have n4_ := Aside0.mk (hi); clear HO_3; clear HO183; clear HK; clear HB; clear HI0; have HO_3 := n0_; have HO183 := n1_; have HK := n2_; have HB := n3_; have HI0 := n4_; clear n0_ n1_ n2_ n3_ n4_; (try clear hb); (try clear hb2); (try clear hk); (try clear hi)) | ((with_reducible refine gate_builtin (b := .append) (xs := #[.tmp 31, .tmp 33]) rfl ?_); at_builtin; refine Kd.R_append (Kd.int .i64) w.heap.size rfl (.tmp 31) (.tmp 33) 24 3 (.int .i64 0) 8 rfl Try.underlying24 info3 rfl (by decide) (by omega) u3 x3_1 t184 [.int .i64 t184] (fun k_ => some k_ ≠ (.slice Ao14 y181.length co14 : Value).ownBlock) (fun _ => False) rfl rfl ?aP (fun _ hk => hk.elim) ?aF ?aO (Below.refl _ _) ?aS ?aL ?_; (case aP => exact rfl); (case aF => exact (fun k_ hk => Kd.fresh' (Kd.R_lt (zR3 HO183.out)) k_ hk)); (case aO => exact (by (with_reducible repeat (first | apply Kd.R_alloc | apply Kd.R_drewN | apply Kd.R_drew)); exact Kd.R_mono HO_3.out (fun _ hk => hk.2))); (case aS => exact (keep_size (w := w) (g := g) (row := none) (zB3_2))); (case aL => have := LMc9.out; omega); intro v188 w16 ho hb hg hat; rw [← Ny187.out] at ho; have n0_ := Aside0.mk (IsS56.grown (show IsS56 w0 _ g s0_0 t185 t186 from zB3_0) hg (IsS56.own_ne HI0.out HO_3.out (by decide))); have n1_ := Aside0.mk (Kd.R_after (ok := (fun _ => True)) (zR3 HO183.out) hg hat); have n2_ := Aside0.mk (below_weaken (zB3_1) HL.out hb); have n3_ := Aside0.mk (KeepBut.trans (zB3_2) (KeepBut.of_grown hg g) (Kd.R_base2 HO_3.out)); have n4_ := Aside0.mk (ho); clear HI0; clear HO183; clear HB; clear HK; clear HO_3; have HI0 := n0_; have HO183 := n1_; have HB := n2_; have HK := n3_; have HO189 := n4_; clear n0_ n1_ n2_ n3_ n4_; clear ho hb hg hat))
     go_roundg k1
     case measure => have := HK1.out; omega
     case rel => exact ⟨(y187), (wrap64 (x4_1 + 1)), (t185), (t186), (by first | rfl | (simp; done) | (simp [*]; done)), H', ⟨by have := HK1.out; omega⟩, ⟨by (with_reducible repeat (first | apply Kd.R_alloc | apply Kd.R_drewN | apply Kd.R_drew)); exact Kd.R_mono HO189.out (fun _ hk => trivial)⟩, ⟨zB3_0⟩, ⟨zB3_2⟩, ⟨zB3_1⟩⟩
    rw [if_neg c7] at H
    have c7b0 : decide (15 < x4_1) = false := decide_eq_false c7
    clear c7
    replace H := Option.bind_eq_some_iff.mp H
    obtain ⟨⟨t190, t191, t192⟩, A170, H⟩ := H
    replace H : (if t190 = true then ((spec_l1PickInt.f s0_0 t191 t192 (([0, 1, 5, 65535] : List Int))).bind fun bt196 => (if x3_1.length < 17592186044416 then (spec_l9DrawMem.l0 k1 (x3_1 ++ [bt196.1]) (wrap64 (x4_1 + 1)) s0_0 bt196.2.1 bt196.2.2) else (none))) else (if x3_1.length < 17592186044416 then (spec_l9DrawMem.l0 k1 (x3_1 ++ [t179]) (wrap64 (x4_1 + 1)) s0_0 t191 t192) else (none))) = some (r1, r2, r3) := H
    have A17 := Aside0.mk A170
    clear A170
    by_cases c18 : t190 = true
    rotate_left
    ·replace c18 := Bool.eq_false_iff.mpr c18
     subst c18
     have H1 : (if x3_1.length < 17592186044416 then (spec_l9DrawMem.l0 k1 (x3_1 ++ [t179]) (wrap64 (x4_1 + 1)) s0_0 t191 t192) else (none)) = some (r1, r2, r3) := by rw [if_neg (show ¬ (false = true) by decide)] at H; exact H
     clear H
     have H := H1
     clear H1
     by_cases c29 : x3_1.length < 17592186044416
     rotate_left
     ·rw [if_neg c29] at H
      exact absurd H (by simp)
     rw [if_pos c29] at H
     have LMc29 := Aside0.mk c29
     clear c29
     obtain ⟨y202, hy202⟩ : ∃ y_ : List Int, y_ = (x3_1 ++ [t179]) := ⟨_, rfl⟩
     replace H : (spec_l9DrawMem.l0 k1 y202 (wrap64 (x4_1 + 1)) s0_0 t191 t192) = some (r1, r2, r3) := by first | (rw [hy202]; with_reducible exact H) | (have H2_ := (Option.bind_some _ _).symm.trans H; rw [hy202]; with_reducible exact H2_) | (have H2_ := (Option.bind_some _ _).symm.trans H; with_reducible exact H2_) | with_reducible exact H | (rw [hy202]; exact H) | exact H
     have Ny202 := Aside0.mk hy202
     clear hy202
     have H' := Aside0.mk H
     clear H
     go_wp2_with (first | ((with_reducible refine gate_callee (f := 44) rfl ?_); refine goesL_ (some 18) rfl rfl Try.func44 (by kernel_rfl) rfl #[.pointer (some ⟨g, 0, none⟩)] rfl zT3 ?_; (with_reducible refine (spec_l8DrawIns.calls k1 g s0_0 x1001_1 x1002_1 t172 t173 t174 t175 t176 t177 t178 w0 _ ?side1 ?side2 A5.out).mono ?_); (case side1 => exact zB3_0); (case side2 => exact zB3_1); rintro e w30 ⟨rfl, hi, hb, hk⟩; refine ⟨_, rfl, ?_⟩; have n0_ := Aside0.mk (Kd.R_mono (Kd.R_keep (IsS56.apart (show IsS56 w0 _ g s0_0 x1001_1 x1002_1 from zB3_0) (zR3 HO_3.out) (by decide)) hk (fun _ h => h.2)) (fun _ h => h.1)); have n1_ := Aside0.mk (KeepBut.trans (zB3_2) hk (.inl rfl)); have n2_ := Aside0.mk (hb); have n3_ := Aside0.mk (hi); clear HO_3; clear HK; clear HB; clear HI0; have HO_3 := n0_; have HK := n1_; have HB := n2_; have HI0 := n3_; clear n0_ n1_ n2_ n3_; (try clear hb); (try clear hb2); (try clear hk); (try clear hi)) | ((with_reducible refine gate_callee (f := 43) rfl ?_); refine goesL_ (some 19) rfl rfl Try.func43 (by kernel_rfl) rfl #[.agg #[.int .i64 t172, .int .i64 t173, .int .i64 t174, .int .i64 t175, .int .i64 t176]] rfl zT3 ?_; (with_reducible refine (spec_Code.calls t172 t173 t174 t175 t176 t179 t180 _ A6.out).mono ?_); rintro e w31 ⟨rfl, hb⟩; refine ⟨_, rfl, ?_⟩; have n0_ := Aside0.mk (Kd.R_below (zR3 HO_3.out) hb); have n1_ := Aside0.mk (IsS56.below (zB3_0) hb); have n2_ := Aside0.mk (KeepBut.trans (zB3_2) (KeepBut.of_below hb g none) (.inl rfl)); have n3_ := Aside0.mk (below_step (zB3_1) hb); clear HO_3; clear HI0; clear HK; clear HB; have HO_3 := n0_; have HI0 := n1_; have HK := n2_; have HB := n3_; clear n0_ n1_ n2_ n3_; (try clear hb); (try clear hb2); (try clear hk); (try clear hi)) | (go_at_call 45; (with_reducible refine (spec_l1Once.calls g s0_0 t177 t178 9 false t191 t192 w0 _ ?side1 ?side2 A17.out).mono ?_); (case side1 => exact zB3_0); (case side2 => exact zB3_1); rintro e w32 ⟨rfl, hi, hb, hk⟩; have n0_ := Aside0.mk (Kd.R_mono (Kd.R_keep (IsS56.apart (show IsS56 w0 _ g s0_0 t177 t178 from zB3_0) (zR3 HO_3.out) (by decide)) hk (fun _ h => h.2)) (fun _ h => h.1)); have n1_ := Aside0.mk (KeepBut.trans (zB3_2) hk (.inl rfl)); have n2_ := Aside0.mk (hb); have n3_ := Aside0.mk (hi); clear HO_3; clear HK; clear HB; clear HI0; have HO_3 := n0_; have HK := n1_; have HB := n2_; have HI0 := n3_; clear n0_ n1_ n2_ n3_; (try clear hb); (try clear hb2); (try clear hk); (try clear hi)) | ((with_reducible refine gate_builtin (b := .append) (xs := #[.tmp 31, .tmp 33]) rfl ?_); at_builtin; refine Kd.R_append (Kd.int .i64) w.heap.size rfl (.tmp 31) (.tmp 33) 24 3 (.int .i64 0) 8 rfl Try.underlying24 info3 rfl (by decide) (by omega) u3 x3_1 t179 [.int .i64 t179] (fun _ => True) (fun _ => False) rfl rfl ?aP (fun _ hk => hk.elim) ?aF ?aO (Below.refl _ _) ?aS ?aL ?_; (case aP => exact rfl); (case aF => exact (fun _ _ => trivial)); (case aO => exact (zR3 HO_3.out)); (case aS => exact (keep_size (w := w) (g := g) (row := none) (zB3_2))); (case aL => have := LMc29.out; omega); intro v203 w33 ho hb hg hat; rw [← Ny202.out] at ho; have n0_ := Aside0.mk (IsS56.grown (show IsS56 w0 _ g s0_0 t191 t192 from zB3_0) hg (IsS56.own_ne HI0.out HO_3.out (by decide))); have n1_ := Aside0.mk (below_weaken (zB3_1) HL.out hb); have n2_ := Aside0.mk (KeepBut.trans (zB3_2) (KeepBut.of_grown hg g) (Kd.R_base2 HO_3.out)); have n3_ := Aside0.mk (ho); clear HI0; clear HB; clear HK; clear HO_3; have HI0 := n0_; have HB := n1_; have HK := n2_; have HO204 := n3_; clear n0_ n1_ n2_ n3_; clear ho hb hg hat))
     go_roundg k1
     case measure => have := HK1.out; omega
     case rel => exact ⟨(y202), (wrap64 (x4_1 + 1)), (t191), (t192), (by first | rfl | (simp; done) | (simp [*]; done)), H', ⟨by have := HK1.out; omega⟩, ⟨zR3 HO204.out⟩, ⟨zB3_0⟩, ⟨zB3_2⟩, ⟨zB3_1⟩⟩
    subst c18
    have H1 : ((spec_l1PickInt.f s0_0 t191 t192 (([0, 1, 5, 65535] : List Int))).bind fun bt196 => (if x3_1.length < 17592186044416 then (spec_l9DrawMem.l0 k1 (x3_1 ++ [bt196.1]) (wrap64 (x4_1 + 1)) s0_0 bt196.2.1 bt196.2.2) else (none))) = some (r1, r2, r3) := by rw [if_pos rfl] at H; exact H
    clear H
    have H := H1
    clear H1
    obtain ⟨y193, hy193⟩ : ∃ y_ : List Int, y_ = (([0, 1, 5, 65535] : List Int)) := ⟨_, rfl⟩
    replace H : ((spec_l1PickInt.f s0_0 t191 t192 y193).bind fun bt196 => (if x3_1.length < 17592186044416 then (spec_l9DrawMem.l0 k1 (x3_1 ++ [bt196.1]) (wrap64 (x4_1 + 1)) s0_0 bt196.2.1 bt196.2.2) else (none))) = some (r1, r2, r3) := by first | (rw [hy193]; with_reducible exact H) | (have H2_ := (Option.bind_some _ _).symm.trans H; rw [hy193]; with_reducible exact H2_) | (have H2_ := (Option.bind_some _ _).symm.trans H; with_reducible exact H2_) | with_reducible exact H | (rw [hy193]; exact H) | exact H
    have Ny193 := Aside0.mk hy193
    clear hy193
    replace H := Option.bind_eq_some_iff.mp H
    obtain ⟨⟨t196, t197, t198⟩, A190, H⟩ := H
    replace H : (if x3_1.length < 17592186044416 then (spec_l9DrawMem.l0 k1 (x3_1 ++ [t196]) (wrap64 (x4_1 + 1)) s0_0 t197 t198) else (none)) = some (r1, r2, r3) := H
    have A19 := Aside0.mk A190
    clear A190
    by_cases c20 : x3_1.length < 17592186044416
    rotate_left
    ·rw [if_neg c20] at H
     exact absurd H (by simp)
    rw [if_pos c20] at H
    have LMc20 := Aside0.mk c20
    clear c20
    obtain ⟨y199, hy199⟩ : ∃ y_ : List Int, y_ = (x3_1 ++ [t196]) := ⟨_, rfl⟩
    replace H : (spec_l9DrawMem.l0 k1 y199 (wrap64 (x4_1 + 1)) s0_0 t197 t198) = some (r1, r2, r3) := by first | (rw [hy199]; with_reducible exact H) | (have H2_ := (Option.bind_some _ _).symm.trans H; rw [hy199]; with_reducible exact H2_) | (have H2_ := (Option.bind_some _ _).symm.trans H; with_reducible exact H2_) | with_reducible exact H | (rw [hy199]; exact H) | exact H
    have Ny199 := Aside0.mk hy199
    clear hy199
    have H' := Aside0.mk H
    clear H
    go_wp2_with (first | ((with_reducible refine gate_callee (f := 44) rfl ?_); refine goesL_ (some 18) rfl rfl Try.func44 (by kernel_rfl) rfl #[.pointer (some ⟨g, 0, none⟩)] rfl zT3 ?_; (with_reducible refine (spec_l8DrawIns.calls k1 g s0_0 x1001_1 x1002_1 t172 t173 t174 t175 t176 t177 t178 w0 _ ?side1 ?side2 A5.out).mono ?_); (case side1 => exact zB3_0); (case side2 => exact zB3_1); rintro e w21 ⟨rfl, hi, hb, hk⟩; refine ⟨_, rfl, ?_⟩; have n0_ := Aside0.mk (Kd.R_mono (Kd.R_keep (IsS56.apart (show IsS56 w0 _ g s0_0 x1001_1 x1002_1 from zB3_0) (zR3 HO_3.out) (by decide)) hk (fun _ h => h.2)) (fun _ h => h.1)); have n1_ := Aside0.mk (KeepBut.trans (zB3_2) hk (.inl rfl)); have n2_ := Aside0.mk (hb); have n3_ := Aside0.mk (hi); clear HO_3; clear HK; clear HB; clear HI0; have HO_3 := n0_; have HK := n1_; have HB := n2_; have HI0 := n3_; clear n0_ n1_ n2_ n3_; (try clear hb); (try clear hb2); (try clear hk); (try clear hi)) | ((with_reducible refine gate_callee (f := 43) rfl ?_); refine goesL_ (some 19) rfl rfl Try.func43 (by kernel_rfl) rfl #[.agg #[.int .i64 t172, .int .i64 t173, .int .i64 t174, .int .i64 t175, .int .i64 t176]] rfl zT3 ?_; (with_reducible refine (spec_Code.calls t172 t173 t174 t175 t176 t179 t180 _ A6.out).mono ?_); rintro e w22 ⟨rfl, hb⟩; refine ⟨_, rfl, ?_⟩; have n0_ := Aside0.mk (Kd.R_below (zR3 HO_3.out) hb); have n1_ := Aside0.mk (IsS56.below (zB3_0) hb); have n2_ := Aside0.mk (KeepBut.trans (zB3_2) (KeepBut.of_below hb g none) (.inl rfl)); have n3_ := Aside0.mk (below_step (zB3_1) hb); clear HO_3; clear HI0; clear HK; clear HB; have HO_3 := n0_; have HI0 := n1_; have HK := n2_; have HB := n3_; clear n0_ n1_ n2_ n3_; (try clear hb); (try clear hb2); (try clear hk); (try clear hi)) | (go_at_call 45; (with_reducible refine (spec_l1Once.calls g s0_0 t177 t178 9 true t191 t192 w0 _ ?side1 ?side2 A17.out).mono ?_); (case side1 => exact zB3_0); (case side2 => exact zB3_1); rintro e w23 ⟨rfl, hi, hb, hk⟩; have n0_ := Aside0.mk (Kd.R_mono (Kd.R_keep (IsS56.apart (show IsS56 w0 _ g s0_0 t177 t178 from zB3_0) (zR3 HO_3.out) (by decide)) hk (fun _ h => h.2)) (fun _ h => h.1)); have n1_ := Aside0.mk (KeepBut.trans (zB3_2) hk (.inl rfl)); have n2_ := Aside0.mk (hb); have n3_ := Aside0.mk (hi); clear HO_3; clear HK; clear HB; clear HI0; have HO_3 := n0_; have HK := n1_; have HB := n2_; have HI0 := n3_; clear n0_ n1_ n2_ n3_; (try clear hb); (try clear hb2); (try clear hk); (try clear hi)) | ((with_reducible refine gate_dst (N := 29) rfl ?_); refine Kd.R_lit (Kd.int .i64) _ 3 ?hg (N := 29) ?hd (xs := ([0, 1, 5, 65535] : List Int)) (inner := [.int .i64 0, .int .i64 1, .int .i64 5, .int .i64 65535]) (ok := fun _ => True) (okp := fun _ => True) ?hr ?hp (fun _ hk => hk) trivial (Below.refl _ _) (Nat.le_refl _) (by simp) ?_; (case hd => rfl); (case hg => rfl); (case hr => first | (go_simp; done) | (go_simp; rfl)); (case hp => exact (Reps.one (show Kd.M (Kd.int .i64) _ _ _ 0 [.int .i64 0] from rfl) (Reps.one (show Kd.M (Kd.int .i64) _ _ _ 1 [.int .i64 1] from rfl) (Reps.one (show Kd.M (Kd.int .i64) _ _ _ 5 [.int .i64 5] from rfl) (Reps.one (show Kd.M (Kd.int .i64) _ _ _ 65535 [.int .i64 65535] from rfl) (Reps.none _ _)))))); intro v194 w24 ho25 hb hg_ hnew_; clear hg_ hnew_; (first | rw [← Ny193.out] at ho25 | (simp only [Int.reduceToNat] at ho25; rw [← Ny193.out] at ho25)); have n0_ := Aside0.mk (Kd.R_elder' (zR3 HO_3.out) (Kd.R_base ho25) hb); have n1_ := Aside0.mk (Kd.R_lower (Kd.R_new' ho25 (Kd.R_lt (zR3 HO_3.out))) (keep_size (w := w) (g := g) (row := none) (zB3_2))); have n2_ := Aside0.mk (IsS56.below (zB3_0) hb); have n3_ := Aside0.mk (KeepBut.trans (zB3_2) (KeepBut.of_below hb g none) (.inl rfl)); have n4_ := Aside0.mk (below_step (zB3_1) hb); clear HO_3; clear HI0; clear HK; clear HB; have HO_3 := n0_; have HO195 := n1_; have HI0 := n2_; have HK := n3_; have HB := n4_; clear n0_ n1_ n2_ n3_ n4_; clear hb ho25; obtain ⟨Ao26, co26, eo26⟩ := Kd.R_slice HO195.out; subst eo26) | ((with_reducible refine gate_callee (f := 46) rfl ?_); refine goesL_ (some 30) rfl rfl Try.func46 (by kernel_rfl) rfl #[.pointer (some ⟨g, 0, none⟩), .slice Ao26 y193.length co26] rfl zT3 ?_; (with_reducible refine (spec_l1PickInt.calls g s0_0 t191 t192 _ _ y193 t196 t197 t198 w0 _ ?side1 ?side2 ?side3 ?side4 ?side5 A19.out).mono ?_); (case side1 => exact zB3_0); (case side2 => exact zB3_1); (case side3 => exact zC3 (Kd.R_reads' HO195.out).2.2); (case side4 => exact (Kd.R_reads' HO195.out).2.1); (case side5 => exact far_slice (IsS56.own_ne HI0.out HO195.out (by decide))); rintro e w27 ⟨rfl, hi, hb, hk⟩; refine ⟨_, rfl, ?_⟩; have n0_ := Aside0.mk (Kd.R_mono (Kd.R_keep (IsS56.apart (show IsS56 w0 _ g s0_0 t191 t192 from zB3_0) (zR3 HO_3.out) (by decide)) hk (fun _ h => h.2)) (fun _ h => h.1)); have n1_ := Aside0.mk (Kd.R_mono (Kd.R_keep (IsS56.apart (show IsS56 w0 _ g s0_0 t191 t192 from zB3_0) (zR3 HO195.out) (by decide)) hk (fun _ h => h.2)) (fun _ h => h.1)); have n2_ := Aside0.mk (KeepBut.trans (zB3_2) hk (.inl rfl)); have n3_ := Aside0.mk (hb); have n4_ := Aside0.mk (hi); clear HO_3; clear HO195; clear HK; clear HB; clear HI0; have HO_3 := n0_; have HO195 := n1_; have HK := n2_; have HB := n3_; have HI0 := n4_; clear n0_ n1_ n2_ n3_ n4_; (try clear hb); (try clear hb2); (try clear hk); (try clear hi)) | ((with_reducible refine gate_builtin (b := .append) (xs := #[.tmp 31, .tmp 33]) rfl ?_); at_builtin; refine Kd.R_append (Kd.int .i64) w.heap.size rfl (.tmp 31) (.tmp 33) 24 3 (.int .i64 0) 8 rfl Try.underlying24 info3 rfl (by decide) (by omega) u3 x3_1 t196 [.int .i64 t196] (fun k_ => some k_ ≠ (.slice Ao26 y193.length co26 : Value).ownBlock) (fun _ => False) rfl rfl ?aP (fun _ hk => hk.elim) ?aF ?aO (Below.refl _ _) ?aS ?aL ?_; (case aP => exact rfl); (case aF => exact (fun k_ hk => Kd.fresh' (Kd.R_lt (zR3 HO195.out)) k_ hk)); (case aO => exact (by (with_reducible repeat (first | apply Kd.R_alloc | apply Kd.R_drewN | apply Kd.R_drew)); exact Kd.R_mono HO_3.out (fun _ hk => hk.2))); (case aS => exact (keep_size (w := w) (g := g) (row := none) (zB3_2))); (case aL => have := LMc20.out; omega); intro v200 w28 ho hb hg hat; rw [← Ny199.out] at ho; have n0_ := Aside0.mk (IsS56.grown (show IsS56 w0 _ g s0_0 t197 t198 from zB3_0) hg (IsS56.own_ne HI0.out HO_3.out (by decide))); have n1_ := Aside0.mk (Kd.R_after (ok := (fun _ => True)) (zR3 HO195.out) hg hat); have n2_ := Aside0.mk (below_weaken (zB3_1) HL.out hb); have n3_ := Aside0.mk (KeepBut.trans (zB3_2) (KeepBut.of_grown hg g) (Kd.R_base2 HO_3.out)); have n4_ := Aside0.mk (ho); clear HI0; clear HO195; clear HB; clear HK; clear HO_3; have HI0 := n0_; have HO195 := n1_; have HB := n2_; have HK := n3_; have HO201 := n4_; clear n0_ n1_ n2_ n3_ n4_; clear ho hb hg hat))
    go_roundg k1
    case measure => have := HK1.out; omega
    case rel => exact ⟨(y199), (wrap64 (x4_1 + 1)), (t197), (t198), (by first | rfl | (simp; done) | (simp [*]; done)), H', ⟨by have := HK1.out; omega⟩, ⟨by (with_reducible repeat (first | apply Kd.R_alloc | apply Kd.R_drewN | apply Kd.R_drew)); exact Kd.R_mono HO201.out (fun _ hk => trivial)⟩, ⟨zB3_0⟩, ⟨zB3_2⟩, ⟨zB3_1⟩⟩
   rw [if_neg c4] at H
   have c4b0 : decide (x4_1 < 24) = false := decide_eq_false c4
   clear c4
   replace H := Option.bind_eq_some_iff.mp H
   obtain ⟨⟨t205, t206, t207⟩, A340, H⟩ := H
   replace H : (if t205 = 0 then (spec_l9DrawMem.l1 k1 x3_1 (([(⟨1, 1, 0, 0, 1⟩ : S41), (⟨6, 2, 0, 1, 20⟩ : S41), (⟨10, 3, 2, 1, 0⟩ : S41), (⟨8, 0, 0, 0, 1⟩ : S41)] : List (S41))) 0 s0_0 t206 t207) else (if t205 = 1 then (spec_l9DrawMem.l2 k1 x3_1 (([(⟨4, 1, 0, 0, 8⟩ : S41), (⟨3, 1, 1, 0, 1⟩ : S41), (⟨5, 0, 0, 1, 8⟩ : S41), (⟨8, 0, 0, 0, 8⟩ : S41)] : List (S41))) 0 s0_0 t206 t207) else (some (x3_1, t206, t207)))) = some (r1, r2, r3) := H
   have A34 := Aside0.mk A340
   clear A340
   by_cases c35 : t205 = 0
   ·rw [if_pos c35] at H
    have c35b0 : (t205 == 0) = true := beq_iff_eq.mpr c35
    have c35b1 : (t205 != 0) = false := bne_eq_false_iff_eq.mpr c35
    clear c35
    obtain ⟨y208, hy208⟩ : ∃ y_ : List (S41), y_ = (([(⟨1, 1, 0, 0, 1⟩ : S41), (⟨6, 2, 0, 1, 20⟩ : S41), (⟨10, 3, 2, 1, 0⟩ : S41), (⟨8, 0, 0, 0, 1⟩ : S41)] : List (S41))) := ⟨_, rfl⟩
    replace H : (spec_l9DrawMem.l1 k1 x3_1 y208 0 s0_0 t206 t207) = some (r1, r2, r3) := by first | (rw [hy208]; with_reducible exact H) | (have H2_ := (Option.bind_some _ _).symm.trans H; rw [hy208]; with_reducible exact H2_) | (have H2_ := (Option.bind_some _ _).symm.trans H; with_reducible exact H2_) | with_reducible exact H | (rw [hy208]; exact H) | exact H
    have Ny208 := Aside0.mk hy208
    clear hy208
    have H' := Aside0.mk H
    clear H
    go_wp2_with (first | ((with_reducible refine gate_callee (f := 28) rfl ?_); refine goesL_ (some 36) rfl rfl Try.func28 (by kernel_rfl) rfl #[.pointer (some ⟨g, 0, none⟩), .int .i64 4] rfl zT3 ?_; (with_reducible refine (spec_l1Below.calls g s0_0 x1001_1 x1002_1 4 t205 t206 t207 w0 _ ?side1 ?side2 A34.out).mono ?_); (case side1 => exact zB3_0); (case side2 => exact zB3_1); rintro e w36 ⟨rfl, hi, hb, hk⟩; refine ⟨_, rfl, ?_⟩; have n0_ := Aside0.mk (Kd.R_mono (Kd.R_keep (IsS56.apart (show IsS56 w0 _ g s0_0 x1001_1 x1002_1 from zB3_0) (zR3 HO_3.out) (by decide)) hk (fun _ h => h.2)) (fun _ h => h.1)); have n1_ := Aside0.mk (KeepBut.trans (zB3_2) hk (.inl rfl)); have n2_ := Aside0.mk (hb); have n3_ := Aside0.mk (hi); clear HO_3; clear HK; clear HB; clear HI0; have HO_3 := n0_; have HK := n1_; have HB := n2_; have HI0 := n3_; clear n0_ n1_ n2_ n3_; (try clear hb); (try clear hb2); (try clear hk); (try clear hi)) | ((with_reducible refine gate_dst (N := 43) rfl ?_); refine Kd.R_lit k41 _ 41 ?hg (N := 43) ?hd (xs := ([(⟨1, 1, 0, 0, 1⟩ : S41), (⟨6, 2, 0, 1, 20⟩ : S41), (⟨10, 3, 2, 1, 0⟩ : S41), (⟨8, 0, 0, 0, 1⟩ : S41)] : List (S41))) (inner := [.int .i64 1, .int .i64 1, .int .i64 0, .int .i64 0, .int .i64 1, .int .i64 6, .int .i64 2, .int .i64 0, .int .i64 1, .int .i64 20, .int .i64 10, .int .i64 3, .int .i64 2, .int .i64 1, .int .i64 0, .int .i64 8, .int .i64 0, .int .i64 0, .int .i64 0, .int .i64 1]) (ok := fun _ => True) (okp := fun _ => True) ?hr ?hp (fun _ hk => hk) trivial (Below.refl _ _) (Nat.le_refl _) (by simp) ?_; (case hd => rfl); (case hg => rfl); (case hr => first | (go_simp; done) | (go_simp; rfl)); (case hp => exact (Reps.c5 (show Kd.M k41 _ _ _ (⟨1, 1, 0, 0, 1⟩ : S41) [.int .i64 1, .int .i64 1, .int .i64 0, .int .i64 0, .int .i64 1] from (k41_mkM _ _ _ (⟨1, 1, 0, 0, 1⟩ : S41) )) (Reps.c5 (show Kd.M k41 _ _ _ (⟨6, 2, 0, 1, 20⟩ : S41) [.int .i64 6, .int .i64 2, .int .i64 0, .int .i64 1, .int .i64 20] from (k41_mkM _ _ _ (⟨6, 2, 0, 1, 20⟩ : S41) )) (Reps.c5 (show Kd.M k41 _ _ _ (⟨10, 3, 2, 1, 0⟩ : S41) [.int .i64 10, .int .i64 3, .int .i64 2, .int .i64 1, .int .i64 0] from (k41_mkM _ _ _ (⟨10, 3, 2, 1, 0⟩ : S41) )) (Reps.c5 (show Kd.M k41 _ _ _ (⟨8, 0, 0, 0, 1⟩ : S41) [.int .i64 8, .int .i64 0, .int .i64 0, .int .i64 0, .int .i64 1] from (k41_mkM _ _ _ (⟨8, 0, 0, 0, 1⟩ : S41) )) (Reps.none _ _)))))); intro v209 w37 ho38 hb hg_ hnew_; clear hg_ hnew_; (first | rw [← Ny208.out] at ho38 | (simp only [Int.reduceToNat] at ho38; rw [← Ny208.out] at ho38)); have n0_ := Aside0.mk (Kd.R_below (zR3 HO_3.out) hb); have n1_ := Aside0.mk (Kd.R_lower ho38 (keep_size (w := w) (g := g) (row := none) (zB3_2))); have n2_ := Aside0.mk (IsS56.below (zB3_0) hb); have n3_ := Aside0.mk (KeepBut.trans (zB3_2) (KeepBut.of_below hb g none) (.inl rfl)); have n4_ := Aside0.mk (below_step (zB3_1) hb); clear HO_3; clear HI0; clear HK; clear HB; have HO_3 := n0_; have HO210 := n1_; have HI0 := n2_; have HK := n3_; have HB := n4_; clear n0_ n1_ n2_ n3_ n4_; clear hb ho38))
    go_loopg [8] k1 (fun kq v8 w' => ∃ (x3_2 : List Int) (x8_2 : Int), v8 = .int .i64 x8_2 ∧ Aside0 (spec_l9DrawMem.l1 kq x3_2 y208 x8_2 s0_0 t206 t207 = some (r1, r2, r3)) ∧ Aside0 (kq ≤ k1) ∧ Aside0 (Kd.R (Kd.int .i64) 3 w' w.heap.size (fun _ => True) u3 x3_2) ∧ Aside0 (Kd.R k41 41 w' w.heap.size (fun _ => True) v209 y208) ∧ Aside0 (IsS56 w0 w' g s0_0 t206 t207) ∧ Aside0 (KeepBut w w' g none) ∧ Aside0 (Below w0.heap.size w0 w'))
    case atStart => exact ⟨(x3_1), (0), (by first | rfl | (simp; done) | (simp [*]; done)), H', ⟨Nat.le_refl _⟩, ⟨zR3 HO_3.out⟩, ⟨zR3 HO210.out⟩, ⟨zB3_0⟩, ⟨zB3_2⟩, ⟨zB3_1⟩⟩
    case round =>
     clear H'
     try clear c1
     try clear c2
     try clear p2
     try clear c3
     try clear c4
     try clear c4b0
     try clear c5
     try clear p6
     try clear c7
     try clear c7b0
     try clear c9
     try clear c18
     try clear c20
     try clear c27
     try clear c28
     try clear c29
     try clear c35
     try clear c35b0
     try clear c35b1
     try clear p2
     obtain ⟨x3_2, x8_2, rfl, HA, HK2, HO_3, HO_7, HI0, HK, HB⟩ := hrel
     cases gk with
     | zero => exact absurd HA.out (by simp [spec_l9DrawMem.l1])
     | succ k2 =>
      have H := HA.out
      clear HA
      simp only [spec_l9DrawMem.l1] at H
      by_cases c39 : x8_2 < (y208.length : Int)
      rotate_left
      ·rw [if_neg c39] at H
       have c39b0 : decide (x8_2 < (y208.length : Int)) = false := decide_eq_false c39
       clear c39
       simp only [Option.some.injEq, Prod.mk.injEq] at H
       obtain ⟨rfl, rfl, rfl⟩ := H
       obtain ⟨Ao48, co48, eo48⟩ := Kd.R_slice HO_7.out
       subst eo48
       go_wp2
       go_ret
       exact ⟨_, zE3, zR3 HO_3.out, zB3_0, zB3_1, zB3_2⟩
      rw [if_pos c39] at H
      have c39b0 : decide (x8_2 < (y208.length : Int)) = true := decide_eq_true c39
      clear c39
      by_cases c40 : 0 ≤ x8_2
      rotate_left
      ·rw [if_neg c40] at H
       exact absurd H (by simp)
      rw [if_pos c40] at H
      have c40b0 : decide (0 ≤ x8_2) = true := decide_eq_true c40
      clear c40
      replace H := Option.bind_eq_some_iff.mp H
      obtain ⟨⟨t212, t213⟩, A410, H⟩ := H
      replace H : (if x8_2 < (x3_2.length : Int) then (spec_l9DrawMem.l1 k2 (x3_2.set (x8_2 : Int).toNat t212) y208 (wrap64 (x8_2 + 1)) s0_0 t206 t207) else (none)) = some (r1, r2, r3) := H
      have A41 := Aside0.mk A410
      clear A410
      by_cases c42 : x8_2 < (x3_2.length : Int)
      rotate_left
      ·rw [if_neg c42] at H
       exact absurd H (by simp)
      rw [if_pos c42] at H
      have c42b0 : decide (x8_2 < (x3_2.length : Int)) = true := decide_eq_true c42
      clear c42
      obtain ⟨y214, hy214⟩ : ∃ y_ : List Int, y_ = (x3_2.set (x8_2 : Int).toNat t212) := ⟨_, rfl⟩
      replace H : (spec_l9DrawMem.l1 k2 y214 y208 (wrap64 (x8_2 + 1)) s0_0 t206 t207) = some (r1, r2, r3) := by first | (rw [hy214]; with_reducible exact H) | (have H2_ := (Option.bind_some _ _).symm.trans H; rw [hy214]; with_reducible exact H2_) | (have H2_ := (Option.bind_some _ _).symm.trans H; with_reducible exact H2_) | with_reducible exact H | (rw [hy214]; exact H) | exact H
      have Ny214 := Aside0.mk hy214
      clear hy214
      have H' := Aside0.mk H
      clear H
      obtain ⟨Ao44, co44, eo44⟩ := Kd.R_slice HO_7.out
      subst eo44
      have p211 : 0 ≤ (x8_2 : Int) := zA3
      have q211 : x8_2 < (y208.length : Int) := zA3
      obtain ⟨ad211, e211, hx211_0, hx211_1, hx211_2, hx211_3, hx211_4⟩ := at_T41 (Kd.R_reads' HO_7.out).2.2 x8_2 p211 q211
      cases e211
      replace p211 := eq_true p211
      replace q211 := eq_true q211
      go_wp2_with (first | ((with_reducible refine gate_callee (f := 43) rfl ?_); refine goesL_ (some 57) rfl rfl Try.func43 (by kernel_rfl) rfl #[.agg #[.int .i64 ((rd_T41 y208 x8_2).f0), .int .i64 ((rd_T41 y208 x8_2).f1), .int .i64 ((rd_T41 y208 x8_2).f2), .int .i64 ((rd_T41 y208 x8_2).f3), .int .i64 ((rd_T41 y208 x8_2).f4)]] rfl zT3 ?_; (with_reducible refine (spec_Code.calls ((rd_T41 y208 x8_2).f0) ((rd_T41 y208 x8_2).f1) ((rd_T41 y208 x8_2).f2) ((rd_T41 y208 x8_2).f3) ((rd_T41 y208 x8_2).f4) t212 t213 _ A41.out).mono ?_); rintro e w45 ⟨rfl, hb⟩; refine ⟨_, rfl, ?_⟩; have n0_ := Aside0.mk (Kd.R_below (zR3 HO_3.out) hb); have n1_ := Aside0.mk (Kd.R_below (zR3 HO_7.out) hb); have n2_ := Aside0.mk (IsS56.below (zB3_0) hb); have n3_ := Aside0.mk (KeepBut.trans (zB3_2) (KeepBut.of_below hb g none) (.inl rfl)); have n4_ := Aside0.mk (below_step (zB3_1) hb); clear HO_3; clear HO_7; clear HI0; clear HK; clear HB; have HO_3 := n0_; have HO_7 := n1_; have HI0 := n2_; have HK := n3_; have HB := n4_; clear n0_ n1_ n2_ n3_ n4_; (try clear hb); (try clear hb2); (try clear hk); (try clear hi); have p43 : 0 ≤ (x8_2 : Int) := zA3; have q43 : (x8_2 : Int) < ((x3_2.length : Int) : Int) := zA3; obtain ⟨go43, co43, eo43, gb43, gl43, cl43, HG43⟩ := Kd.R_form HO_3.out (by omega); (first | cases eo43 | (injection eo43 with ea_ en_ ec_; (first | subst ea_ | (injection ea_ with ea_; subst ea_)); subst ec_; clear en_)); have GB43 := Aside0.mk gb43; have GG43 := Aside0.mk HG43; clear gb43 gl43 HG43; obtain ⟨hx43_0, hf43_0⟩ := Kd.R_celln 0 HO_3.out (x8_2 : Int) p43 q43; replace p43 := eq_true p43; replace q43 := eq_true q43; obtain ⟨hy46_, hz46_⟩ := Kd.R_celln 0 HO_3.out (x8_2 : Int) (zA3) (zA3); have HP46 := Kd.R_putg HO_3.out (x8_2 : Int) t212) | ((with_reducible refine gate_store (t := 3) (p := 60) rfl ?_); refine store_event (t := 3) (p := 60) (v := ?vo_w47) (w1 := (w45.setCell ⟨go43, (x8_2 : Int).toNat, none⟩ (.int .i64 t212))) ?hg ?ho ?hn ?hr ?_; (case ho => rfl); (case hg => rfl); (case hn => rfl); (case hr => first | (go_simp; done) | (go_simp; rfl)); intro w47 hw; have hg : w45.grownBy w47 (some go43) := (by rw [hw]; exact HP46.2); have hp_ : Kd.R (Kd.int .i64) 3 w47 w.heap.size (fun _ => True) (.slice (some ⟨go43, 0, none⟩) x3_2.length co43) y214 := (by rw [hw, Ny214.out]; exact HP46.1); clear HP46; have n0_ := Aside0.mk (hp_); have n1_ := Aside0.mk (Kd.R_over' (v := (.slice (some ⟨go43, 0, none⟩) x3_2.length co43)) (zR3 HO_7.out) (Kd.R_typed HO_3.out) (by decide) hg); have n2_ := Aside0.mk (IsS56.grown (zB3_0) hg (IsS56.own_ne HI0.out HO_3.out (by decide))); have n3_ := Aside0.mk ((by rw [hw]; exact below_set (HB.out) (Nat.le_trans HL.out GB43.out) : Below w0.heap.size w0 w47)); have n4_ := Aside0.mk (KeepBut.trans (zB3_2) (KeepBut.of_grown hg g) (Kd.R_base2 HO_3.out)); clear HO_3; clear HO_7; clear HI0; clear HB; clear HK; have HO_3 := n0_; have HO_7 := n1_; have HI0 := n2_; have HB := n3_; have HK := n4_; clear n0_ n1_ n2_ n3_ n4_; clear hg hw hp_))
      go_roundg k2
      case measure => have := HK1.out; have := HK2.out; omega
      case rel => exact ⟨(y214), (wrap64 (x8_2 + 1)), (by first | rfl | (simp; done) | (simp [*]; done)), H', ⟨by have := HK1.out; have := HK2.out; omega⟩, ⟨zR3 HO_3.out⟩, ⟨zR3 HO_7.out⟩, ⟨zB3_0⟩, ⟨zB3_2⟩, ⟨zB3_1⟩⟩
   rw [if_neg c35] at H
   have c35b0 : (t205 == 0) = false := beq_eq_false_iff_ne.mpr c35
   have c35b1 : (t205 != 0) = true := bne_iff_ne.mpr c35
   by_cases c49 : t205 = 1
   rotate_left
   ·rw [if_neg c49] at H
    have c49b0 : (t205 == 1) = false := beq_eq_false_iff_ne.mpr c49
    have c49b1 : (t205 != 1) = true := bne_iff_ne.mpr c49
    simp only [Option.some.injEq, Prod.mk.injEq] at H
    obtain ⟨rfl, rfl, rfl⟩ := H
    go_wp2_with (first | ((with_reducible refine gate_callee (f := 28) rfl ?_); refine goesL_ (some 36) rfl rfl Try.func28 (by kernel_rfl) rfl #[.pointer (some ⟨g, 0, none⟩), .int .i64 4] rfl zT3 ?_; (with_reducible refine (spec_l1Below.calls g s0_0 x1001_1 x1002_1 4 t205 t206 t207 w0 _ ?side1 ?side2 A34.out).mono ?_); (case side1 => exact zB3_0); (case side2 => exact zB3_1); rintro e w63 ⟨rfl, hi, hb, hk⟩; refine ⟨_, rfl, ?_⟩; have n0_ := Aside0.mk (Kd.R_mono (Kd.R_keep (IsS56.apart (show IsS56 w0 _ g s0_0 x1001_1 x1002_1 from zB3_0) (zR3 HO_3.out) (by decide)) hk (fun _ h => h.2)) (fun _ h => h.1)); have n1_ := Aside0.mk (KeepBut.trans (zB3_2) hk (.inl rfl)); have n2_ := Aside0.mk (hb); have n3_ := Aside0.mk (hi); clear HO_3; clear HK; clear HB; clear HI0; have HO_3 := n0_; have HK := n1_; have HB := n2_; have HI0 := n3_; clear n0_ n1_ n2_ n3_; (try clear hb); (try clear hb2); (try clear hk); (try clear hi)))
    go_ret
    exact ⟨_, zE3, zR3 HO_3.out, zB3_0, zB3_1, zB3_2⟩
   rw [if_pos c49] at H
   have c49b0 : (t205 == 1) = true := beq_iff_eq.mpr c49
   have c49b1 : (t205 != 1) = false := bne_eq_false_iff_eq.mpr c49
   clear c49
   obtain ⟨y215, hy215⟩ : ∃ y_ : List (S41), y_ = (([(⟨4, 1, 0, 0, 8⟩ : S41), (⟨3, 1, 1, 0, 1⟩ : S41), (⟨5, 0, 0, 1, 8⟩ : S41), (⟨8, 0, 0, 0, 8⟩ : S41)] : List (S41))) := ⟨_, rfl⟩
   replace H : (spec_l9DrawMem.l2 k1 x3_1 y215 0 s0_0 t206 t207) = some (r1, r2, r3) := by first | (rw [hy215]; with_reducible exact H) | (have H2_ := (Option.bind_some _ _).symm.trans H; rw [hy215]; with_reducible exact H2_) | (have H2_ := (Option.bind_some _ _).symm.trans H; with_reducible exact H2_) | with_reducible exact H | (rw [hy215]; exact H) | exact H
   have Ny215 := Aside0.mk hy215
   clear hy215
   have H' := Aside0.mk H
   clear H
   go_wp2_with (first | ((with_reducible refine gate_callee (f := 28) rfl ?_); refine goesL_ (some 36) rfl rfl Try.func28 (by kernel_rfl) rfl #[.pointer (some ⟨g, 0, none⟩), .int .i64 4] rfl zT3 ?_; (with_reducible refine (spec_l1Below.calls g s0_0 x1001_1 x1002_1 4 t205 t206 t207 w0 _ ?side1 ?side2 A34.out).mono ?_); (case side1 => exact zB3_0); (case side2 => exact zB3_1); rintro e w50 ⟨rfl, hi, hb, hk⟩; refine ⟨_, rfl, ?_⟩; have n0_ := Aside0.mk (Kd.R_mono (Kd.R_keep (IsS56.apart (show IsS56 w0 _ g s0_0 x1001_1 x1002_1 from zB3_0) (zR3 HO_3.out) (by decide)) hk (fun _ h => h.2)) (fun _ h => h.1)); have n1_ := Aside0.mk (KeepBut.trans (zB3_2) hk (.inl rfl)); have n2_ := Aside0.mk (hb); have n3_ := Aside0.mk (hi); clear HO_3; clear HK; clear HB; clear HI0; have HO_3 := n0_; have HK := n1_; have HB := n2_; have HI0 := n3_; clear n0_ n1_ n2_ n3_; (try clear hb); (try clear hb2); (try clear hk); (try clear hi)) | ((with_reducible refine gate_dst (N := 67) rfl ?_); refine Kd.R_lit k41 _ 41 ?hg (N := 67) ?hd (xs := ([(⟨4, 1, 0, 0, 8⟩ : S41), (⟨3, 1, 1, 0, 1⟩ : S41), (⟨5, 0, 0, 1, 8⟩ : S41), (⟨8, 0, 0, 0, 8⟩ : S41)] : List (S41))) (inner := [.int .i64 4, .int .i64 1, .int .i64 0, .int .i64 0, .int .i64 8, .int .i64 3, .int .i64 1, .int .i64 1, .int .i64 0, .int .i64 1, .int .i64 5, .int .i64 0, .int .i64 0, .int .i64 1, .int .i64 8, .int .i64 8, .int .i64 0, .int .i64 0, .int .i64 0, .int .i64 8]) (ok := fun _ => True) (okp := fun _ => True) ?hr ?hp (fun _ hk => hk) trivial (Below.refl _ _) (Nat.le_refl _) (by simp) ?_; (case hd => rfl); (case hg => rfl); (case hr => first | (go_simp; done) | (go_simp; rfl)); (case hp => exact (Reps.c5 (show Kd.M k41 _ _ _ (⟨4, 1, 0, 0, 8⟩ : S41) [.int .i64 4, .int .i64 1, .int .i64 0, .int .i64 0, .int .i64 8] from (k41_mkM _ _ _ (⟨4, 1, 0, 0, 8⟩ : S41) )) (Reps.c5 (show Kd.M k41 _ _ _ (⟨3, 1, 1, 0, 1⟩ : S41) [.int .i64 3, .int .i64 1, .int .i64 1, .int .i64 0, .int .i64 1] from (k41_mkM _ _ _ (⟨3, 1, 1, 0, 1⟩ : S41) )) (Reps.c5 (show Kd.M k41 _ _ _ (⟨5, 0, 0, 1, 8⟩ : S41) [.int .i64 5, .int .i64 0, .int .i64 0, .int .i64 1, .int .i64 8] from (k41_mkM _ _ _ (⟨5, 0, 0, 1, 8⟩ : S41) )) (Reps.c5 (show Kd.M k41 _ _ _ (⟨8, 0, 0, 0, 8⟩ : S41) [.int .i64 8, .int .i64 0, .int .i64 0, .int .i64 0, .int .i64 8] from (k41_mkM _ _ _ (⟨8, 0, 0, 0, 8⟩ : S41) )) (Reps.none _ _)))))); intro v216 w51 ho52 hb hg_ hnew_; clear hg_ hnew_; (first | rw [← Ny215.out] at ho52 | (simp only [Int.reduceToNat] at ho52; rw [← Ny215.out] at ho52)); have n0_ := Aside0.mk (Kd.R_below (zR3 HO_3.out) hb); have n1_ := Aside0.mk (Kd.R_lower ho52 (keep_size (w := w) (g := g) (row := none) (zB3_2))); have n2_ := Aside0.mk (IsS56.below (zB3_0) hb); have n3_ := Aside0.mk (KeepBut.trans (zB3_2) (KeepBut.of_below hb g none) (.inl rfl)); have n4_ := Aside0.mk (below_step (zB3_1) hb); clear HO_3; clear HI0; clear HK; clear HB; have HO_3 := n0_; have HO217 := n1_; have HI0 := n2_; have HK := n3_; have HB := n4_; clear n0_ n1_ n2_ n3_ n4_; clear hb ho52))
   go_loopg [10] k1 (fun kq v10 w' => ∃ (x3_2 : List Int) (x10_2 : Int), v10 = .int .i64 x10_2 ∧ Aside0 (spec_l9DrawMem.l2 kq x3_2 y215 x10_2 s0_0 t206 t207 = some (r1, r2, r3)) ∧ Aside0 (kq ≤ k1) ∧ Aside0 (Kd.R (Kd.int .i64) 3 w' w.heap.size (fun _ => True) u3 x3_2) ∧ Aside0 (Kd.R k41 41 w' w.heap.size (fun _ => True) v216 y215) ∧ Aside0 (IsS56 w0 w' g s0_0 t206 t207) ∧ Aside0 (KeepBut w w' g none) ∧ Aside0 (Below w0.heap.size w0 w'))
   case atStart => exact ⟨(x3_1), (0), (by first | rfl | (simp; done) | (simp [*]; done)), H', ⟨Nat.le_refl _⟩, ⟨zR3 HO_3.out⟩, ⟨zR3 HO217.out⟩, ⟨zB3_0⟩, ⟨zB3_2⟩, ⟨zB3_1⟩⟩
   case round =>
    clear H'
    try clear c1
    try clear c2
    try clear p2
    try clear q2
    try clear hx2
    try clear c3
    try clear c4
    try clear c4b0
    try clear p4
    try clear q4
    try clear hx4
    try clear hf4
    try clear c5
    try clear p6
    try clear c7
    try clear c7b0
    try clear c9
    try clear c18
    try clear c20
    try clear p21
    try clear q21
    try clear hx21
    try clear c27
    try clear c28
    try clear c29
    try clear c35
    try clear c35b0
    try clear c35b1
    try clear c39
    try clear c39b0
    try clear c40
    try clear c40b0
    try clear c42
    try clear c42b0
    try clear c43
    try clear p43
    try clear q43
    try clear hx43
    try clear hf43
    try clear c44
    try clear c46
    try clear c49
    try clear c49b0
    try clear c49b1
    try clear hx211_0
    try clear hx211_1
    try clear hx211_2
    try clear hx211_3
    try clear hx211_4
    try clear hx43_0
    try clear p2
    try clear p211
    try clear p43
    try clear p6
    try clear q211
    try clear q43
    obtain ⟨x3_2, x10_2, rfl, HA, HK2, HO_3, HO_9, HI0, HK, HB⟩ := hrel
    cases gk with
    | zero => exact absurd HA.out (by simp [spec_l9DrawMem.l2])
    | succ k2 =>
     have H := HA.out
     clear HA
     simp only [spec_l9DrawMem.l2] at H
     by_cases c53 : x10_2 < (y215.length : Int)
     rotate_left
     ·rw [if_neg c53] at H
      have c53b0 : decide (x10_2 < (y215.length : Int)) = false := decide_eq_false c53
      clear c53
      simp only [Option.some.injEq, Prod.mk.injEq] at H
      obtain ⟨rfl, rfl, rfl⟩ := H
      obtain ⟨Ao62, co62, eo62⟩ := Kd.R_slice HO_9.out
      subst eo62
      go_wp2
      go_ret
      exact ⟨_, zE3, zR3 HO_3.out, zB3_0, zB3_1, zB3_2⟩
     rw [if_pos c53] at H
     have c53b0 : decide (x10_2 < (y215.length : Int)) = true := decide_eq_true c53
     clear c53
     by_cases c54 : 0 ≤ x10_2
     rotate_left
     ·rw [if_neg c54] at H
      exact absurd H (by simp)
     rw [if_pos c54] at H
     have c54b0 : decide (0 ≤ x10_2) = true := decide_eq_true c54
     clear c54
     replace H := Option.bind_eq_some_iff.mp H
     obtain ⟨⟨t219, t220⟩, A550, H⟩ := H
     replace H : (if x10_2 < (x3_2.length : Int) then (spec_l9DrawMem.l2 k2 (x3_2.set (x10_2 : Int).toNat t219) y215 (wrap64 (x10_2 + 1)) s0_0 t206 t207) else (none)) = some (r1, r2, r3) := H
     have A55 := Aside0.mk A550
     clear A550
     by_cases c56 : x10_2 < (x3_2.length : Int)
     rotate_left
     ·rw [if_neg c56] at H
      exact absurd H (by simp)
     rw [if_pos c56] at H
     have c56b0 : decide (x10_2 < (x3_2.length : Int)) = true := decide_eq_true c56
     clear c56
     obtain ⟨y221, hy221⟩ : ∃ y_ : List Int, y_ = (x3_2.set (x10_2 : Int).toNat t219) := ⟨_, rfl⟩
     replace H : (spec_l9DrawMem.l2 k2 y221 y215 (wrap64 (x10_2 + 1)) s0_0 t206 t207) = some (r1, r2, r3) := by first | (rw [hy221]; with_reducible exact H) | (have H2_ := (Option.bind_some _ _).symm.trans H; rw [hy221]; with_reducible exact H2_) | (have H2_ := (Option.bind_some _ _).symm.trans H; with_reducible exact H2_) | with_reducible exact H | (rw [hy221]; exact H) | exact H
     have Ny221 := Aside0.mk hy221
     clear hy221
     have H' := Aside0.mk H
     clear H
     obtain ⟨Ao58, co58, eo58⟩ := Kd.R_slice HO_9.out
     subst eo58
     have p218 : 0 ≤ (x10_2 : Int) := zA3
     have q218 : x10_2 < (y215.length : Int) := zA3
     obtain ⟨ad218, e218, hx218_0, hx218_1, hx218_2, hx218_3, hx218_4⟩ := at_T41 (Kd.R_reads' HO_9.out).2.2 x10_2 p218 q218
     cases e218
     replace p218 := eq_true p218
     replace q218 := eq_true q218
     go_wp2_with (first | ((with_reducible refine gate_callee (f := 43) rfl ?_); refine goesL_ (some 81) rfl rfl Try.func43 (by kernel_rfl) rfl #[.agg #[.int .i64 ((rd_T41 y215 x10_2).f0), .int .i64 ((rd_T41 y215 x10_2).f1), .int .i64 ((rd_T41 y215 x10_2).f2), .int .i64 ((rd_T41 y215 x10_2).f3), .int .i64 ((rd_T41 y215 x10_2).f4)]] rfl zT3 ?_; (with_reducible refine (spec_Code.calls ((rd_T41 y215 x10_2).f0) ((rd_T41 y215 x10_2).f1) ((rd_T41 y215 x10_2).f2) ((rd_T41 y215 x10_2).f3) ((rd_T41 y215 x10_2).f4) t219 t220 _ A55.out).mono ?_); rintro e w59 ⟨rfl, hb⟩; refine ⟨_, rfl, ?_⟩; have n0_ := Aside0.mk (Kd.R_below (zR3 HO_3.out) hb); have n1_ := Aside0.mk (Kd.R_below (zR3 HO_9.out) hb); have n2_ := Aside0.mk (IsS56.below (zB3_0) hb); have n3_ := Aside0.mk (KeepBut.trans (zB3_2) (KeepBut.of_below hb g none) (.inl rfl)); have n4_ := Aside0.mk (below_step (zB3_1) hb); clear HO_3; clear HO_9; clear HI0; clear HK; clear HB; have HO_3 := n0_; have HO_9 := n1_; have HI0 := n2_; have HK := n3_; have HB := n4_; clear n0_ n1_ n2_ n3_ n4_; (try clear hb); (try clear hb2); (try clear hk); (try clear hi); have p57 : 0 ≤ (x10_2 : Int) := zA3; have q57 : (x10_2 : Int) < ((x3_2.length : Int) : Int) := zA3; obtain ⟨go57, co57, eo57, gb57, gl57, cl57, HG57⟩ := Kd.R_form HO_3.out (by omega); (first | cases eo57 | (injection eo57 with ea_ en_ ec_; (first | subst ea_ | (injection ea_ with ea_; subst ea_)); subst ec_; clear en_)); have GB57 := Aside0.mk gb57; have GG57 := Aside0.mk HG57; clear gb57 gl57 HG57; obtain ⟨hx57_0, hf57_0⟩ := Kd.R_celln 0 HO_3.out (x10_2 : Int) p57 q57; replace p57 := eq_true p57; replace q57 := eq_true q57; obtain ⟨hy60_, hz60_⟩ := Kd.R_celln 0 HO_3.out (x10_2 : Int) (zA3) (zA3); have HP60 := Kd.R_putg HO_3.out (x10_2 : Int) t219) | ((with_reducible refine gate_store (t := 3) (p := 84) rfl ?_); refine store_event (t := 3) (p := 84) (v := ?vo_w61) (w1 := (w59.setCell ⟨go57, (x10_2 : Int).toNat, none⟩ (.int .i64 t219))) ?hg ?ho ?hn ?hr ?_; (case ho => rfl); (case hg => rfl); (case hn => rfl); (case hr => first | (go_simp; done) | (go_simp; rfl)); intro w61 hw; have hg : w59.grownBy w61 (some go57) := (by rw [hw]; exact HP60.2); have hp_ : Kd.R (Kd.int .i64) 3 w61 w.heap.size (fun _ => True) (.slice (some ⟨go57, 0, none⟩) x3_2.length co57) y221 := (by rw [hw, Ny221.out]; exact HP60.1); clear HP60; have n0_ := Aside0.mk (hp_); have n1_ := Aside0.mk (Kd.R_over' (v := (.slice (some ⟨go57, 0, none⟩) x3_2.length co57)) (zR3 HO_9.out) (Kd.R_typed HO_3.out) (by decide) hg); have n2_ := Aside0.mk (IsS56.grown (zB3_0) hg (IsS56.own_ne HI0.out HO_3.out (by decide))); have n3_ := Aside0.mk ((by rw [hw]; exact below_set (HB.out) (Nat.le_trans HL.out GB57.out) : Below w0.heap.size w0 w61)); have n4_ := Aside0.mk (KeepBut.trans (zB3_2) (KeepBut.of_grown hg g) (Kd.R_base2 HO_3.out)); clear HO_3; clear HO_9; clear HI0; clear HB; clear HK; have HO_3 := n0_; have HO_9 := n1_; have HI0 := n2_; have HB := n3_; have HK := n4_; clear n0_ n1_ n2_ n3_ n4_; clear hg hw hp_))
     go_roundg k2
     case measure => have := HK1.out; have := HK2.out; omega
     case rel => exact ⟨(y221), (wrap64 (x10_2 + 1)), (by first | rfl | (simp; done) | (simp [*]; done)), H', ⟨by have := HK1.out; have := HK2.out; omega⟩, ⟨zR3 HO_3.out⟩, ⟨zR3 HO_9.out⟩, ⟨zB3_0⟩, ⟨zB3_2⟩, ⟨zB3_1⟩⟩

/-! ### spec_l9Address: function 50 -/
def spec_l9Address.f (a0 : Int) : Option (Int) := if (Int.tmod a0 24) < 0 then (some (wrap64 ((Int.tmod a0 24) + 24))) else (some (Int.tmod a0 24))
set_option maxHeartbeats 8000000 in
set_option maxRecDepth 100000 in
theorem spec_l9Address.calls (a0 : Int) (r : Int) (w : World) (h : spec_l9Address.f a0 = some r) :
  Calls Try.prog 50 #[.int .i64 a0] w fun e w' => e = .returned (.int .i64 r) ∧ Drawn0 w w' := by
 have H : (if (Int.tmod a0 24) < 0 then (some (wrap64 ((Int.tmod a0 24) + 24))) else (some (Int.tmod a0 24))) = some r := h
 clear h
 by_cases c2 : (Int.tmod a0 24) < 0
 ·rw [if_pos c2] at H
  have c2b0 : decide ((Int.tmod a0 24) < 0) = true := decide_eq_true c2
  clear c2
  obtain rfl := Option.some.inj H
  go_enter Try.func50, Try.ntmps50
  go_wp2
  go_ret
  exact ⟨by first | rfl | (simp; done) | (simp [*]; done), by repeat (first | exact Drawn0.refl _ | apply Drawn0.step)⟩
 rw [if_neg c2] at H
 have c2b0 : decide ((Int.tmod a0 24) < 0) = false := decide_eq_false c2
 clear c2
 obtain rfl := Option.some.inj H
 go_enter Try.func50, Try.ntmps50
 go_wp2
 go_ret
 exact ⟨by first | rfl | (simp; done) | (simp [*]; done), by repeat (first | exact Drawn0.refl _ | apply Drawn0.step)⟩

/-! ### spec_HartNew: function 31 -/
def spec_HartNew.f (a0 : Int) : Option (List Int × Int × Int) := (spec_l9Address.f a0).bind fun t226 => (some ((List.replicate 4 0), t226, 0))
set_option maxHeartbeats 8000000 in
set_option maxRecDepth 100000 in
theorem spec_HartNew.calls (a0 : Int) (r1 : List Int) (r2 : Int) (r3 : Int) (w : World) (h : spec_HartNew.f a0 = some (r1, r2, r3)) :
  Calls Try.prog 31 #[.int .i64 a0] w fun e w' => ∃ v0_ : Value, e = .returned (.agg #[v0_, .int .i64 r2, .int .i64 r3]) ∧ Kd.R (Kd.int .i64) 3 w' w.heap.size (fun _ => True) v0_ r1 ∧ Below w.heap.size w w' := by
 have hu29 := Try.underlying29
 have HB := Aside0.mk (Below.refl w.heap.size w)
 have H : ((spec_l9Address.f a0).bind fun t226 => (some ((List.replicate 4 0), t226, 0))) = some (r1, r2, r3) := h
 clear h
 obtain ⟨y223, hy223⟩ : ∃ y_ : List Int, y_ = (List.replicate 4 0) := ⟨_, rfl⟩
 replace H : ((spec_l9Address.f a0).bind fun t226 => (some (y223, t226, 0))) = some (r1, r2, r3) := by first | (rw [hy223]; with_reducible exact H) | (have H2_ := (Option.bind_some _ _).symm.trans H; rw [hy223]; with_reducible exact H2_) | (have H2_ := (Option.bind_some _ _).symm.trans H; with_reducible exact H2_) | with_reducible exact H | (rw [hy223]; exact H) | exact H
 have Ny223 := Aside0.mk hy223
 clear hy223
 replace H := Option.bind_eq_some_iff.mp H
 obtain ⟨t226, A20, H⟩ := H
 replace H : (some (y223, t226, 0)) = some (r1, r2, r3) := H
 have A2 := Aside0.mk A20
 clear A20
 simp only [Option.some.injEq, Prod.mk.injEq] at H
 obtain ⟨rfl, rfl, rfl⟩ := H
 go_enter Try.func31, Try.ntmps31
 try go_wp2_with (first | ((with_reducible refine gate_dst (N := 2) rfl ?_); refine box_event ?hg (N := 2) ?hd (cs := #[.slice none 0 0, .int .i64 0, .int .i64 0]) (t := 29) ?hr ?_; (case hd => rfl); (case hg => rfl); (case hr => first | (go_simp; done) | (go_simp; rfl)); intro gb222 hg w3 hbox hb; have n0_ := Aside0.mk (below_step (zB3_3) hb); have n1_ := Aside0.mk (hbox); have n2_ := Aside0.mk ((by rw [hg]; exact (below_size (zB3_3)) : w.heap.size ≤ gb222)); have n3_ := Aside0.mk ((by rw [hg]; exact (below_size (zB3_3)) : w.heap.size ≤ gb222)); clear HB; have HB := n0_; have BK222 := n1_; have GW222 := n2_; have GE222 := n3_; clear n0_ n1_ n2_ n3_; clear hb hbox hg))
 have n0_ := Aside0.mk (blk_drew BK222.out)
 have n1_ := Aside0.mk (below_drew1 HB.out)
 clear BK222 HB
 have BK222 := n0_
 have HB := n1_
 clear n0_ n1_
 refine start_ (n := 5) (S := fun w' => True) (ds := []) #[false, false, false, false, false] (by kernel_rfl) rfl rfl trivial (fun hHeld => ?_)
 generalize w3.drew = w4 at BK222 HB hHeld ⊢
 refine pure_ (i := 1) (N := some 4) (v := ?_) (a' := ?_) #[false, true, false, false, false] rfl rfl (by kernel_rfl) (fun _ _ _ h => h) (Or.inl ⟨by rfl, ?_⟩) ?_ ?_
 rotate_left
 ·intro w'
  go_simp
  with_reducible rfl
 rotate_left
 ·exact zV3
 refine join_ (σ := Value) 2 #[true, true, true, false, false] (fun s_ => [(3, s_), (5, .int .i64 t226)]) (fun s_ w' => (Kd.R (Kd.int .i64) 3 w' w.heap.size (fun _ => True) s_ y223) ∧ (w'.heap[gb222]? = some (.cells #[.slice none 0 0, .int .i64 0, .int .i64 0] 29 (0, 0))) ∧ (Below w.heap.size w w')) ?_ ?_
 rotate_left
 ·intro hCont
  refine two_ (i := 0) (j := 2) (Ni := some 3) (Nj := some 5) #[true, true, false, false, false] #[false, true, true, false, false] rfl rfl rfl rfl (by kernel_rfl) (by decide) (by decide) (fun K hK => ?_) (fun K hK => ?_)
  ·skip
   refine Kd.R_make_step (Kd.int .i64) _ 3 (by rfl) (N := 3) rfl 24 _ _ rfl 4 rfl rfl Try.underlying24 (.int .i64 0) 8 info3 rfl (by decide) (by omega) 0 (ok := fun _ => True) (okp := fun _ => True) rfl (fun _ hk => hk) trivial (by omega) (by omega) (Below.refl _ _) (Nat.le_refl _) ?_
   intro v224 w5 ho6 hb hg_ hnew_
   clear hg_ hnew_
   (first | rw [← Ny223.out] at ho6 | (simp only [Int.reduceToNat] at ho6; rw [← Ny223.out] at ho6))
   have n0_ := Aside0.mk (Kd.R_lower ho6 (below_size (zB3_4)))
   have n1_ := Aside0.mk (zb3 BK222.out hb)
   have n2_ := Aside0.mk (below_step (zB3_4) hb)
   clear BK222 HB
   have HO225 := n0_
   have BK222 := n1_
   have HB := n2_
   clear n0_ n1_ n2_ hb ho6
   refine hK.out _ _ trivial (fun hHeld => ?_)
   clear hK K
   refine norm_ (a' := ?_) ?_ ?_
   rotate_left
   ·show Act.put _ (some 3) _ = _
    simp only [Act.put, List.setIfInBounds_toArray, List.set_cons_zero, List.set_cons_succ, i64_w, i32_w]
    rfl
   refine one_ (i := 2) (N := some 5) #[true, true, true, false, false] rfl rfl (by kernel_rfl) (by decide) (fun K hK => ?_)
   refine goes_ Try.func50 (by kernel_rfl) rfl #[.int .i64 a0] (by rfl) rfl rfl zT3 ?_
   with_reducible refine (spec_l9Address.calls a0 t226 _ A2.out).mono ?_
   rintro e w' ⟨rfl, ⟨nd, rfl⟩⟩
   refine ⟨_, rfl, ?_⟩
   obtain ⟨Ao7, co7, eo7⟩ := Kd.R_slice HO225.out
   (first | subst eo7 | (injection eo7 with f1_ f2_ f3_; have f4_ := f1_.symm; have f5_ := f3_.symm; clear f1_ f2_ f3_; subst f4_; subst f5_))
   refine hK.out _ _ trivial (fun hHeld => ?_)
   clear hK K
   refine norm_ (a' := ?_) ?_ ?_
   rotate_left
   ·show Act.put _ (some 5) _ = _
    simp only [Act.put, List.setIfInBounds_toArray, List.set_cons_zero, List.set_cons_succ, i64_w, i32_w]
    rfl
   exact norm_ (by simp only [putAll, Act.put, List.setIfInBounds_toArray, List.set_cons_zero, List.set_cons_succ]) (hCont (.slice Ao7 y223.length co7) _ ⟨(zR3 HO225.out), (zK3 BK222.out), (zB3_4)⟩)
  ·skip
   refine goes_ Try.func50 (by kernel_rfl) rfl #[.int .i64 a0] (by rfl) rfl rfl zT3 ?_
   with_reducible refine (spec_l9Address.calls a0 t226 _ A2.out).mono ?_
   rintro e w' ⟨rfl, ⟨nd, rfl⟩⟩
   refine ⟨_, rfl, ?_⟩
   refine hK.out _ _ trivial (fun hHeld => ?_)
   clear hK K
   refine norm_ (a' := ?_) ?_ ?_
   rotate_left
   ·show Act.put _ (some 5) _ = _
    simp only [Act.put, List.setIfInBounds_toArray, List.set_cons_zero, List.set_cons_succ, i64_w, i32_w]
    rfl
   refine one_ (i := 0) (N := some 3) #[true, true, true, false, false] rfl rfl (by kernel_rfl) (by decide) (fun K hK => ?_)
   refine Kd.R_make_step (Kd.int .i64) _ 3 (by rfl) (N := 3) rfl 24 _ _ rfl 4 rfl rfl Try.underlying24 (.int .i64 0) 8 info3 rfl (by decide) (by omega) 0 (ok := fun _ => True) (okp := fun _ => True) rfl (fun _ hk => hk) trivial (by omega) (by omega) (Below.refl _ _) (Nat.le_refl _) ?_
   intro v224 w5 ho6 hb hg_ hnew_
   clear hg_ hnew_
   (first | rw [← Ny223.out] at ho6 | (simp only [Int.reduceToNat] at ho6; rw [← Ny223.out] at ho6))
   have n0_ := Aside0.mk (Kd.R_lower ho6 (below_size (zB3_4)))
   have n1_ := Aside0.mk (zb3 BK222.out hb)
   have n2_ := Aside0.mk (below_step (zB3_4) hb)
   clear BK222 HB
   have HO225 := n0_
   have BK222 := n1_
   have HB := n2_
   clear n0_ n1_ n2_ hb ho6
   obtain ⟨Ao7, co7, eo7⟩ := Kd.R_slice HO225.out
   (first | subst eo7 | (injection eo7 with f1_ f2_ f3_; have f4_ := f1_.symm; have f5_ := f3_.symm; clear f1_ f2_ f3_; subst f4_; subst f5_))
   refine hK.out _ _ trivial (fun hHeld => ?_)
   clear hK K
   refine norm_ (a' := ?_) ?_ ?_
   rotate_left
   ·show Act.put _ (some 3) _ = _
    simp only [Act.put, List.setIfInBounds_toArray, List.set_cons_zero, List.set_cons_succ, i64_w, i32_w]
    rfl
   exact norm_ (by simp only [putAll, Act.put, List.setIfInBounds_toArray, List.set_cons_zero, List.set_cons_succ]) (hCont (.slice Ao7 y223.length co7) _ ⟨(zR3 HO225.out), (zK3 BK222.out), (zB3_4)⟩)
 rintro v224 w8 ⟨h0_, h1_, h2_⟩
 have n0_ : Aside0 (Kd.R (Kd.int .i64) 3 w8 w.heap.size (fun _ => True) v224 y223) := ⟨h0_⟩
 have n1_ : Aside0 (w8.heap[gb222]? = some (.cells #[.slice none 0 0, .int .i64 0, .int .i64 0] 29 (0, 0))) := ⟨h1_⟩
 have n2_ : Aside0 (Below w.heap.size w w8) := ⟨h2_⟩
 clear BK222 HB h0_ h1_ h2_
 have HO225 := n0_
 have BK222 := n1_
 have HB := n2_
 clear n0_ n1_ n2_
 have hHeld := trivial
 obtain ⟨Ao9, co9, eo9⟩ := Kd.R_slice HO225.out
 (first | subst eo9 | (injection eo9 with f1_ f2_ f3_; have f4_ := f1_.symm; have f5_ := f3_.symm; clear f1_ f2_ f3_; subst f4_; subst f5_))
 refine norm_ (a' := ?_) ?_ ?_
 rotate_left
 ·simp only [putAll, Act.put, List.setIfInBounds_toArray, List.set_cons_zero, List.set_cons_succ]
  rfl
 refine pure_ (i := 3) (N := some 6) (v := ?_) (a' := ?_) #[true, true, true, true, false] rfl rfl (by kernel_rfl) (fun _ _ _ h => h) (Or.inl ⟨by rfl, ?_⟩) ?_ ?_
 rotate_left
 ·intro w'
  go_simp
  with_reducible rfl
 rotate_left
 ·exact zV3
 refine one_ (i := 4) (N := none) #[true, true, true, true, true] rfl rfl (by kernel_rfl) (by decide) (fun K hK => ?_)
 have hs10 : w8.cell? ⟨gb222, 0, none⟩ = some (.slice none 0 0) := (blk_cell BK222.out 0).trans rfl
 have hfs10 := blk_frozen BK222.out 0
 have hs11 : w8.cell? ⟨gb222, 1, none⟩ = some (.int .i64 0) := (blk_cell BK222.out 1).trans rfl
 have hfs11 := blk_frozen BK222.out 1
 have hs12 : w8.cell? ⟨gb222, 2, none⟩ = some (.int .i64 0) := (blk_cell BK222.out 2).trans rfl
 have hfs12 := blk_frozen BK222.out 2
 refine skip_ (w1 := ?_) (by rfl) rfl ?_ ?_
 rotate_left
 ·go_simp
  rfl
 refine hK.out _ _ trivial (fun hHeld => ?_)
 clear hK K
 refine done_ (by kernel_rfl) ?_
 try go_wp2
 refine bodyPost_ret (results_cell_row rfl _ _ gb222 29 #[.slice Ao9 y223.length co9, .int .i64 t226, .int .i64 0] (0, 0) _ rfl (by refine zP3 ?_; refine blk_put (cs := #[.slice Ao9 y223.length co9, .int .i64 t226, .int .i64 0]) ?_ 2 _ rfl; refine zP3 ?_; refine blk_put (cs := #[.slice Ao9 y223.length co9, .int .i64 0, .int .i64 0]) ?_ 1 _ rfl; refine zP3 ?_; refine blk_put (cs := #[.slice none 0 0, .int .i64 0, .int .i64 0]) ?_ 0 _ rfl; refine zP3 ?_; exact BK222.out) Try.underlying29 rfl (by kernel_rfl)) rfl ?_
 exact ⟨_, zE3, by (with_reducible repeat (first | apply Kd.R_alloc | apply Kd.R_drewN | apply Kd.R_drew)); exact Kd.R_mono (Kd.R_far (p := ⟨gb222, 2, none⟩) (Kd.R_far (p := ⟨gb222, 1, none⟩) (Kd.R_far (p := ⟨gb222, 0, none⟩) (Kd.R_types HO225.out BK222.out (by decide)) (fun _ hk => hk.2) (.slice Ao9 y223.length co9)) (fun _ hk => hk.2) (.int .i64 t226)) (fun _ hk => hk.2) (.int .i64 0)) (fun _ hk => trivial), zB3_4⟩

end Go.Proofs.Ytmfhfnpinmlloaa.PFnGoes
