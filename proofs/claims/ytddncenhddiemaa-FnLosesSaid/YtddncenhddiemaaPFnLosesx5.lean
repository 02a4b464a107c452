-- made by wip/tools/myprint.py out of the seat's translation
import Derived.Test.YtddncenhddiemaaPFnLosesx0
import Derived.Test.YtddncenhddiemaaPFnLosesx2
import Derived.Test.YtddncenhddiemaaPFnLosesx3
import Derived.Test.YtddncenhddiemaaPFnLosesx4
namespace Go.Proofs.Ytddncenhddiemaa.PFnLoses
open Go.RowKit Go.Proofs.YtddncenhddiemaaW.PrintWords Go.Proofs.YtddncenhddiemaaW.PrintLast Go.Proofs.YtddncenhddiemaaW.PrintMore
attribute [local go_sem] max2_int min2_int max_two min_two max_three min_three max_four min_four   -- for this text's walks alone
set_option linter.unusedVariables false
set_option linter.unusedSimpArgs false
theorem zR5 {p q : Prop} (x : q) (h : q → p := by intro h; (with_reducible repeat (first | apply Kd.R_alloc | apply Kd.R_drewN | apply Kd.R_drew)); exact h) : p := h x
theorem zK5 {p q : Prop} (x : q) (h : q → p := by intro h; (with_reducible repeat (first | refine blk_drewN ?_ _ | refine blk_drew ?_ | refine blk_alloc ?_ _)); exact h) : p := h x
theorem zA5 {p : Prop} [Decidable p] (h : decide p = true := by first | (with_reducible assumption) | assumption) : p := of_decide_eq_true h
theorem zT5 {p : Prop} (h : p := by (try simp only [List.map_toArray, List.map_cons, List.map_nil]); first | done | rfl | (simp only [List.length_drop, List.length_take]; rfl)) : p := h
theorem zC5 {p q : Prop} (x : q) (h : q → p := by intro h; repeat (first | exact h | (with_reducible refine Kd.C_alloc ?_ _) | (with_reducible refine Kd.C_drewN ?_ _) | (with_reducible refine Kd.C_drew ?_))) : p := h x
theorem zE5 {p : Prop} (h : p := by first | rfl | (simp [errW_none, errW_some] <;> rfl) | (simp [*, errW_none, errW_some] <;> rfl)) : p := h
theorem zB5_0 {p : Prop} (h : p := by repeat (first | (with_reducible first | exact HB.out | apply below_alloc | apply pw_below_drewN | apply below_drew1) | exact HB.out)) : p := h
theorem zB5_1 {p : Prop} (h : p := by repeat (first | (with_reducible first | exact HB.out | apply below_alloc | apply pw_below_drewN | apply below_drew1 | refine below_set ?_ GE149.out) | exact HB.out)) : p := h
theorem zB5_2 {p : Prop} (h : p := by repeat (first | (with_reducible first | exact HB.out | apply below_alloc | apply pw_below_drewN | apply below_drew1 | refine below_set ?_ GE149.out | refine below_set ?_ GE150.out) | exact HB.out)) : p := h
theorem zB5_3 {p : Prop} (h : p := by repeat (first | (with_reducible first | exact HB.out | apply below_alloc | apply pw_below_drewN | apply below_drew1 | refine below_set ?_ GE149.out | refine below_set ?_ GE150.out | refine below_set ?_ GE151.out) | exact HB.out)) : p := h
theorem zB5_4 {p : Prop} (h : p := by repeat (first | (with_reducible first | exact HB.out | apply below_alloc | apply pw_below_drewN | apply below_drew1 | refine below_set ?_ GB81.out | refine below_set ?_ GE149.out | refine below_set ?_ GE150.out | refine below_set ?_ GE151.out) | exact HB.out)) : p := h
theorem zB5_5 {p : Prop} (h : p := by repeat (first | (with_reducible first | exact HB.out | apply below_alloc | apply pw_below_drewN | apply below_drew1 | refine below_set ?_ GB94.out | refine below_set ?_ GE149.out | refine below_set ?_ GE150.out | refine below_set ?_ GE151.out) | exact HB.out)) : p := h
theorem zB5_6 {p : Prop} (h : p := by repeat (first | (with_reducible first | exact HB.out | apply below_alloc | apply pw_below_drewN | apply below_drew1 | refine below_set ?_ GB107.out | refine below_set ?_ GE149.out | refine below_set ?_ GE150.out | refine below_set ?_ GE151.out) | exact HB.out)) : p := h

/-! ### impl_Work: function 155 -/
mutual
def impl_Work.j0 : Nat → Int → Bool → List Int → Int → Int → Int → Int → Int → Int → Int → Option (List Int × Int × Int × Int)
  | 0, _, _, _, _, _, _, _, _, _, _ => none
  | k + 1, x2, x26, x150000, x150001, x150002, x151000, x151001, x151002, x151003, x151004 => if x26 = true then (some (x150000, x150001, x150002, (-1))) else ((impl_InsOk.f x151000 x151001 x151002 x151003 x151004).bind fun t159 => (impl_Work.j1 k x2 (!t159) x150000 x150001 x150002 x151000 x151001 x151002 x151003 x151004))
def impl_Work.j1 : Nat → Int → Bool → List Int → Int → Int → Int → Int → Int → Int → Int → Option (List Int × Int × Int × Int)
  | 0, _, _, _, _, _, _, _, _, _, _ => none
  | k + 1, x2, x30, x150000, x150001, x150002, x151000, x151001, x151002, x151003, x151004 => if x30 = true then (some (x150000, x150001, 2, (-1))) else (if 0 ≤ x151002 then (if x151002 < (x150000.length : Int) then (if 0 ≤ x151003 then (if x151003 < (x150000.length : Int) then ((impl_address.f (wrap64 (x150001 + 1))).bind fun t162 => (impl_Work.j2 k x2 (rd x150000 x151002) (rd x150000 x151003) (-1) t162 x151000 x150000 x150001 x150002 x151000 x151001 x151002 x151003 x151004)) else (none)) else (none)) else (none)) else (none))
def impl_Work.j2 : Nat → Int → Int → Int → Int → Int → Int → List Int → Int → Int → Int → Int → Int → Int → Int → Option (List Int × Int × Int × Int)
  | 0, _, _, _, _, _, _, _, _, _, _, _, _, _, _ => none
  | k + 1, x2, x8, x9, x10, x11, x50, x150000, x150001, x150002, x151000, x151001, x151002, x151003, x151004 => if x50 = 1 then (if 0 ≤ x151001 then (if x151001 < (x150000.length : Int) then (some ((x150000.set (x151001 : Int).toNat x151004), x11, x150002, x10)) else (none)) else (none)) else (if x50 = 2 then ((impl_wrapped.f (wrap64 (x8 + x9))).bind fun t164 => (if 0 ≤ x151001 then (if x151001 < (x150000.length : Int) then (some ((x150000.set (x151001 : Int).toNat t164), x11, x150002, x10)) else (none)) else (none))) else (if x50 = 10 then ((impl_wrapped.f (wrap64 (x8 - x9))).bind fun t166 => (if 0 ≤ x151001 then (if x151001 < (x150000.length : Int) then (some ((x150000.set (x151001 : Int).toNat t166), x11, x150002, x10)) else (none)) else (none))) else (if x50 = 3 then ((impl_wrapped.f (wrap64 (x8 + x151004))).bind fun t168 => (if 0 ≤ x151001 then (if x151001 < (x150000.length : Int) then (some ((x150000.set (x151001 : Int).toNat t168), x11, x150002, x10)) else (none)) else (none))) else (if x50 = 4 then (if 0 ≤ x151001 then (if x151001 < (x150000.length : Int) then (some ((x150000.set (x151001 : Int).toNat x2), x11, x150002, x10)) else (none)) else (none)) else (if x50 = 5 then (some (x150000, x11, x150002, x9)) else (if x50 = 6 then (if 0 ≤ x151001 then (if x151001 < (x150000.length : Int) then ((impl_wrapped.f (wrap64 (x2 + x9))).bind fun t172 => (some ((x150000.set (x151001 : Int).toNat x2), x11, x150002, t172))) else (none)) else (none)) else (if x50 = 7 then (if x8 = 0 then ((impl_address.f x151004).bind fun t173 => (some (x150000, t173, x150002, x10))) else (some (x150000, x11, x150002, x10))) else (if x50 = 8 then ((impl_address.f x151004).bind fun t174 => (some (x150000, t174, x150002, x10))) else (if x50 = 9 then (some (x150000, x150001, 1, x10)) else (some (x150000, x11, x150002, x10)))))))))))
end
def impl_Work.f (k : Nat) (l0_0 : List Int) (a0_1 : Int) (a0_2 : Int) (a1_0 : Int) (a1_1 : Int) (a1_2 : Int) (a1_3 : Int) (a1_4 : Int) (a2 : Int) : Option (List Int × Int × Int × Int) := (impl_copyHart.f l0_0 a0_1 a0_2).bind fun bt152 => ((impl_HartOk.f k bt152.1 bt152.2.1 bt152.2.2).bind fun t157 => (if t157 = true then (if bt152.2.2 = 0 then ((impl_isWord.f a2).bind fun t158 => (impl_Work.j0 k a2 (!t158) bt152.1 bt152.2.1 bt152.2.2 a1_0 a1_1 a1_2 a1_3 a1_4)) else (impl_Work.j0 k a2 true bt152.1 bt152.2.1 bt152.2.2 a1_0 a1_1 a1_2 a1_3 a1_4)) else (impl_Work.j0 k a2 true bt152.1 bt152.2.1 bt152.2.2 a1_0 a1_1 a1_2 a1_3 a1_4)))
theorem impl_Work.mono_l : ∀ k, (∀ y0 y1 y2 y3 y4 y5 y6 y7 y8 y9, LeO (impl_Work.j0 k y0 y1 y2 y3 y4 y5 y6 y7 y8 y9) (impl_Work.j0 (k + 1) y0 y1 y2 y3 y4 y5 y6 y7 y8 y9)) ∧ (∀ y0 y1 y2 y3 y4 y5 y6 y7 y8 y9, LeO (impl_Work.j1 k y0 y1 y2 y3 y4 y5 y6 y7 y8 y9) (impl_Work.j1 (k + 1) y0 y1 y2 y3 y4 y5 y6 y7 y8 y9)) ∧ (∀ y0 y1 y2 y3 y4 y5 y6 y7 y8 y9 y10 y11 y12 y13, LeO (impl_Work.j2 k y0 y1 y2 y3 y4 y5 y6 y7 y8 y9 y10 y11 y12 y13) (impl_Work.j2 (k + 1) y0 y1 y2 y3 y4 y5 y6 y7 y8 y9 y10 y11 y12 y13))
  | 0 => ⟨fun _ _ _ _ _ _ _ _ _ _ r h => by simp [impl_Work.j0] at h, fun _ _ _ _ _ _ _ _ _ _ r h => by simp [impl_Work.j1] at h, fun _ _ _ _ _ _ _ _ _ _ _ _ _ _ r h => by simp [impl_Work.j2] at h⟩
  | k + 1 => by
    obtain ⟨ih0, ih1, ih2⟩ := impl_Work.mono_l k
    refine ⟨?_, ?_, ?_⟩
    · intro y0 y1 y2 y3 y4 y5 y6 y7 y8 y9
      unfold impl_Work.j0
      repeat' first
      | (with_reducible exact ih0 _ _ _ _ _ _ _ _ _ _)
      | (with_reducible exact ih1 _ _ _ _ _ _ _ _ _ _)
      | (with_reducible exact ih2 _ _ _ _ _ _ _ _ _ _ _ _ _ _)
      | (with_reducible exact impl_HartOk.mono _ _ _ _)
      | (with_reducible exact LeO.refl _)
      | (with_reducible exact LeO.none _)
      | (with_reducible refine LeO.ite ?_ ?_)
      | (with_reducible refine LeO.bind ?_ (fun _ => ?_))
      | exact ih0 _ _ _ _ _ _ _ _ _ _
      | exact ih1 _ _ _ _ _ _ _ _ _ _
      | exact ih2 _ _ _ _ _ _ _ _ _ _ _ _ _ _
      | exact impl_HartOk.mono _ _ _ _
      | exact LeO.none _
      | refine LeO.ite ?_ ?_
      | refine LeO.bind ?_ (fun _ => ?_)
    · intro y0 y1 y2 y3 y4 y5 y6 y7 y8 y9
      unfold impl_Work.j1
      repeat' first
      | (with_reducible exact ih0 _ _ _ _ _ _ _ _ _ _)
      | (with_reducible exact ih1 _ _ _ _ _ _ _ _ _ _)
      | (with_reducible exact ih2 _ _ _ _ _ _ _ _ _ _ _ _ _ _)
      | (with_reducible exact impl_HartOk.mono _ _ _ _)
      | (with_reducible exact LeO.refl _)
      | (with_reducible exact LeO.none _)
      | (with_reducible refine LeO.ite ?_ ?_)
      | (with_reducible refine LeO.bind ?_ (fun _ => ?_))
      | exact ih0 _ _ _ _ _ _ _ _ _ _
      | exact ih1 _ _ _ _ _ _ _ _ _ _
      | exact ih2 _ _ _ _ _ _ _ _ _ _ _ _ _ _
      | exact impl_HartOk.mono _ _ _ _
      | exact LeO.none _
      | refine LeO.ite ?_ ?_
      | refine LeO.bind ?_ (fun _ => ?_)
    · intro y0 y1 y2 y3 y4 y5 y6 y7 y8 y9 y10 y11 y12 y13
      unfold impl_Work.j2
      repeat' first
      | (with_reducible exact ih0 _ _ _ _ _ _ _ _ _ _)
      | (with_reducible exact ih1 _ _ _ _ _ _ _ _ _ _)
      | (with_reducible exact ih2 _ _ _ _ _ _ _ _ _ _ _ _ _ _)
      | (with_reducible exact impl_HartOk.mono _ _ _ _)
      | (with_reducible exact LeO.refl _)
      | (with_reducible exact LeO.none _)
      | (with_reducible refine LeO.ite ?_ ?_)
      | (with_reducible refine LeO.bind ?_ (fun _ => ?_))
      | exact ih0 _ _ _ _ _ _ _ _ _ _
      | exact ih1 _ _ _ _ _ _ _ _ _ _
      | exact ih2 _ _ _ _ _ _ _ _ _ _ _ _ _ _
      | exact impl_HartOk.mono _ _ _ _
      | exact LeO.none _
      | refine LeO.ite ?_ ?_
      | refine LeO.bind ?_ (fun _ => ?_)
theorem impl_Work.mono : ∀ a0 a1 a2 a3 a4 a5 a6 a7 a8 k, LeO (impl_Work.f k a0 a1 a2 a3 a4 a5 a6 a7 a8) (impl_Work.f (k + 1) a0 a1 a2 a3 a4 a5 a6 a7 a8) := by
  intro a0 a1 a2 a3 a4 a5 a6 a7 a8 k
  obtain ⟨ih0, ih1, ih2⟩ := impl_Work.mono_l k
  unfold impl_Work.f
  repeat' first
      | (with_reducible exact ih0 _ _ _ _ _ _ _ _ _ _)
      | (with_reducible exact ih1 _ _ _ _ _ _ _ _ _ _)
      | (with_reducible exact ih2 _ _ _ _ _ _ _ _ _ _ _ _ _ _)
      | (with_reducible exact impl_HartOk.mono _ _ _ _)
      | (with_reducible exact LeO.refl _)
      | (with_reducible exact LeO.none _)
      | (with_reducible refine LeO.ite ?_ ?_)
      | (with_reducible refine LeO.bind ?_ (fun _ => ?_))
      | exact ih0 _ _ _ _ _ _ _ _ _ _
      | exact ih1 _ _ _ _ _ _ _ _ _ _
      | exact ih2 _ _ _ _ _ _ _ _ _ _ _ _ _ _
      | exact impl_HartOk.mono _ _ _ _
      | exact LeO.none _
      | refine LeO.ite ?_ ?_
      | refine LeO.bind ?_ (fun _ => ?_)
def impl_Work.T7 : Bool × List (List Nat × List Nat) := (true, [([], []), ([0], [0]), ([], []), ([2], [2]), ([1, 3], [1, 3]), ([4], [4]), ([], []), ([6], [6]), ([], []), ([8], [8]), ([7, 9], [7, 9]), ([10], [10]), ([5, 0, 1, 2, 3, 4, 5], [5]), ([11, 12, 0, 1, 2, 3, 4, 5, 6, 7, 8, 9, 10, 11, 12], [11])])
def impl_Work.B7 : List Nat := [0, 1, 0, 4, 15, 31, 0, 64, 0, 256, 960, 1984, 63, 8191]
theorem impl_Work.tab7 : rtab .any (opsOf Try.f155 7) = impl_Work.T7 := by kernel_rfl
theorem impl_Work.bits7 : waitsOk impl_Work.T7.2 impl_Work.B7 = true := by kernel_rfl
def impl_Work.T14 : Bool × List (List Nat × List Nat) := (true, [([], []), ([0], [0]), ([], []), ([2], [2]), ([], []), ([], []), ([4, 5], [4, 5]), ([6], [6]), ([1, 3, 0, 1, 2, 3, 4, 5, 6, 7], [1, 3]), ([8, 7, 7, 0, 1, 2, 3, 4, 5, 6, 7], [7, 8])])
def impl_Work.B14 : List Nat := [0, 1, 0, 4, 0, 0, 48, 112, 255, 511]
theorem impl_Work.tab14 : rtab .any (opsOf Try.f155 14) = impl_Work.T14 := by kernel_rfl
theorem impl_Work.bits14 : waitsOk impl_Work.T14.2 impl_Work.B14 = true := by kernel_rfl
def impl_Work.T16 : Bool × List (List Nat × List Nat) := (true, [([], []), ([0], [0]), ([], []), ([2], [2]), ([], []), ([], []), ([4, 5], [4, 5]), ([6], [6]), ([1, 3, 0, 1, 2, 3, 4, 5, 6, 7], [1, 3]), ([8, 7, 7, 0, 1, 2, 3, 4, 5, 6, 7], [7, 8])])
def impl_Work.B16 : List Nat := [0, 1, 0, 4, 0, 0, 48, 112, 255, 511]
theorem impl_Work.tab16 : rtab .any (opsOf Try.f155 16) = impl_Work.T16 := by kernel_rfl
theorem impl_Work.bits16 : waitsOk impl_Work.T16.2 impl_Work.B16 = true := by kernel_rfl
def impl_Work.T18 : Bool × List (List Nat × List Nat) := (true, [([], []), ([0], [0]), ([], []), ([2], [2]), ([], []), ([], []), ([5], [5]), ([4, 6], [4, 6]), ([7], [7]), ([1, 3, 0, 1, 2, 3, 4, 5, 6, 7, 8], [1, 3]), ([9, 8, 8, 0, 1, 2, 3, 4, 5, 6, 7, 8], [8, 9])])
def impl_Work.B18 : List Nat := [0, 1, 0, 4, 0, 0, 32, 112, 240, 511, 1023]
theorem impl_Work.tab18 : rtab .any (opsOf Try.f155 18) = impl_Work.T18 := by kernel_rfl
theorem impl_Work.bits18 : waitsOk impl_Work.T18.2 impl_Work.B18 = true := by kernel_rfl
set_option maxHeartbeats 8000000 in
set_option maxRecDepth 100000 in
theorem impl_Work.calls (k : Nat) (A0_0 : Option Addr) (c0_0 : Nat) (l0_0 : List Int) (a0_1 : Int) (a0_2 : Int) (a1_0 : Int) (a1_1 : Int) (a1_2 : Int) (a1_3 : Int) (a1_4 : Int) (a2 : Int) (r1 : List Int) (r2 : Int) (r3 : Int) (r4 : Int) (w : World) (hr0_0 : Kd.C (Kd.int .i64) w A0_0 l0_0.length l0_0) (hc0_0 : l0_0.length ≤ c0_0) (h : impl_Work.f k l0_0 a0_1 a0_2 a1_0 a1_1 a1_2 a1_3 a1_4 a2 = some (r1, r2, r3, r4)) :
    Calls Try.prog 155 #[.agg #[.slice A0_0 l0_0.length c0_0, .int .i64 a0_1, .int .i64 a0_2], .agg #[.int .i64 a1_0, .int .i64 a1_1, .int .i64 a1_2, .int .i64 a1_3, .int .i64 a1_4], .int .i64 a2] w fun e w' => ∃ v0_ : Value, e = .returned (.tuple #[.agg #[v0_, .int .i64 r2, .int .i64 r3], .int .i64 r4]) ∧ Kd.R (Kd.int .i64) 3 w' w.heap.size (fun _ => True) v0_ r1 ∧ Below w.heap.size w w' := by
  have hu31 := Try.underlying31
  have hu54 := Try.underlying54
  have HR0_0 := Aside0.mk hr0_0
  have HC0_0 := Aside0.mk hc0_0
  clear hr0_0 hc0_0
  have HB := Aside0.mk (Below.refl w.heap.size w)
  have H : ((impl_copyHart.f l0_0 a0_1 a0_2).bind fun bt152 => ((impl_HartOk.f k bt152.1 bt152.2.1 bt152.2.2).bind fun t157 => (if t157 = true then (if bt152.2.2 = 0 then ((impl_isWord.f a2).bind fun t158 => (impl_Work.j0 k a2 (!t158) bt152.1 bt152.2.1 bt152.2.2 a1_0 a1_1 a1_2 a1_3 a1_4)) else (impl_Work.j0 k a2 true bt152.1 bt152.2.1 bt152.2.2 a1_0 a1_1 a1_2 a1_3 a1_4)) else (impl_Work.j0 k a2 true bt152.1 bt152.2.1 bt152.2.2 a1_0 a1_1 a1_2 a1_3 a1_4)))) = some (r1, r2, r3, r4) := h
  clear h
  replace H := Option.bind_eq_some_iff.mp H
  obtain ⟨⟨t152, t155, t156⟩, A40, H⟩ := H
  replace H : ((impl_HartOk.f k t152 t155 t156).bind fun t157 => (if t157 = true then (if t156 = 0 then ((impl_isWord.f a2).bind fun t158 => (impl_Work.j0 k a2 (!t158) t152 t155 t156 a1_0 a1_1 a1_2 a1_3 a1_4)) else (impl_Work.j0 k a2 true t152 t155 t156 a1_0 a1_1 a1_2 a1_3 a1_4)) else (impl_Work.j0 k a2 true t152 t155 t156 a1_0 a1_1 a1_2 a1_3 a1_4))) = some (r1, r2, r3, r4) := H
  have A4 := Aside0.mk A40
  clear A40
  have HC5 := Aside0.mk H
  clear H
  go_enter Try.func155, Try.ntmps155
  go_upto_region 2 with (first | ((with_reducible refine gate_dst (N := 3) rfl ?_); refine box_event ?hg (N := 3) ?hd (cs := #[.slice A0_0 l0_0.length c0_0, .int .i64 a0_1, .int .i64 a0_2]) (t := 31) ?hr ?_; (case hd => rfl); (case hg => rfl); (case hr => first | (go_simp; done) | (go_simp; rfl)); intro gb149 hg w6 hbox hb; have n0_ := Aside0.mk (below_step (zB5_0) hb); have n1_ := Aside0.mk (hbox); have n2_ := Aside0.mk ((by rw [hg]; exact (below_size (zB5_0)) : w.heap.size ≤ gb149)); have n3_ := Aside0.mk ((by rw [hg]; exact (below_size (zB5_0)) : w.heap.size ≤ gb149)); clear HB; have HB := n0_; have BK149 := n1_; have GW149 := n2_; have GE149 := n3_; clear n0_ n1_ n2_ n3_; clear hb hbox hg) | ((with_reducible refine gate_dst (N := 4) rfl ?_); refine box_event ?hg (N := 4) ?hd (cs := #[.int .i64 a1_0, .int .i64 a1_1, .int .i64 a1_2, .int .i64 a1_3, .int .i64 a1_4]) (t := 54) ?hr ?_; (case hd => rfl); (case hg => rfl); (case hr => first | (go_simp; done) | (go_simp; rfl)); intro gb150 hg w7 hbox hb; have n0_ := Aside0.mk (blk_below (g := gb149) (o := .cells #[.slice A0_0 l0_0.length c0_0, .int .i64 a0_1, .int .i64 a0_2] 31 (0, 0)) (zK5 BK149.out) hb); have n1_ := Aside0.mk (below_step (zB5_1) hb); have n2_ := Aside0.mk (hbox); have n3_ := Aside0.mk ((by rw [hg]; exact (below_size (zB5_1)) : w.heap.size ≤ gb150)); have n4_ := Aside0.mk ((by rw [hg]; exact (below_size (zB5_1)) : w.heap.size ≤ gb150)); have n5_ := Aside0.mk ((by rw [hg]; exact Nat.ne_of_lt (blk_lt (g := gb149) (o := .cells #[.slice A0_0 l0_0.length c0_0, .int .i64 a0_1, .int .i64 a0_2] 31 (0, 0)) (zK5 BK149.out)) : gb149 ≠ gb150)); have n6_ := Aside0.mk ((by rw [hg]; exact Nat.ne_of_gt (blk_lt (g := gb149) (o := .cells #[.slice A0_0 l0_0.length c0_0, .int .i64 a0_1, .int .i64 a0_2] 31 (0, 0)) (zK5 BK149.out)) : gb150 ≠ gb149)); clear BK149; clear HB; have BK149 := n0_; have HB := n1_; have BK150 := n2_; have GW150 := n3_; have GE150 := n4_; have NB149_150 := n5_; have NB150_149 := n6_; clear n0_ n1_ n2_ n3_ n4_ n5_ n6_; clear hb hbox hg) | ((with_reducible refine gate_dst (N := 6) rfl ?_); refine box_event ?hg (N := 6) ?hd (cs := #[.slice none 0 0, .int .i64 0, .int .i64 0]) (t := 31) ?hr ?_; (case hd => rfl); (case hg => rfl); (case hr => first | (go_simp; done) | (go_simp; rfl)); intro gb151 hg w8 hbox hb; have n0_ := Aside0.mk (blk_below (g := gb149) (o := .cells #[.slice A0_0 l0_0.length c0_0, .int .i64 a0_1, .int .i64 a0_2] 31 (0, 0)) (zK5 BK149.out) hb); have n1_ := Aside0.mk (blk_below (g := gb150) (o := .cells #[.int .i64 a1_0, .int .i64 a1_1, .int .i64 a1_2, .int .i64 a1_3, .int .i64 a1_4] 54 (0, 0)) (zK5 BK150.out) hb); have n2_ := Aside0.mk (below_step (zB5_2) hb); have n3_ := Aside0.mk (hbox); have n4_ := Aside0.mk ((by rw [hg]; exact (below_size (zB5_2)) : w.heap.size ≤ gb151)); have n5_ := Aside0.mk ((by rw [hg]; exact (below_size (zB5_2)) : w.heap.size ≤ gb151)); have n6_ := Aside0.mk ((by rw [hg]; exact Nat.ne_of_lt (blk_lt (g := gb149) (o := .cells #[.slice A0_0 l0_0.length c0_0, .int .i64 a0_1, .int .i64 a0_2] 31 (0, 0)) (zK5 BK149.out)) : gb149 ≠ gb151)); have n7_ := Aside0.mk ((by rw [hg]; exact Nat.ne_of_gt (blk_lt (g := gb149) (o := .cells #[.slice A0_0 l0_0.length c0_0, .int .i64 a0_1, .int .i64 a0_2] 31 (0, 0)) (zK5 BK149.out)) : gb151 ≠ gb149)); have n8_ := Aside0.mk ((by rw [hg]; exact Nat.ne_of_lt (blk_lt (g := gb150) (o := .cells #[.int .i64 a1_0, .int .i64 a1_1, .int .i64 a1_2, .int .i64 a1_3, .int .i64 a1_4] 54 (0, 0)) (zK5 BK150.out)) : gb150 ≠ gb151)); have n9_ := Aside0.mk ((by rw [hg]; exact Nat.ne_of_gt (blk_lt (g := gb150) (o := .cells #[.int .i64 a1_0, .int .i64 a1_1, .int .i64 a1_2, .int .i64 a1_3, .int .i64 a1_4] 54 (0, 0)) (zK5 BK150.out)) : gb151 ≠ gb150)); clear BK149; clear BK150; clear HB; have BK149 := n0_; have BK150 := n1_; have HB := n2_; have BK151 := n3_; have GW151 := n4_; have GE151 := n5_; have NB149_151 := n6_; have NB151_149 := n7_; have NB150_151 := n8_; have NB151_150 := n9_; clear n0_ n1_ n2_ n3_ n4_ n5_ n6_ n7_ n8_ n9_; clear hb hbox hg; have hnb9 := NB149_150.out; have hnc9 := NB150_149.out; have hnb10 := NB149_151.out; have hnc10 := NB151_149.out; have hcz11_0 : w8.cell? ⟨gb149, 0, none⟩ = some (.slice A0_0 l0_0.length c0_0) := (blk_cell BK149.out 0).trans rfl; have hcz11_1 : w8.cell? ⟨gb149, 1, none⟩ = some (.int .i64 a0_1) := (blk_cell BK149.out 1).trans rfl; have hcz11_2 : w8.cell? ⟨gb149, 2, none⟩ = some (.int .i64 a0_2) := (blk_cell BK149.out 2).trans rfl; have hfz11_0 := blk_frozen BK149.out 0; have hfz11_1 := blk_frozen BK149.out 1; have hfz11_2 := blk_frozen BK149.out 2) | ((with_reducible refine gate_callee (f := 153) rfl ?_); refine goesL_ (some 13) rfl rfl Try.func153 (by kernel_rfl) rfl #[.agg #[.slice A0_0 l0_0.length c0_0, .int .i64 a0_1, .int .i64 a0_2]] rfl zT5 ?_; (with_reducible refine (impl_copyHart.calls _ _ l0_0 a0_1 a0_2 t152 t155 t156 _ ?side1 ?side2 A4.out).mono ?_); (case side1 => exact zC5 (Kd.C_below HR0_0.out HB.out)); (case side2 => exact HC0_0.out); rintro e w12 ⟨v153, rfl, ho0, hb⟩; refine ⟨_, rfl, ?_⟩; have n0_ := Aside0.mk (Kd.R_lower ho0 (below_size (zB5_3))); have n1_ := Aside0.mk (blk_below (g := gb149) (o := .cells #[.slice A0_0 l0_0.length c0_0, .int .i64 a0_1, .int .i64 a0_2] 31 (0, 0)) (zK5 BK149.out) hb); have n2_ := Aside0.mk (blk_below (g := gb150) (o := .cells #[.int .i64 a1_0, .int .i64 a1_1, .int .i64 a1_2, .int .i64 a1_3, .int .i64 a1_4] 54 (0, 0)) (zK5 BK150.out) hb); have n3_ := Aside0.mk (blk_below (g := gb151) (o := .cells #[.slice none 0 0, .int .i64 0, .int .i64 0] 31 (0, 0)) (zK5 BK151.out) hb); have n4_ := Aside0.mk (below_step (zB5_3) hb); clear BK149; clear BK150; clear BK151; clear HB; have HO154 := n0_; have BK149 := n1_; have BK150 := n2_; have BK151 := n3_; have HB := n4_; clear n0_ n1_ n2_ n3_ n4_; (try clear hb); (try clear hb2); (try clear hk); (try clear hi); (try clear ho0); obtain ⟨Ao13, co13, eo13⟩ := Kd.R_slice HO154.out; subst eo13; have hcz14_0 : w12.cell? ⟨gb149, 0, none⟩ = some (.slice A0_0 l0_0.length c0_0) := (blk_cell BK149.out 0).trans rfl; have hcz14_1 : w12.cell? ⟨gb149, 1, none⟩ = some (.int .i64 a0_1) := (blk_cell BK149.out 1).trans rfl; have hcz14_2 : w12.cell? ⟨gb149, 2, none⟩ = some (.int .i64 a0_2) := (blk_cell BK149.out 2).trans rfl; have hfz14_0 := blk_frozen BK149.out 0; have hfz14_1 := blk_frozen BK149.out 1; have hfz14_2 := blk_frozen BK149.out 2))
  (try simp only [Act.put, List.setIfInBounds_toArray, List.set_cons_zero, List.set_cons_succ])
  go_cut [26] (fun v26 wc => ∃ (kq : Nat) (x26_4 : Bool), v26 = .bool x26_4 ∧ Aside0 (impl_Work.j0 kq a2 x26_4 t152 t155 t156 a1_0 a1_1 a1_2 a1_3 a1_4 = some (r1, r2, r3, r4)) ∧ Aside0 (kq ≤ k) ∧ Aside0 (Kd.R (Kd.int .i64) 3 wc w.heap.size (fun _ => True) (.slice Ao13 t152.length co13) t152) ∧ Aside0 (wc.heap[gb149]? = some (.cells #[(.slice Ao13 t152.length co13), .int .i64 t155, .int .i64 t156] 31 (0, 0))) ∧ Aside0 (wc.heap[gb150]? = some (.cells #[.int .i64 a1_0, .int .i64 a1_1, .int .i64 a1_2, .int .i64 a1_3, .int .i64 a1_4] 54 (0, 0))) ∧ Aside0 (wc.heap[gb151]? = some (.cells #[(.slice none 0 0), .int .i64 0, .int .i64 0] 31 (0, 0))) ∧ Aside0 (Below w.heap.size w wc))
  case first =>
    have H := HC5.out
    clear HC5
    replace H := Option.bind_eq_some_iff.mp H
    obtain ⟨t157, A150, H⟩ := H
    replace H : (if t157 = true then (if t156 = 0 then ((impl_isWord.f a2).bind fun t158 => (impl_Work.j0 k a2 (!t158) t152 t155 t156 a1_0 a1_1 a1_2 a1_3 a1_4)) else (impl_Work.j0 k a2 true t152 t155 t156 a1_0 a1_1 a1_2 a1_3 a1_4)) else (impl_Work.j0 k a2 true t152 t155 t156 a1_0 a1_1 a1_2 a1_3 a1_4)) = some (r1, r2, r3, r4) := H
    have A15 := Aside0.mk A150
    clear A150
    by_cases c16 : t157 = true
    rotate_left
    · replace c16 := Bool.eq_false_iff.mpr c16
      subst c16
      have H1 : (impl_Work.j0 k a2 true t152 t155 t156 a1_0 a1_1 a1_2 a1_3 a1_4) = some (r1, r2, r3, r4) := by rw [if_neg (show ¬ (false = true) by decide)] at H; exact H
      clear H
      have H := H1
      clear H1
      have H' := Aside0.mk H
      clear H
      have hnb29 := NB149_150.out
      have hnc29 := NB150_149.out
      have hnb30 := NB149_151.out
      have hnc30 := NB151_149.out
      have hcz31_0 : w12.cell? ⟨gb149, 0, none⟩ = some (.slice A0_0 l0_0.length c0_0) := (blk_cell BK149.out 0).trans rfl
      have hcz31_1 : w12.cell? ⟨gb149, 1, none⟩ = some (.int .i64 a0_1) := (blk_cell BK149.out 1).trans rfl
      have hcz31_2 : w12.cell? ⟨gb149, 2, none⟩ = some (.int .i64 a0_2) := (blk_cell BK149.out 2).trans rfl
      have hfz31_0 := blk_frozen BK149.out 0
      have hfz31_1 := blk_frozen BK149.out 1
      have hfz31_2 := blk_frozen BK149.out 2
      go_wp2_with (first | ((with_reducible refine gate_callee (f := 141) rfl ?_); refine goesL_ (some 15) rfl rfl Try.func141 (by kernel_rfl) rfl #[.agg #[.slice Ao13 t152.length co13, .int .i64 t155, .int .i64 t156]] rfl zT5 ?_; (with_reducible refine (impl_HartOk.calls k _ _ t152 t155 t156 false _ ?side1 ?side2 A15.out).mono ?_); (case side1 => refine (Kd.R_reads' (e := 3) (base := w.heap.size) (ok := fun k_ => True) (n := t152.length) (c := co13) ?_).2.2; exact (by (with_reducible repeat (first | apply Kd.R_alloc | apply Kd.R_drewN | apply Kd.R_drew)); exact (Kd.R_mono (Kd.R_far (p := ⟨gb149, 2, none⟩) (Kd.R_far (p := ⟨gb149, 1, none⟩) (Kd.R_far (p := ⟨gb149, 0, none⟩) (Kd.R_types HO154.out BK149.out (by decide)) (fun _ hk => hk.2) (.slice Ao13 t152.length co13)) (fun _ hk => hk.2) (.int .i64 t155)) (fun _ hk => hk.2) (.int .i64 t156)) (fun _ h_ => h_.1)))); (case side2 => exact (Kd.R_reads' HO154.out).2.1); rintro e w32 ⟨rfl, hb⟩; refine ⟨_, rfl, ?_⟩; have n0_ := Aside0.mk (Kd.R_below (by (with_reducible repeat (first | apply Kd.R_alloc | apply Kd.R_drewN | apply Kd.R_drew)); exact (Kd.R_mono (Kd.R_far (p := ⟨gb149, 2, none⟩) (Kd.R_far (p := ⟨gb149, 1, none⟩) (Kd.R_far (p := ⟨gb149, 0, none⟩) (Kd.R_types HO154.out BK149.out (by decide)) (fun _ hk => hk.2) (.slice Ao13 t152.length co13)) (fun _ hk => hk.2) (.int .i64 t155)) (fun _ hk => hk.2) (.int .i64 t156)) (fun _ h_ => h_.1))) hb); have n1_ := Aside0.mk (blk_below (g := gb149) (o := .cells #[.slice Ao13 t152.length co13, .int .i64 t155, .int .i64 t156] 31 (0, 0)) (by (with_reducible repeat (first | refine blk_drewN ?_ _ | refine blk_drew ?_ | refine blk_alloc ?_ _)); refine blk_put (cs := #[.slice Ao13 t152.length co13, .int .i64 t155, .int .i64 a0_2]) ?_ 2 _ rfl; (with_reducible repeat (first | refine blk_drewN ?_ _ | refine blk_drew ?_ | refine blk_alloc ?_ _)); refine blk_put (cs := #[.slice Ao13 t152.length co13, .int .i64 a0_1, .int .i64 a0_2]) ?_ 1 _ rfl; (with_reducible repeat (first | refine blk_drewN ?_ _ | refine blk_drew ?_ | refine blk_alloc ?_ _)); refine blk_put (cs := #[.slice A0_0 l0_0.length c0_0, .int .i64 a0_1, .int .i64 a0_2]) ?_ 0 _ rfl; (with_reducible repeat (first | refine blk_drewN ?_ _ | refine blk_drew ?_ | refine blk_alloc ?_ _)); exact BK149.out) hb); have n2_ := Aside0.mk (blk_below (g := gb150) (o := .cells #[.int .i64 a1_0, .int .i64 a1_1, .int .i64 a1_2, .int .i64 a1_3, .int .i64 a1_4] 54 (0, 0)) (by (with_reducible repeat (first | refine blk_drewN ?_ _ | refine blk_drew ?_ | refine blk_alloc ?_ _)); refine blk_far ?_ NB150_149.out _; (with_reducible repeat (first | refine blk_drewN ?_ _ | refine blk_drew ?_ | refine blk_alloc ?_ _)); refine blk_far ?_ NB150_149.out _; (with_reducible repeat (first | refine blk_drewN ?_ _ | refine blk_drew ?_ | refine blk_alloc ?_ _)); refine blk_far ?_ NB150_149.out _; (with_reducible repeat (first | refine blk_drewN ?_ _ | refine blk_drew ?_ | refine blk_alloc ?_ _)); exact BK150.out) hb); have n3_ := Aside0.mk (blk_below (g := gb151) (o := .cells #[.slice none 0 0, .int .i64 0, .int .i64 0] 31 (0, 0)) (by (with_reducible repeat (first | refine blk_drewN ?_ _ | refine blk_drew ?_ | refine blk_alloc ?_ _)); refine blk_far ?_ NB151_149.out _; (with_reducible repeat (first | refine blk_drewN ?_ _ | refine blk_drew ?_ | refine blk_alloc ?_ _)); refine blk_far ?_ NB151_149.out _; (with_reducible repeat (first | refine blk_drewN ?_ _ | refine blk_drew ?_ | refine blk_alloc ?_ _)); refine blk_far ?_ NB151_149.out _; (with_reducible repeat (first | refine blk_drewN ?_ _ | refine blk_drew ?_ | refine blk_alloc ?_ _)); exact BK151.out) hb); have n4_ := Aside0.mk (below_step (zB5_3) hb); clear HO154; clear BK149; clear BK150; clear BK151; clear HB; have HO154 := n0_; have BK149 := n1_; have BK150 := n2_; have BK151 := n3_; have HB := n4_; clear n0_ n1_ n2_ n3_ n4_; (try clear hb); (try clear hb2); (try clear hk); (try clear hi)))
      go_meet
      case rel => exact ⟨_, (true), (by first | rfl | (simp; done) | (simp [*]; done)), H', ⟨by first | omega | exact Nat.le_refl _⟩, ⟨zR5 HO154.out⟩, ⟨zK5 BK149.out⟩, ⟨zK5 BK150.out⟩, ⟨zK5 BK151.out⟩, ⟨zB5_3⟩⟩
    subst c16
    have H1 : (if t156 = 0 then ((impl_isWord.f a2).bind fun t158 => (impl_Work.j0 k a2 (!t158) t152 t155 t156 a1_0 a1_1 a1_2 a1_3 a1_4)) else (impl_Work.j0 k a2 true t152 t155 t156 a1_0 a1_1 a1_2 a1_3 a1_4)) = some (r1, r2, r3, r4) := by rw [if_pos rfl] at H; exact H
    clear H
    have H := H1
    clear H1
    by_cases c17 : t156 = 0
    rotate_left
    · rw [if_neg c17] at H
      have c17b0 : (t156 == 0) = false := beq_eq_false_iff_ne.mpr c17
      have c17b1 : (t156 != 0) = true := bne_iff_ne.mpr c17
      (first | rw [c17b0] | (simp only [i64_w, i32_w]; rw [c17b0]) | skip)
      have H' := Aside0.mk H
      clear H
      have hnb24 := NB149_150.out
      have hnc24 := NB150_149.out
      have hnb25 := NB149_151.out
      have hnc25 := NB151_149.out
      have hcz26_0 : w12.cell? ⟨gb149, 0, none⟩ = some (.slice A0_0 l0_0.length c0_0) := (blk_cell BK149.out 0).trans rfl
      have hcz26_1 : w12.cell? ⟨gb149, 1, none⟩ = some (.int .i64 a0_1) := (blk_cell BK149.out 1).trans rfl
      have hcz26_2 : w12.cell? ⟨gb149, 2, none⟩ = some (.int .i64 a0_2) := (blk_cell BK149.out 2).trans rfl
      have hfz26_0 := blk_frozen BK149.out 0
      have hfz26_1 := blk_frozen BK149.out 1
      have hfz26_2 := blk_frozen BK149.out 2
      go_wp2_with (first | ((with_reducible refine gate_callee (f := 141) rfl ?_); refine goesL_ (some 15) rfl rfl Try.func141 (by kernel_rfl) rfl #[.agg #[.slice Ao13 t152.length co13, .int .i64 t155, .int .i64 t156]] rfl zT5 ?_; (with_reducible refine (impl_HartOk.calls k _ _ t152 t155 t156 true _ ?side1 ?side2 A15.out).mono ?_); (case side1 => refine (Kd.R_reads' (e := 3) (base := w.heap.size) (ok := fun k_ => True) (n := t152.length) (c := co13) ?_).2.2; exact (by (with_reducible repeat (first | apply Kd.R_alloc | apply Kd.R_drewN | apply Kd.R_drew)); exact (Kd.R_mono (Kd.R_far (p := ⟨gb149, 2, none⟩) (Kd.R_far (p := ⟨gb149, 1, none⟩) (Kd.R_far (p := ⟨gb149, 0, none⟩) (Kd.R_types HO154.out BK149.out (by decide)) (fun _ hk => hk.2) (.slice Ao13 t152.length co13)) (fun _ hk => hk.2) (.int .i64 t155)) (fun _ hk => hk.2) (.int .i64 t156)) (fun _ h_ => h_.1)))); (case side2 => exact (Kd.R_reads' HO154.out).2.1); rintro e w27 ⟨rfl, hb⟩; refine ⟨_, rfl, ?_⟩; have n0_ := Aside0.mk (Kd.R_below (by (with_reducible repeat (first | apply Kd.R_alloc | apply Kd.R_drewN | apply Kd.R_drew)); exact (Kd.R_mono (Kd.R_far (p := ⟨gb149, 2, none⟩) (Kd.R_far (p := ⟨gb149, 1, none⟩) (Kd.R_far (p := ⟨gb149, 0, none⟩) (Kd.R_types HO154.out BK149.out (by decide)) (fun _ hk => hk.2) (.slice Ao13 t152.length co13)) (fun _ hk => hk.2) (.int .i64 t155)) (fun _ hk => hk.2) (.int .i64 t156)) (fun _ h_ => h_.1))) hb); have n1_ := Aside0.mk (blk_below (g := gb149) (o := .cells #[.slice Ao13 t152.length co13, .int .i64 t155, .int .i64 t156] 31 (0, 0)) (by (with_reducible repeat (first | refine blk_drewN ?_ _ | refine blk_drew ?_ | refine blk_alloc ?_ _)); refine blk_put (cs := #[.slice Ao13 t152.length co13, .int .i64 t155, .int .i64 a0_2]) ?_ 2 _ rfl; (with_reducible repeat (first | refine blk_drewN ?_ _ | refine blk_drew ?_ | refine blk_alloc ?_ _)); refine blk_put (cs := #[.slice Ao13 t152.length co13, .int .i64 a0_1, .int .i64 a0_2]) ?_ 1 _ rfl; (with_reducible repeat (first | refine blk_drewN ?_ _ | refine blk_drew ?_ | refine blk_alloc ?_ _)); refine blk_put (cs := #[.slice A0_0 l0_0.length c0_0, .int .i64 a0_1, .int .i64 a0_2]) ?_ 0 _ rfl; (with_reducible repeat (first | refine blk_drewN ?_ _ | refine blk_drew ?_ | refine blk_alloc ?_ _)); exact BK149.out) hb); have n2_ := Aside0.mk (blk_below (g := gb150) (o := .cells #[.int .i64 a1_0, .int .i64 a1_1, .int .i64 a1_2, .int .i64 a1_3, .int .i64 a1_4] 54 (0, 0)) (by (with_reducible repeat (first | refine blk_drewN ?_ _ | refine blk_drew ?_ | refine blk_alloc ?_ _)); refine blk_far ?_ NB150_149.out _; (with_reducible repeat (first | refine blk_drewN ?_ _ | refine blk_drew ?_ | refine blk_alloc ?_ _)); refine blk_far ?_ NB150_149.out _; (with_reducible repeat (first | refine blk_drewN ?_ _ | refine blk_drew ?_ | refine blk_alloc ?_ _)); refine blk_far ?_ NB150_149.out _; (with_reducible repeat (first | refine blk_drewN ?_ _ | refine blk_drew ?_ | refine blk_alloc ?_ _)); exact BK150.out) hb); have n3_ := Aside0.mk (blk_below (g := gb151) (o := .cells #[.slice none 0 0, .int .i64 0, .int .i64 0] 31 (0, 0)) (by (with_reducible repeat (first | refine blk_drewN ?_ _ | refine blk_drew ?_ | refine blk_alloc ?_ _)); refine blk_far ?_ NB151_149.out _; (with_reducible repeat (first | refine blk_drewN ?_ _ | refine blk_drew ?_ | refine blk_alloc ?_ _)); refine blk_far ?_ NB151_149.out _; (with_reducible repeat (first | refine blk_drewN ?_ _ | refine blk_drew ?_ | refine blk_alloc ?_ _)); refine blk_far ?_ NB151_149.out _; (with_reducible repeat (first | refine blk_drewN ?_ _ | refine blk_drew ?_ | refine blk_alloc ?_ _)); exact BK151.out) hb); have n4_ := Aside0.mk (below_step (zB5_3) hb); clear HO154; clear BK149; clear BK150; clear BK151; clear HB; have HO154 := n0_; have BK149 := n1_; have BK150 := n2_; have BK151 := n3_; have HB := n4_; clear n0_ n1_ n2_ n3_ n4_; (try clear hb); (try clear hb2); (try clear hk); (try clear hi); have hcz28_0 : w27.cell? ⟨gb149, 0, none⟩ = some (.slice Ao13 t152.length co13) := (blk_cell BK149.out 0).trans rfl; have hcz28_1 : w27.cell? ⟨gb149, 1, none⟩ = some (.int .i64 t155) := (blk_cell BK149.out 1).trans rfl; have hcz28_2 : w27.cell? ⟨gb149, 2, none⟩ = some (.int .i64 t156) := (blk_cell BK149.out 2).trans rfl; have hfz28_0 := blk_frozen BK149.out 0; have hfz28_1 := blk_frozen BK149.out 1; have hfz28_2 := blk_frozen BK149.out 2))
      go_meet
      case rel => exact ⟨_, (true), (by first | rfl | (simp; done) | (simp [*]; done)), H', ⟨by first | omega | exact Nat.le_refl _⟩, ⟨zR5 HO154.out⟩, ⟨zK5 BK149.out⟩, ⟨zK5 BK150.out⟩, ⟨zK5 BK151.out⟩, ⟨zB5_3⟩⟩
    rw [if_pos c17] at H
    have c17b0 : (t156 == 0) = true := beq_iff_eq.mpr c17
    have c17b1 : (t156 != 0) = false := bne_eq_false_iff_eq.mpr c17
    clear c17
    (first | rw [c17b0] | (simp only [i64_w, i32_w]; rw [c17b0]) | skip)
    replace H := Option.bind_eq_some_iff.mp H
    obtain ⟨t158, A180, H⟩ := H
    replace H : (impl_Work.j0 k a2 (!t158) t152 t155 t156 a1_0 a1_1 a1_2 a1_3 a1_4) = some (r1, r2, r3, r4) := H
    have A18 := Aside0.mk A180
    clear A180
    have H' := Aside0.mk H
    clear H
    have hnb19 := NB149_150.out
    have hnc19 := NB150_149.out
    have hnb20 := NB149_151.out
    have hnc20 := NB151_149.out
    have hcz21_0 : w12.cell? ⟨gb149, 0, none⟩ = some (.slice A0_0 l0_0.length c0_0) := (blk_cell BK149.out 0).trans rfl
    have hcz21_1 : w12.cell? ⟨gb149, 1, none⟩ = some (.int .i64 a0_1) := (blk_cell BK149.out 1).trans rfl
    have hcz21_2 : w12.cell? ⟨gb149, 2, none⟩ = some (.int .i64 a0_2) := (blk_cell BK149.out 2).trans rfl
    have hfz21_0 := blk_frozen BK149.out 0
    have hfz21_1 := blk_frozen BK149.out 1
    have hfz21_2 := blk_frozen BK149.out 2
    go_wp2_with (first | ((with_reducible refine gate_callee (f := 141) rfl ?_); refine goesL_ (some 15) rfl rfl Try.func141 (by kernel_rfl) rfl #[.agg #[.slice Ao13 t152.length co13, .int .i64 t155, .int .i64 t156]] rfl zT5 ?_; (with_reducible refine (impl_HartOk.calls k _ _ t152 t155 t156 true _ ?side1 ?side2 A15.out).mono ?_); (case side1 => refine (Kd.R_reads' (e := 3) (base := w.heap.size) (ok := fun k_ => True) (n := t152.length) (c := co13) ?_).2.2; exact (by (with_reducible repeat (first | apply Kd.R_alloc | apply Kd.R_drewN | apply Kd.R_drew)); exact (Kd.R_mono (Kd.R_far (p := ⟨gb149, 2, none⟩) (Kd.R_far (p := ⟨gb149, 1, none⟩) (Kd.R_far (p := ⟨gb149, 0, none⟩) (Kd.R_types HO154.out BK149.out (by decide)) (fun _ hk => hk.2) (.slice Ao13 t152.length co13)) (fun _ hk => hk.2) (.int .i64 t155)) (fun _ hk => hk.2) (.int .i64 t156)) (fun _ h_ => h_.1)))); (case side2 => exact (Kd.R_reads' HO154.out).2.1); rintro e w22 ⟨rfl, hb⟩; refine ⟨_, rfl, ?_⟩; have n0_ := Aside0.mk (Kd.R_below (by (with_reducible repeat (first | apply Kd.R_alloc | apply Kd.R_drewN | apply Kd.R_drew)); exact (Kd.R_mono (Kd.R_far (p := ⟨gb149, 2, none⟩) (Kd.R_far (p := ⟨gb149, 1, none⟩) (Kd.R_far (p := ⟨gb149, 0, none⟩) (Kd.R_types HO154.out BK149.out (by decide)) (fun _ hk => hk.2) (.slice Ao13 t152.length co13)) (fun _ hk => hk.2) (.int .i64 t155)) (fun _ hk => hk.2) (.int .i64 t156)) (fun _ h_ => h_.1))) hb); have n1_ := Aside0.mk (blk_below (g := gb149) (o := .cells #[.slice Ao13 t152.length co13, .int .i64 t155, .int .i64 t156] 31 (0, 0)) (by (with_reducible repeat (first | refine blk_drewN ?_ _ | refine blk_drew ?_ | refine blk_alloc ?_ _)); refine blk_put (cs := #[.slice Ao13 t152.length co13, .int .i64 t155, .int .i64 a0_2]) ?_ 2 _ rfl; (with_reducible repeat (first | refine blk_drewN ?_ _ | refine blk_drew ?_ | refine blk_alloc ?_ _)); refine blk_put (cs := #[.slice Ao13 t152.length co13, .int .i64 a0_1, .int .i64 a0_2]) ?_ 1 _ rfl; (with_reducible repeat (first | refine blk_drewN ?_ _ | refine blk_drew ?_ | refine blk_alloc ?_ _)); refine blk_put (cs := #[.slice A0_0 l0_0.length c0_0, .int .i64 a0_1, .int .i64 a0_2]) ?_ 0 _ rfl; (with_reducible repeat (first | refine blk_drewN ?_ _ | refine blk_drew ?_ | refine blk_alloc ?_ _)); exact BK149.out) hb); have n2_ := Aside0.mk (blk_below (g := gb150) (o := .cells #[.int .i64 a1_0, .int .i64 a1_1, .int .i64 a1_2, .int .i64 a1_3, .int .i64 a1_4] 54 (0, 0)) (by (with_reducible repeat (first | refine blk_drewN ?_ _ | refine blk_drew ?_ | refine blk_alloc ?_ _)); refine blk_far ?_ NB150_149.out _; (with_reducible repeat (first | refine blk_drewN ?_ _ | refine blk_drew ?_ | refine blk_alloc ?_ _)); refine blk_far ?_ NB150_149.out _; (with_reducible repeat (first | refine blk_drewN ?_ _ | refine blk_drew ?_ | refine blk_alloc ?_ _)); refine blk_far ?_ NB150_149.out _; (with_reducible repeat (first | refine blk_drewN ?_ _ | refine blk_drew ?_ | refine blk_alloc ?_ _)); exact BK150.out) hb); have n3_ := Aside0.mk (blk_below (g := gb151) (o := .cells #[.slice none 0 0, .int .i64 0, .int .i64 0] 31 (0, 0)) (by (with_reducible repeat (first | refine blk_drewN ?_ _ | refine blk_drew ?_ | refine blk_alloc ?_ _)); refine blk_far ?_ NB151_149.out _; (with_reducible repeat (first | refine blk_drewN ?_ _ | refine blk_drew ?_ | refine blk_alloc ?_ _)); refine blk_far ?_ NB151_149.out _; (with_reducible repeat (first | refine blk_drewN ?_ _ | refine blk_drew ?_ | refine blk_alloc ?_ _)); refine blk_far ?_ NB151_149.out _; (with_reducible repeat (first | refine blk_drewN ?_ _ | refine blk_drew ?_ | refine blk_alloc ?_ _)); exact BK151.out) hb); have n4_ := Aside0.mk (below_step (zB5_3) hb); clear HO154; clear BK149; clear BK150; clear BK151; clear HB; have HO154 := n0_; have BK149 := n1_; have BK150 := n2_; have BK151 := n3_; have HB := n4_; clear n0_ n1_ n2_ n3_ n4_; (try clear hb); (try clear hb2); (try clear hk); (try clear hi); have hcz23_0 : w22.cell? ⟨gb149, 0, none⟩ = some (.slice Ao13 t152.length co13) := (blk_cell BK149.out 0).trans rfl; have hcz23_1 : w22.cell? ⟨gb149, 1, none⟩ = some (.int .i64 t155) := (blk_cell BK149.out 1).trans rfl; have hcz23_2 : w22.cell? ⟨gb149, 2, none⟩ = some (.int .i64 t156) := (blk_cell BK149.out 2).trans rfl; have hfz23_0 := blk_frozen BK149.out 0; have hfz23_1 := blk_frozen BK149.out 1; have hfz23_2 := blk_frozen BK149.out 2) | (go_at_call 134; (with_reducible refine (impl_isWord.calls a2 t158 _ A18.out).mono ?_); rintro e w' ⟨rfl, ⟨nd, rfl⟩⟩))
    go_meet
    case rel => exact ⟨_, (!t158), (by first | rfl | (simp; done) | (simp [*]; done)), H', ⟨by first | omega | exact Nat.le_refl _⟩, ⟨zR5 HO154.out⟩, ⟨zK5 BK149.out⟩, ⟨zK5 BK150.out⟩, ⟨zK5 BK151.out⟩, ⟨zB5_3⟩⟩
  case rest =>
    clear HC5
    try clear c1
    try clear c2
    try clear p2
    try clear c3
    try clear c9
    try clear c10
    try clear c14
    try clear c15
    try clear c16
    try clear c17
    try clear c17b0
    try clear c17b1
    try clear c19
    try clear c20
    try clear c24
    try clear c25
    try clear c29
    try clear c30
    try clear hcz11_0
    try clear hcz11_1
    try clear hcz11_2
    try clear hcz14_0
    try clear hcz14_1
    try clear hcz14_2
    try clear hcz21_0
    try clear hcz21_1
    try clear hcz21_2
    try clear hcz23_0
    try clear hcz23_1
    try clear hcz23_2
    try clear hcz26_0
    try clear hcz26_1
    try clear hcz26_2
    try clear hcz28_0
    try clear hcz28_1
    try clear hcz28_2
    try clear hcz31_0
    try clear hcz31_1
    try clear hcz31_2
    try clear hfz11_0
    try clear hfz11_1
    try clear hfz11_2
    try clear hfz14_0
    try clear hfz14_1
    try clear hfz14_2
    try clear hfz21_0
    try clear hfz21_1
    try clear hfz21_2
    try clear hfz23_0
    try clear hfz23_1
    try clear hfz23_2
    try clear hfz26_0
    try clear hfz26_1
    try clear hfz26_2
    try clear hfz28_0
    try clear hfz28_1
    try clear hfz28_2
    try clear hfz31_0
    try clear hfz31_1
    try clear hfz31_2
    obtain ⟨kq, x26_4, rfl, HA, HJ4, HO_150000, BK149, BK150, BK151, HB⟩ := hcut
    cases kq with
    | zero => exact absurd HA.out (by simp [impl_Work.j0])
    | succ kj4 =>
      have H := HA.out
      clear HA
      simp only [impl_Work.j0] at H
      by_cases c33 : x26_4 = true
      · subst c33
        have H1 : (some (t152, t155, t156, (-1))) = some (r1, r2, r3, r4) := by rw [if_pos rfl] at H; exact H
        clear H
        have H := H1
        clear H1
        simp only [Option.some.injEq, Prod.mk.injEq] at H
        obtain ⟨rfl, rfl, rfl, rfl⟩ := H
        have hnb34 := NB149_150.out
        have hnc34 := NB150_149.out
        have hnb35 := NB149_151.out
        have hnc35 := NB151_149.out
        have hcz36_0 : wc.cell? ⟨gb149, 0, none⟩ = some (.slice Ao13 t152.length co13) := (blk_cell BK149.out 0).trans rfl
        have hcz36_1 : wc.cell? ⟨gb149, 1, none⟩ = some (.int .i64 t155) := (blk_cell BK149.out 1).trans rfl
        have hcz36_2 : wc.cell? ⟨gb149, 2, none⟩ = some (.int .i64 t156) := (blk_cell BK149.out 2).trans rfl
        have hfz36_0 := blk_frozen BK149.out 0
        have hfz36_1 := blk_frozen BK149.out 1
        have hfz36_2 := blk_frozen BK149.out 2
        have hnb37 := NB151_150.out
        have hnc37 := NB150_151.out
        have hcz38_0 : wc.cell? ⟨gb151, 0, none⟩ = some (.slice none 0 0) := (blk_cell BK151.out 0).trans rfl
        have hcz38_1 : wc.cell? ⟨gb151, 1, none⟩ = some (.int .i64 0) := (blk_cell BK151.out 1).trans rfl
        have hcz38_2 : wc.cell? ⟨gb151, 2, none⟩ = some (.int .i64 0) := (blk_cell BK151.out 2).trans rfl
        have hfz38_0 := blk_frozen BK151.out 0
        have hfz38_1 := blk_frozen BK151.out 1
        have hfz38_2 := blk_frozen BK151.out 2
        go_wp2
        refine bodyPost_ret (results_ct rfl _ _ gb151 31 #[.slice Ao13 t152.length co13, .int .i64 t155, .int .i64 t156] (0, 0) _ rfl (by (with_reducible repeat (first | refine blk_drewN ?_ _ | refine blk_drew ?_ | refine blk_alloc ?_ _)); refine blk_put (cs := #[.slice Ao13 t152.length co13, .int .i64 t155, .int .i64 0]) ?_ 2 _ rfl; (with_reducible repeat (first | refine blk_drewN ?_ _ | refine blk_drew ?_ | refine blk_alloc ?_ _)); refine blk_put (cs := #[.slice Ao13 t152.length co13, .int .i64 0, .int .i64 0]) ?_ 1 _ rfl; (with_reducible repeat (first | refine blk_drewN ?_ _ | refine blk_drew ?_ | refine blk_alloc ?_ _)); refine blk_put (cs := #[.slice none 0 0, .int .i64 0, .int .i64 0]) ?_ 0 _ rfl; (with_reducible repeat (first | refine blk_drewN ?_ _ | refine blk_drew ?_ | refine blk_alloc ?_ _)); exact BK151.out) Try.underlying31 rfl (by kernel_rfl)) rfl ?_
        exact ⟨_, zE5, by (with_reducible repeat (first | apply Kd.R_alloc | apply Kd.R_drewN | apply Kd.R_drew)); exact Kd.R_mono (Kd.R_far (p := ⟨gb151, 2, none⟩) (Kd.R_far (p := ⟨gb151, 1, none⟩) (Kd.R_far (p := ⟨gb151, 0, none⟩) (Kd.R_types HO_150000.out BK151.out (by decide)) (fun _ hk => hk.2) (.slice Ao13 t152.length co13)) (fun _ hk => hk.2) (.int .i64 t155)) (fun _ hk => hk.2) (.int .i64 t156)) (fun _ hk => trivial), zB5_3⟩
      replace c33 := Bool.eq_false_iff.mpr c33
      subst c33
      have H1 : ((impl_InsOk.f a1_0 a1_1 a1_2 a1_3 a1_4).bind fun t159 => (impl_Work.j1 kj4 a2 (!t159) t152 t155 t156 a1_0 a1_1 a1_2 a1_3 a1_4)) = some (r1, r2, r3, r4) := by rw [if_neg (show ¬ (false = true) by decide)] at H; exact H
      clear H
      have H := H1
      clear H1
      have HC39 := Aside0.mk H
      clear H
      go_upto_region 4 with (fail)
      go_cut [30] (fun v30 wc => ∃ (kq : Nat) (x30_38 : Bool), v30 = .bool x30_38 ∧ Aside0 (impl_Work.j1 kq a2 x30_38 t152 t155 t156 a1_0 a1_1 a1_2 a1_3 a1_4 = some (r1, r2, r3, r4)) ∧ Aside0 (kq ≤ kj4) ∧ Aside0 (Kd.R (Kd.int .i64) 3 wc w.heap.size (fun _ => True) (.slice Ao13 t152.length co13) t152) ∧ Aside0 (wc.heap[gb149]? = some (.cells #[(.slice Ao13 t152.length co13), .int .i64 t155, .int .i64 t156] 31 (0, 0))) ∧ Aside0 (wc.heap[gb150]? = some (.cells #[.int .i64 a1_0, .int .i64 a1_1, .int .i64 a1_2, .int .i64 a1_3, .int .i64 a1_4] 54 (0, 0))) ∧ Aside0 (wc.heap[gb151]? = some (.cells #[(.slice none 0 0), .int .i64 0, .int .i64 0] 31 (0, 0))) ∧ Aside0 (Below w.heap.size w wc))
      case first =>
        have H := HC39.out
        clear HC39
        replace H := Option.bind_eq_some_iff.mp H
        obtain ⟨t159, A400, H⟩ := H
        replace H : (impl_Work.j1 kj4 a2 (!t159) t152 t155 t156 a1_0 a1_1 a1_2 a1_3 a1_4) = some (r1, r2, r3, r4) := H
        have A40 := Aside0.mk A400
        clear A400
        have H' := Aside0.mk H
        clear H
        have hnb41 := NB150_149.out
        have hnc41 := NB149_150.out
        have hnb42 := NB150_151.out
        have hnc42 := NB151_150.out
        have hcz43_0 : wc.cell? ⟨gb150, 0, none⟩ = some (.int .i64 a1_0) := (blk_cell BK150.out 0).trans rfl
        have hcz43_1 : wc.cell? ⟨gb150, 1, none⟩ = some (.int .i64 a1_1) := (blk_cell BK150.out 1).trans rfl
        have hcz43_2 : wc.cell? ⟨gb150, 2, none⟩ = some (.int .i64 a1_2) := (blk_cell BK150.out 2).trans rfl
        have hcz43_3 : wc.cell? ⟨gb150, 3, none⟩ = some (.int .i64 a1_3) := (blk_cell BK150.out 3).trans rfl
        have hcz43_4 : wc.cell? ⟨gb150, 4, none⟩ = some (.int .i64 a1_4) := (blk_cell BK150.out 4).trans rfl
        have hfz43_0 := blk_frozen BK150.out 0
        have hfz43_1 := blk_frozen BK150.out 1
        have hfz43_2 := blk_frozen BK150.out 2
        have hfz43_3 := blk_frozen BK150.out 3
        have hfz43_4 := blk_frozen BK150.out 4
        go_wp2_with (first | ((with_reducible refine gate_callee (f := 107) rfl ?_); refine goesL_ (some 29) rfl rfl Try.func107 (by kernel_rfl) rfl #[.agg #[.int .i64 a1_0, .int .i64 a1_1, .int .i64 a1_2, .int .i64 a1_3, .int .i64 a1_4]] rfl zT5 ?_; (with_reducible refine (impl_InsOk.calls a1_0 a1_1 a1_2 a1_3 a1_4 t159 _ A40.out).mono ?_); rintro e w44 ⟨rfl, hb⟩; refine ⟨_, rfl, ?_⟩; have n0_ := Aside0.mk (Kd.R_below (zR5 HO_150000.out) hb); have n1_ := Aside0.mk (blk_below (g := gb149) (o := .cells #[.slice Ao13 t152.length co13, .int .i64 t155, .int .i64 t156] 31 (0, 0)) (zK5 BK149.out) hb); have n2_ := Aside0.mk (blk_below (g := gb150) (o := .cells #[.int .i64 a1_0, .int .i64 a1_1, .int .i64 a1_2, .int .i64 a1_3, .int .i64 a1_4] 54 (0, 0)) (zK5 BK150.out) hb); have n3_ := Aside0.mk (blk_below (g := gb151) (o := .cells #[.slice none 0 0, .int .i64 0, .int .i64 0] 31 (0, 0)) (zK5 BK151.out) hb); have n4_ := Aside0.mk (below_step (zB5_3) hb); clear HO_150000; clear BK149; clear BK150; clear BK151; clear HB; have HO_150000 := n0_; have BK149 := n1_; have BK150 := n2_; have BK151 := n3_; have HB := n4_; clear n0_ n1_ n2_ n3_ n4_; (try clear hb); (try clear hb2); (try clear hk); (try clear hi)))
        go_meet
        case rel => exact ⟨_, (!t159), (by first | rfl | (simp; done) | (simp [*]; done)), H', ⟨by have := HJ4.out; first | omega | exact Nat.le_refl _⟩, ⟨zR5 HO_150000.out⟩, ⟨zK5 BK149.out⟩, ⟨zK5 BK150.out⟩, ⟨zK5 BK151.out⟩, ⟨zB5_3⟩⟩
      case rest =>
        clear HC39
        try clear c1
        try clear c2
        try clear p2
        try clear c3
        try clear c4
        try clear c9
        try clear c10
        try clear c14
        try clear c15
        try clear c16
        try clear c17
        try clear c17b0
        try clear c17b1
        try clear c19
        try clear c20
        try clear c24
        try clear c25
        try clear c29
        try clear c30
        try clear c33
        try clear c34
        try clear c35
        try clear c37
        try clear c41
        try clear c42
        try clear hcz11_0
        try clear hcz11_1
        try clear hcz11_2
        try clear hcz14_0
        try clear hcz14_1
        try clear hcz14_2
        try clear hcz21_0
        try clear hcz21_1
        try clear hcz21_2
        try clear hcz23_0
        try clear hcz23_1
        try clear hcz23_2
        try clear hcz26_0
        try clear hcz26_1
        try clear hcz26_2
        try clear hcz28_0
        try clear hcz28_1
        try clear hcz28_2
        try clear hcz31_0
        try clear hcz31_1
        try clear hcz31_2
        try clear hcz36_0
        try clear hcz36_1
        try clear hcz36_2
        try clear hcz38_0
        try clear hcz38_1
        try clear hcz38_2
        try clear hcz43_0
        try clear hcz43_1
        try clear hcz43_2
        try clear hcz43_3
        try clear hcz43_4
        try clear hfz11_0
        try clear hfz11_1
        try clear hfz11_2
        try clear hfz14_0
        try clear hfz14_1
        try clear hfz14_2
        try clear hfz21_0
        try clear hfz21_1
        try clear hfz21_2
        try clear hfz23_0
        try clear hfz23_1
        try clear hfz23_2
        try clear hfz26_0
        try clear hfz26_1
        try clear hfz26_2
        try clear hfz28_0
        try clear hfz28_1
        try clear hfz28_2
        try clear hfz31_0
        try clear hfz31_1
        try clear hfz31_2
        try clear hfz36_0
        try clear hfz36_1
        try clear hfz36_2
        try clear hfz38_0
        try clear hfz38_1
        try clear hfz38_2
        try clear hfz43_0
        try clear hfz43_1
        try clear hfz43_2
        try clear hfz43_3
        try clear hfz43_4
        try clear p2
        obtain ⟨kq, x30_38, rfl, HA, HJ38, HO_150000, BK149, BK150, BK151, HB⟩ := hcut
        cases kq with
        | zero => exact absurd HA.out (by simp [impl_Work.j1])
        | succ kj38 =>
          have H := HA.out
          clear HA
          simp only [impl_Work.j1] at H
          by_cases c45 : x30_38 = true
          · subst c45
            have H1 : (some (t152, t155, 2, (-1))) = some (r1, r2, r3, r4) := by rw [if_pos rfl] at H; exact H
            clear H
            have H := H1
            clear H1
            simp only [Option.some.injEq, Prod.mk.injEq] at H
            obtain ⟨rfl, rfl, rfl, rfl⟩ := H
            have hnb46 := NB149_150.out
            have hnc46 := NB150_149.out
            have hnb47 := NB149_151.out
            have hnc47 := NB151_149.out
            have hcz48_0 : wc.cell? ⟨gb149, 0, none⟩ = some (.slice Ao13 t152.length co13) := (blk_cell BK149.out 0).trans rfl
            have hcz48_1 : wc.cell? ⟨gb149, 1, none⟩ = some (.int .i64 t155) := (blk_cell BK149.out 1).trans rfl
            have hcz48_2 : wc.cell? ⟨gb149, 2, none⟩ = some (.int .i64 t156) := (blk_cell BK149.out 2).trans rfl
            have hfz48_0 := blk_frozen BK149.out 0
            have hfz48_1 := blk_frozen BK149.out 1
            have hfz48_2 := blk_frozen BK149.out 2
            have hnb49 := NB151_150.out
            have hnc49 := NB150_151.out
            have hcz50_0 : wc.cell? ⟨gb151, 0, none⟩ = some (.slice none 0 0) := (blk_cell BK151.out 0).trans rfl
            have hcz50_1 : wc.cell? ⟨gb151, 1, none⟩ = some (.int .i64 0) := (blk_cell BK151.out 1).trans rfl
            have hcz50_2 : wc.cell? ⟨gb151, 2, none⟩ = some (.int .i64 0) := (blk_cell BK151.out 2).trans rfl
            have hfz50_0 := blk_frozen BK151.out 0
            have hfz50_1 := blk_frozen BK151.out 1
            have hfz50_2 := blk_frozen BK151.out 2
            go_wp2
            refine bodyPost_ret (results_ct rfl _ _ gb151 31 #[.slice Ao13 t152.length co13, .int .i64 t155, .int .i64 2] (0, 0) _ rfl (by (with_reducible repeat (first | refine blk_drewN ?_ _ | refine blk_drew ?_ | refine blk_alloc ?_ _)); refine blk_put (cs := #[.slice Ao13 t152.length co13, .int .i64 t155, .int .i64 0]) ?_ 2 _ rfl; (with_reducible repeat (first | refine blk_drewN ?_ _ | refine blk_drew ?_ | refine blk_alloc ?_ _)); refine blk_put (cs := #[.slice Ao13 t152.length co13, .int .i64 0, .int .i64 0]) ?_ 1 _ rfl; (with_reducible repeat (first | refine blk_drewN ?_ _ | refine blk_drew ?_ | refine blk_alloc ?_ _)); refine blk_put (cs := #[.slice none 0 0, .int .i64 0, .int .i64 0]) ?_ 0 _ rfl; (with_reducible repeat (first | refine blk_drewN ?_ _ | refine blk_drew ?_ | refine blk_alloc ?_ _)); refine blk_far ?_ NB151_149.out _; (with_reducible repeat (first | refine blk_drewN ?_ _ | refine blk_drew ?_ | refine blk_alloc ?_ _)); exact BK151.out) Try.underlying31 rfl (by kernel_rfl)) rfl ?_
            exact ⟨_, zE5, by (with_reducible repeat (first | apply Kd.R_alloc | apply Kd.R_drewN | apply Kd.R_drew)); exact Kd.R_mono (Kd.R_far (p := ⟨gb151, 2, none⟩) (Kd.R_far (p := ⟨gb151, 1, none⟩) (Kd.R_far (p := ⟨gb151, 0, none⟩) (Kd.R_far (p := ⟨gb149, 2, none⟩) (Kd.R_types (Kd.R_types HO_150000.out BK149.out (by decide)) BK151.out (by decide)) (fun _ hk => hk.1.2) (.int .i64 2)) (fun _ hk => hk.2) (.slice Ao13 t152.length co13)) (fun _ hk => hk.2) (.int .i64 t155)) (fun _ hk => hk.2) (.int .i64 2)) (fun _ hk => trivial), zB5_3⟩
          replace c45 := Bool.eq_false_iff.mpr c45
          subst c45
          have H1 : (if 0 ≤ a1_2 then (if a1_2 < (t152.length : Int) then (if 0 ≤ a1_3 then (if a1_3 < (t152.length : Int) then ((impl_address.f (wrap64 (t155 + 1))).bind fun t162 => (impl_Work.j2 kj38 a2 (rd t152 a1_2) (rd t152 a1_3) (-1) t162 a1_0 t152 t155 t156 a1_0 a1_1 a1_2 a1_3 a1_4)) else (none)) else (none)) else (none)) else (none)) = some (r1, r2, r3, r4) := by rw [if_neg (show ¬ (false = true) by decide)] at H; exact H
          clear H
          have H := H1
          clear H1
          by_cases c51 : 0 ≤ a1_2
          rotate_left
          · rw [if_neg c51] at H
            exact absurd H (by simp)
          rw [if_pos c51] at H
          have c51b0 : decide (0 ≤ a1_2) = true := decide_eq_true c51
          clear c51
          by_cases c52 : a1_2 < (t152.length : Int)
          rotate_left
          · rw [if_neg c52] at H
            exact absurd H (by simp)
          rw [if_pos c52] at H
          have c52b0 : decide (a1_2 < (t152.length : Int)) = true := decide_eq_true c52
          clear c52
          by_cases c53 : 0 ≤ a1_3
          rotate_left
          · rw [if_neg c53] at H
            exact absurd H (by simp)
          rw [if_pos c53] at H
          have c53b0 : decide (0 ≤ a1_3) = true := decide_eq_true c53
          clear c53
          by_cases c54 : a1_3 < (t152.length : Int)
          rotate_left
          · rw [if_neg c54] at H
            exact absurd H (by simp)
          rw [if_pos c54] at H
          have c54b0 : decide (a1_3 < (t152.length : Int)) = true := decide_eq_true c54
          clear c54
          replace H := Option.bind_eq_some_iff.mp H
          obtain ⟨t162, A550, H⟩ := H
          replace H : (impl_Work.j2 kj38 a2 (rd t152 a1_2) (rd t152 a1_3) (-1) t162 a1_0 t152 t155 t156 a1_0 a1_1 a1_2 a1_3 a1_4) = some (r1, r2, r3, r4) := H
          have A55 := Aside0.mk A550
          clear A550
          have HC56 := Aside0.mk H
          clear H
          try go_wp2
          have n0_ := Aside0.mk (Kd.R_drew HO_150000.out)
          have n1_ := Aside0.mk (blk_drew BK149.out)
          have n2_ := Aside0.mk (blk_drew BK150.out)
          have n3_ := Aside0.mk (blk_drew BK151.out)
          have n4_ := Aside0.mk (below_drew1 HB.out)
          clear HO_150000 BK149 BK150 BK151 HB
          have HO_150000 := n0_
          have BK149 := n1_
          have BK150 := n2_
          have BK151 := n3_
          have HB := n4_
          clear n0_ n1_ n2_ n3_ n4_
          have p160 : 0 ≤ (a1_2 : Int) := zA5
          have q160 : a1_2 < (t152.length : Int) := zA5
          obtain ⟨ad160, e160, hx160_0⟩ := Kd.at_int (Kd.R_reads' HO_150000.out).2.2 a1_2 p160 q160
          cases e160
          replace p160 := eq_true p160
          replace q160 := eq_true q160
          have p161 : 0 ≤ (a1_3 : Int) := zA5
          have q161 : a1_3 < (t152.length : Int) := zA5
          obtain ⟨ad161, e161, hx161_0⟩ := Kd.at_int (Kd.R_reads' HO_150000.out).2.2 a1_3 p161 q161
          obtain rfl : ad160 = ad161 := (by injection e161)
          replace p161 := eq_true p161
          replace q161 := eq_true q161
          refine start_ (n := 14) (S := fun w' => w'.cell? ⟨gb149, 0, none⟩ = some (.slice (some ad160) t152.length co13) ∧ w'.cell? ⟨gb149, 1, none⟩ = some (.int .i64 t155) ∧ w'.cell? ⟨gb149, 2, none⟩ = some (.int .i64 t156) ∧ w'.cell? ⟨gb150, 0, none⟩ = some (.int .i64 a1_0) ∧ w'.cell? ⟨gb150, 1, none⟩ = some (.int .i64 a1_1) ∧ w'.cell? ⟨gb150, 2, none⟩ = some (.int .i64 a1_2) ∧ w'.cell? ⟨gb150, 3, none⟩ = some (.int .i64 a1_3) ∧ w'.cell? ⟨gb150, 4, none⟩ = some (.int .i64 a1_4) ∧ w'.cell? (ad160.add (a1_2).toNat) = some (.int .i64 (rd t152 a1_2)) ∧ w'.cell? (ad160.add (a1_3).toNat) = some (.int .i64 (rd t152 a1_3))) (ds := []) #[false, false, false, false, false, false, false, false, false, false, false, false, false, false] (by kernel_rfl) rfl rfl ⟨(blk_cell BK149.out 0).trans rfl, (blk_cell BK149.out 1).trans rfl, (blk_cell BK149.out 2).trans rfl, (blk_cell BK150.out 0).trans rfl, (blk_cell BK150.out 1).trans rfl, (blk_cell BK150.out 2).trans rfl, (blk_cell BK150.out 3).trans rfl, (blk_cell BK150.out 4).trans rfl, hx160_0, hx161_0⟩ (fun hHeld => ?_); refine with_tabW impl_Work.tab7 impl_Work.bits7 (fun HT_ HW_ => ?_)
          generalize wc.drew = w57 at HO_150000 BK149 BK150 BK151 HB hx160_0 hx161_0 hHeld ⊢
          refine pure_ (i := 0) (N := some 33) (v := ?_) (a' := ?_) #[true, false, false, false, false, false, false, false, false, false, false, false, false, false] rfl rfl (any_of HT_.out (by kernel_rfl)) (fun _ _ _ h => h) (Or.inl ⟨by rfl, ?_⟩) ?_ ?_
          rotate_left
          · intro w'
            go_simp
            with_reducible rfl
          rotate_left
          · simp only [Act.put, List.setIfInBounds_toArray, List.set_cons_zero, List.set_cons_succ, i64_w, i32_w]
            rfl
          refine pure_ (i := 2) (N := some 35) (v := ?_) (a' := ?_) #[true, false, true, false, false, false, false, false, false, false, false, false, false, false] rfl rfl (any_of HT_.out (by kernel_rfl)) (fun _ _ _ h => h) (Or.inl ⟨by rfl, ?_⟩) ?_ ?_
          rotate_left
          · intro w'
            go_simp
            with_reducible rfl
          rotate_left
          · simp only [Act.put, List.setIfInBounds_toArray, List.set_cons_zero, List.set_cons_succ, i64_w, i32_w]
            rfl
          refine pure_ (i := 6) (N := some 39) (v := ?_) (a' := ?_) #[true, false, true, false, false, false, true, false, false, false, false, false, false, false] rfl rfl (any_of HT_.out (by kernel_rfl)) (fun _ _ _ h => h) (Or.inl ⟨by rfl, ?_⟩) ?_ ?_
          rotate_left
          · intro w'
            go_simp
            with_reducible rfl
          rotate_left
          · simp only [Act.put, List.setIfInBounds_toArray, List.set_cons_zero, List.set_cons_succ, i64_w, i32_w]
            rfl
          refine pure_ (i := 8) (N := some 41) (v := ?_) (a' := ?_) #[true, false, true, false, false, false, true, false, true, false, false, false, false, false] rfl rfl (any_of HT_.out (by kernel_rfl)) (fun _ _ _ h => h) (Or.inl ⟨by rfl, ?_⟩) ?_ ?_
          rotate_left
          · intro w'
            go_simp
            with_reducible rfl
          rotate_left
          · simp only [Act.put, List.setIfInBounds_toArray, List.set_cons_zero, List.set_cons_succ, i64_w, i32_w]
            rfl
          refine take_ (i := 1) (N := some 34) (v := ?_) (a' := ?_) #[true, true, true, false, false, false, true, false, true, false, false, false, false, false] rfl rfl (take_ofW HT_.out HW_.out (by kernel_rfl)) (fun _ _ _ h => h) (Or.inl ⟨by rfl, ?_⟩) hHeld ?_ ?_
          rotate_left
          · rintro w' ⟨s0, s1, s2, s3, s4, s5, s6, s7, s8, s9⟩
            go_simp
            with_reducible rfl
          rotate_left
          · simp only [Act.put, List.setIfInBounds_toArray, List.set_cons_zero, List.set_cons_succ, i64_w, i32_w]
            rfl
          refine take_ (i := 3) (N := some 36) (v := ?_) (a' := ?_) #[true, true, true, true, false, false, true, false, true, false, false, false, false, false] rfl rfl (take_ofW HT_.out HW_.out (by kernel_rfl)) (fun _ _ _ h => h) (Or.inl ⟨by rfl, ?_⟩) hHeld ?_ ?_
          rotate_left
          · rintro w' ⟨s0, s1, s2, s3, s4, s5, s6, s7, s8, s9⟩
            go_simp
            with_reducible rfl
          rotate_left
          · simp only [Act.put, List.setIfInBounds_toArray, List.set_cons_zero, List.set_cons_succ, i64_w, i32_w]
            rfl
          refine pure_ (i := 4) (N := some 37) (v := ?_) (a' := ?_) #[true, true, true, true, true, false, true, false, true, false, false, false, false, false] rfl rfl (any_of HT_.out (by kernel_rfl)) (fun _ _ _ h => h) (Or.inl ⟨by rfl, ?_⟩) ?_ ?_
          rotate_left
          · intro w'
            go_simp
            with_reducible rfl
          rotate_left
          · simp only [Act.put, List.setIfInBounds_toArray, List.set_cons_zero, List.set_cons_succ, i64_w, i32_w]
            rfl
          refine take_ (i := 5) (N := some 38) (v := ?_) (a' := ?_) #[true, true, true, true, true, true, true, false, true, false, false, false, false, false] rfl rfl (take_ofW HT_.out HW_.out (by kernel_rfl)) (fun _ _ _ h => h) (Or.inl ⟨by rfl, ?_⟩) hHeld ?_ ?_
          rotate_left
          · rintro w' ⟨s0, s1, s2, s3, s4, s5, s6, s7, s8, s9⟩
            go_simp
            with_reducible rfl
          rotate_left
          · simp only [Act.put, List.setIfInBounds_toArray, List.set_cons_zero, List.set_cons_succ, i64_w, i32_w]
            rfl
          refine pure_ (i := 12) (N := some 8) (v := ?_) (a' := ?_) #[true, true, true, true, true, true, true, false, true, false, false, false, true, false] rfl rfl (any_of HT_.out (by kernel_rfl)) (fun _ _ _ h => h) (Or.inl ⟨by rfl, ?_⟩) ?_ ?_
          rotate_left
          · intro w'
            go_simp
            with_reducible rfl
          rotate_left
          · simp only [Act.put, List.setIfInBounds_toArray, List.set_cons_zero, List.set_cons_succ, i64_w, i32_w]
            rfl
          refine take_ (i := 7) (N := some 40) (v := ?_) (a' := ?_) #[true, true, true, true, true, true, true, true, true, false, false, false, true, false] rfl rfl (take_ofW HT_.out HW_.out (by kernel_rfl)) (fun _ _ _ h => h) (Or.inl ⟨by rfl, ?_⟩) hHeld ?_ ?_
          rotate_left
          · rintro w' ⟨s0, s1, s2, s3, s4, s5, s6, s7, s8, s9⟩
            go_simp
            with_reducible rfl
          rotate_left
          · simp only [Act.put, List.setIfInBounds_toArray, List.set_cons_zero, List.set_cons_succ, i64_w, i32_w]
            rfl
          refine take_ (i := 9) (N := some 42) (v := ?_) (a' := ?_) #[true, true, true, true, true, true, true, true, true, true, false, false, true, false] rfl rfl (take_ofW HT_.out HW_.out (by kernel_rfl)) (fun _ _ _ h => h) (Or.inl ⟨by rfl, ?_⟩) hHeld ?_ ?_
          rotate_left
          · rintro w' ⟨s0, s1, s2, s3, s4, s5, s6, s7, s8, s9⟩
            go_simp
            with_reducible rfl
          rotate_left
          · simp only [Act.put, List.setIfInBounds_toArray, List.set_cons_zero, List.set_cons_succ, i64_w, i32_w]
            rfl
          refine pure_ (i := 10) (N := some 43) (v := ?_) (a' := ?_) #[true, true, true, true, true, true, true, true, true, true, true, false, true, false] rfl rfl (any_of HT_.out (by kernel_rfl)) (fun _ _ _ h => h) (Or.inl ⟨by rfl, ?_⟩) ?_ ?_
          rotate_left
          · intro w'
            go_simp
            with_reducible rfl
          rotate_left
          · simp only [Act.put, List.setIfInBounds_toArray, List.set_cons_zero, List.set_cons_succ, i64_w, i32_w]
            rfl
          refine take_ (i := 11) (N := some 44) (v := ?_) (a' := ?_) #[true, true, true, true, true, true, true, true, true, true, true, true, true, false] rfl rfl (take_ofW HT_.out HW_.out (by kernel_rfl)) (fun _ _ _ h => h) (Or.inl ⟨by rfl, ?_⟩) hHeld ?_ ?_
          rotate_left
          · rintro w' ⟨s0, s1, s2, s3, s4, s5, s6, s7, s8, s9⟩
            go_simp
            with_reducible rfl
          rotate_left
          · simp only [Act.put, List.setIfInBounds_toArray, List.set_cons_zero, List.set_cons_succ, i64_w, i32_w]
            rfl
          refine pure_ (i := 13) (N := some 9) (v := ?_) (a' := ?_) #[true, true, true, true, true, true, true, true, true, true, true, true, true, true] rfl rfl (any_of HT_.out (by kernel_rfl)) (fun _ _ _ h => h) (Or.inl ⟨by rfl, ?_⟩) ?_ ?_
          rotate_left
          · intro w'
            go_simp
            with_reducible rfl
          rotate_left
          · simp only [Act.put, List.setIfInBounds_toArray, List.set_cons_zero, List.set_cons_succ, i64_w, i32_w]
            rfl
          refine done_ (done_of HT_.out (by kernel_rfl)) ?_
          have hnb58 := NB149_150.out
          have hnc58 := NB150_149.out
          have hnb59 := NB149_151.out
          have hnc59 := NB151_149.out
          have hcz60_0 : w57.cell? ⟨gb149, 0, none⟩ = some (.slice (some ad160) t152.length co13) := (blk_cell BK149.out 0).trans rfl
          have hcz60_1 : w57.cell? ⟨gb149, 1, none⟩ = some (.int .i64 t155) := (blk_cell BK149.out 1).trans rfl
          have hcz60_2 : w57.cell? ⟨gb149, 2, none⟩ = some (.int .i64 t156) := (blk_cell BK149.out 2).trans rfl
          have hfz60_0 := blk_frozen BK149.out 0
          have hfz60_1 := blk_frozen BK149.out 1
          have hfz60_2 := blk_frozen BK149.out 2
          go_upto_region 10 with (first | ((with_reducible refine gate_callee (f := 89) rfl ?_); refine goesL_ (some 48) rfl rfl Try.func89 (by kernel_rfl) rfl #[.int .i64 (wrap64 (t155 + 1))] rfl zT5 ?_; (with_reducible refine (impl_address.calls (wrap64 (t155 + 1)) t162 _ A55.out).mono ?_); rintro e w' ⟨rfl, ⟨nd, rfl⟩⟩; refine ⟨_, rfl, ?_⟩))
          (try simp only [Act.put, List.setIfInBounds_toArray, List.set_cons_zero, List.set_cons_succ])
          go_cut [50] (fun v50 wc => ∃ (kq : Nat) (x50_55 : Int), v50 = .int .i64 x50_55 ∧ Aside0 (impl_Work.j2 kq a2 (rd t152 a1_2) (rd t152 a1_3) (-1) t162 x50_55 t152 t155 t156 a1_0 a1_1 a1_2 a1_3 a1_4 = some (r1, r2, r3, r4)) ∧ Aside0 (kq ≤ kj38) ∧ Aside0 (Kd.R (Kd.int .i64) 3 wc w.heap.size (fun _ => True) (.slice (some ad160) t152.length co13) t152) ∧ Aside0 (wc.heap[gb149]? = some (.cells #[(.slice (some ad160) t152.length co13), .int .i64 t155, .int .i64 t156] 31 (0, 0))) ∧ Aside0 (wc.heap[gb150]? = some (.cells #[.int .i64 a1_0, .int .i64 a1_1, .int .i64 a1_2, .int .i64 a1_3, .int .i64 a1_4] 54 (0, 0))) ∧ Aside0 (wc.heap[gb151]? = some (.cells #[(.slice none 0 0), .int .i64 0, .int .i64 0] 31 (0, 0))) ∧ Aside0 (Below w.heap.size w wc))
          case first =>
            have H := HC56.out
            clear HC56
            have H' := Aside0.mk H
            clear H
            have hnb61 := NB150_149.out
            have hnc61 := NB149_150.out
            have hnb62 := NB150_151.out
            have hnc62 := NB151_150.out
            have hcz63_0 : w57.cell? ⟨gb150, 0, none⟩ = some (.int .i64 a1_0) := (blk_cell BK150.out 0).trans rfl
            have hcz63_1 : w57.cell? ⟨gb150, 1, none⟩ = some (.int .i64 a1_1) := (blk_cell BK150.out 1).trans rfl
            have hcz63_2 : w57.cell? ⟨gb150, 2, none⟩ = some (.int .i64 a1_2) := (blk_cell BK150.out 2).trans rfl
            have hcz63_3 : w57.cell? ⟨gb150, 3, none⟩ = some (.int .i64 a1_3) := (blk_cell BK150.out 3).trans rfl
            have hcz63_4 : w57.cell? ⟨gb150, 4, none⟩ = some (.int .i64 a1_4) := (blk_cell BK150.out 4).trans rfl
            have hfz63_0 := blk_frozen BK150.out 0
            have hfz63_1 := blk_frozen BK150.out 1
            have hfz63_2 := blk_frozen BK150.out 2
            have hfz63_3 := blk_frozen BK150.out 3
            have hfz63_4 := blk_frozen BK150.out 4
            go_wp2
            go_meet
            case rel => exact ⟨_, (a1_0), (by first | rfl | (simp; done) | (simp [*]; done)), H', ⟨by have := HJ4.out; have := HJ38.out; first | omega | exact Nat.le_refl _⟩, ⟨zR5 HO_150000.out⟩, ⟨zK5 BK149.out⟩, ⟨zK5 BK150.out⟩, ⟨zK5 BK151.out⟩, ⟨zB5_3⟩⟩
          case rest =>
            clear HC56
            try clear c1
            try clear p1
            try clear q1
            try clear hx1
            try clear c2
            try clear p2
            try clear c3
            try clear c4
            try clear c5
            try clear c6
            try clear p6
            try clear c8
            try clear c9
            try clear c10
            try clear c14
            try clear c15
            try clear c16
            try clear p16
            try clear q16
            try clear hx16
            try clear c17
            try clear c17b0
            try clear c17b1
            try clear c19
            try clear c20
            try clear c24
            try clear c25
            try clear c29
            try clear c30
            try clear c33
            try clear c34
            try clear c35
            try clear c37
            try clear c41
            try clear c42
            try clear c45
            try clear c46
            try clear c47
            try clear c49
            try clear c51
            try clear c51b0
            try clear c52
            try clear c52b0
            try clear c53
            try clear c53b0
            try clear c54
            try clear c54b0
            try clear c58
            try clear c59
            try clear c61
            try clear c62
            try clear hcz11_0
            try clear hcz11_1
            try clear hcz11_2
            try clear hcz14_0
            try clear hcz14_1
            try clear hcz14_2
            try clear hcz21_0
            try clear hcz21_1
            try clear hcz21_2
            try clear hcz23_0
            try clear hcz23_1
            try clear hcz23_2
            try clear hcz26_0
            try clear hcz26_1
            try clear hcz26_2
            try clear hcz28_0
            try clear hcz28_1
            try clear hcz28_2
            try clear hcz31_0
            try clear hcz31_1
            try clear hcz31_2
            try clear hcz36_0
            try clear hcz36_1
            try clear hcz36_2
            try clear hcz38_0
            try clear hcz38_1
            try clear hcz38_2
            try clear hcz43_0
            try clear hcz43_1
            try clear hcz43_2
            try clear hcz43_3
            try clear hcz43_4
            try clear hcz48_0
            try clear hcz48_1
            try clear hcz48_2
            try clear hcz50_0
            try clear hcz50_1
            try clear hcz50_2
            try clear hcz60_0
            try clear hcz60_1
            try clear hcz60_2
            try clear hcz63_0
            try clear hcz63_1
            try clear hcz63_2
            try clear hcz63_3
            try clear hcz63_4
            try clear hfz11_0
            try clear hfz11_1
            try clear hfz11_2
            try clear hfz14_0
            try clear hfz14_1
            try clear hfz14_2
            try clear hfz21_0
            try clear hfz21_1
            try clear hfz21_2
            try clear hfz23_0
            try clear hfz23_1
            try clear hfz23_2
            try clear hfz26_0
            try clear hfz26_1
            try clear hfz26_2
            try clear hfz28_0
            try clear hfz28_1
            try clear hfz28_2
            try clear hfz31_0
            try clear hfz31_1
            try clear hfz31_2
            try clear hfz36_0
            try clear hfz36_1
            try clear hfz36_2
            try clear hfz38_0
            try clear hfz38_1
            try clear hfz38_2
            try clear hfz43_0
            try clear hfz43_1
            try clear hfz43_2
            try clear hfz43_3
            try clear hfz43_4
            try clear hfz48_0
            try clear hfz48_1
            try clear hfz48_2
            try clear hfz50_0
            try clear hfz50_1
            try clear hfz50_2
            try clear hfz60_0
            try clear hfz60_1
            try clear hfz60_2
            try clear hfz63_0
            try clear hfz63_1
            try clear hfz63_2
            try clear hfz63_3
            try clear hfz63_4
            try clear hx160_0
            try clear hx161_0
            try clear p160
            try clear p161
            try clear p2
            try clear q160
            try clear q161
            obtain ⟨kq, x50_55, rfl, HA, HJ55, HO_150000, BK149, BK150, BK151, HB⟩ := hcut
            cases kq with
            | zero => exact absurd HA.out (by simp [impl_Work.j2])
            | succ kj55 =>
              have H := HA.out
              clear HA
              simp only [impl_Work.j2] at H
              by_cases c64 : x50_55 = 1
              · rw [if_pos c64] at H
                have c64b0 : (x50_55 == 1) = true := beq_iff_eq.mpr c64
                have c64b1 : (x50_55 != 1) = false := bne_eq_false_iff_eq.mpr c64
                clear c64
                by_cases c65 : 0 ≤ a1_1
                rotate_left
                · rw [if_neg c65] at H
                  exact absurd H (by simp)
                rw [if_pos c65] at H
                have c65b0 : decide (0 ≤ a1_1) = true := decide_eq_true c65
                clear c65
                by_cases c66 : a1_1 < (t152.length : Int)
                rotate_left
                · rw [if_neg c66] at H
                  exact absurd H (by simp)
                rw [if_pos c66] at H
                have c66b0 : decide (a1_1 < (t152.length : Int)) = true := decide_eq_true c66
                clear c66
                obtain ⟨y163, hy163⟩ : ∃ y_ : List Int, y_ = (t152.set (a1_1 : Int).toNat a1_4) := ⟨_, rfl⟩
                replace H : (some (y163, t162, t156, (-1))) = some (r1, r2, r3, r4) := by first | (rw [hy163]; with_reducible exact H) | (have H2_ := (Option.bind_some _ _).symm.trans H; rw [hy163]; with_reducible exact H2_) | (have H2_ := (Option.bind_some _ _).symm.trans H; with_reducible exact H2_) | with_reducible exact H | (rw [hy163]; exact H) | exact H
                have Ny163 := Aside0.mk hy163
                clear hy163
                simp only [Option.some.injEq, Prod.mk.injEq] at H
                obtain ⟨rfl, rfl, rfl, rfl⟩ := H
                have hnb68 := NB149_150.out
                have hnc68 := NB150_149.out
                have hnb69 := NB149_151.out
                have hnc69 := NB151_149.out
                have hcz70_0 : wc.cell? ⟨gb149, 0, none⟩ = some (.slice (some ad160) t152.length co13) := (blk_cell BK149.out 0).trans rfl
                have hcz70_1 : wc.cell? ⟨gb149, 1, none⟩ = some (.int .i64 t155) := (blk_cell BK149.out 1).trans rfl
                have hcz70_2 : wc.cell? ⟨gb149, 2, none⟩ = some (.int .i64 t156) := (blk_cell BK149.out 2).trans rfl
                have hfz70_0 := blk_frozen BK149.out 0
                have hfz70_1 := blk_frozen BK149.out 1
                have hfz70_2 := blk_frozen BK149.out 2
                have hnb71 := NB150_151.out
                have hnc71 := NB151_150.out
                have hcz72_0 : wc.cell? ⟨gb150, 0, none⟩ = some (.int .i64 a1_0) := (blk_cell BK150.out 0).trans rfl
                have hcz72_1 : wc.cell? ⟨gb150, 1, none⟩ = some (.int .i64 a1_1) := (blk_cell BK150.out 1).trans rfl
                have hcz72_2 : wc.cell? ⟨gb150, 2, none⟩ = some (.int .i64 a1_2) := (blk_cell BK150.out 2).trans rfl
                have hcz72_3 : wc.cell? ⟨gb150, 3, none⟩ = some (.int .i64 a1_3) := (blk_cell BK150.out 3).trans rfl
                have hcz72_4 : wc.cell? ⟨gb150, 4, none⟩ = some (.int .i64 a1_4) := (blk_cell BK150.out 4).trans rfl
                have hfz72_0 := blk_frozen BK150.out 0
                have hfz72_1 := blk_frozen BK150.out 1
                have hfz72_2 := blk_frozen BK150.out 2
                have hfz72_3 := blk_frozen BK150.out 3
                have hfz72_4 := blk_frozen BK150.out 4
                have p67 : 0 ≤ (a1_1 : Int) := zA5
                have q67 : (a1_1 : Int) < ((t152.length : Int) : Int) := zA5
                obtain ⟨go67, co67, eo67, gb67, gl67, cl67, HG67⟩ := Kd.R_form HO_150000.out (by omega)
                (first | cases eo67 | (injection eo67 with ea_ en_ ec_; (first | subst ea_ | (injection ea_ with ea_; subst ea_)); subst ec_; clear en_))
                have GB67 := Aside0.mk gb67
                have GG67 := Aside0.mk HG67
                clear gb67 gl67 HG67
                (first | simp only [add_plain] at hx160_0 | skip)
                (first | simp only [add_plain] at hx161_0 | skip)
                obtain ⟨hx67_0, hf67_0⟩ := Kd.R_celln 0 HO_150000.out (a1_1 : Int) p67 q67
                replace p67 := eq_true p67
                replace q67 := eq_true q67
                have HP73 := Kd.R_putg HO_150000.out (a1_1 : Int) a1_4
                go_wp2_with (first | ((with_reducible refine gate_store (t := 3) (p := 59) rfl ?_); refine store_event (t := 3) (p := 59) (v := ?vo_w74) (w1 := (wc.setCell ⟨go67, (a1_1 : Int).toNat, none⟩ (.int .i64 a1_4))) ?hg ?ho ?hn ?hr ?_; (case ho => rfl); (case hg => rfl); (case hn => rfl); (case hr => first | (go_simp; done) | (go_simp; rfl)); intro w74 hw; have hg : wc.grownBy w74 (some go67) := (by rw [hw]; exact HP73.2); have hp_ : Kd.R (Kd.int .i64) 3 w74 w.heap.size (fun _ => True) (.slice (some ⟨go67, 0, none⟩) t152.length co13) y163 := (by rw [hw, Ny163.out]; exact HP73.1); clear HP73; have n0_ := Aside0.mk (hp_); have n1_ := Aside0.mk (blk_grown (g := gb149) (o := .cells #[.slice (some ⟨go67, 0, none⟩) t152.length co13, .int .i64 t155, .int .i64 t156] 31 (0, 0)) (zK5 BK149.out) hg (Kd.R_ne HO_150000.out BK149.out (by decide))); have n2_ := Aside0.mk (blk_grown (g := gb150) (o := .cells #[.int .i64 a1_0, .int .i64 a1_1, .int .i64 a1_2, .int .i64 a1_3, .int .i64 a1_4] 54 (0, 0)) (zK5 BK150.out) hg (Kd.R_ne HO_150000.out BK150.out (by decide))); have n3_ := Aside0.mk (blk_grown (g := gb151) (o := .cells #[.slice none 0 0, .int .i64 0, .int .i64 0] 31 (0, 0)) (zK5 BK151.out) hg (Kd.R_ne HO_150000.out BK151.out (by decide))); have n4_ := Aside0.mk ((by rw [hw]; exact below_set (HB.out) GB67.out : Below w.heap.size w w74)); clear HO_150000; clear BK149; clear BK150; clear BK151; clear HB; have HO_150000 := n0_; have BK149 := n1_; have BK150 := n2_; have BK151 := n3_; have HB := n4_; clear n0_ n1_ n2_ n3_ n4_; clear hg hw hp_; have hcz75_0 : w74.cell? ⟨gb149, 0, none⟩ = some (.slice (some ⟨go67, 0, none⟩) t152.length co13) := (blk_cell BK149.out 0).trans rfl; have hcz75_1 : w74.cell? ⟨gb149, 1, none⟩ = some (.int .i64 t155) := (blk_cell BK149.out 1).trans rfl; have hcz75_2 : w74.cell? ⟨gb149, 2, none⟩ = some (.int .i64 t156) := (blk_cell BK149.out 2).trans rfl; have hfz75_0 := blk_frozen BK149.out 0; have hfz75_1 := blk_frozen BK149.out 1; have hfz75_2 := blk_frozen BK149.out 2; have hcz76_0 : w74.cell? ⟨gb151, 0, none⟩ = some (.slice none 0 0) := (blk_cell BK151.out 0).trans rfl; have hcz76_1 : w74.cell? ⟨gb151, 1, none⟩ = some (.int .i64 0) := (blk_cell BK151.out 1).trans rfl; have hcz76_2 : w74.cell? ⟨gb151, 2, none⟩ = some (.int .i64 0) := (blk_cell BK151.out 2).trans rfl; have hfz76_0 := blk_frozen BK151.out 0; have hfz76_1 := blk_frozen BK151.out 1; have hfz76_2 := blk_frozen BK151.out 2))
                refine bodyPost_ret (results_ct rfl _ _ gb151 31 #[.slice (some ⟨go67, 0, none⟩) t152.length co13, .int .i64 t162, .int .i64 t156] (0, 0) _ rfl (by (with_reducible repeat (first | refine blk_drewN ?_ _ | refine blk_drew ?_ | refine blk_alloc ?_ _)); refine blk_put (cs := #[.slice (some ⟨go67, 0, none⟩) t152.length co13, .int .i64 t162, .int .i64 0]) ?_ 2 _ rfl; (with_reducible repeat (first | refine blk_drewN ?_ _ | refine blk_drew ?_ | refine blk_alloc ?_ _)); refine blk_put (cs := #[.slice (some ⟨go67, 0, none⟩) t152.length co13, .int .i64 0, .int .i64 0]) ?_ 1 _ rfl; (with_reducible repeat (first | refine blk_drewN ?_ _ | refine blk_drew ?_ | refine blk_alloc ?_ _)); refine blk_put (cs := #[.slice none 0 0, .int .i64 0, .int .i64 0]) ?_ 0 _ rfl; (with_reducible repeat (first | refine blk_drewN ?_ _ | refine blk_drew ?_ | refine blk_alloc ?_ _)); refine blk_far ?_ NB151_149.out _; (with_reducible repeat (first | refine blk_drewN ?_ _ | refine blk_drew ?_ | refine blk_alloc ?_ _)); exact BK151.out) Try.underlying31 rfl (by kernel_rfl)) rfl ?_
                exact ⟨_, zE5, by (with_reducible repeat (first | apply Kd.R_alloc | apply Kd.R_drewN | apply Kd.R_drew)); exact Kd.R_mono (Kd.R_far (p := ⟨gb151, 2, none⟩) (Kd.R_far (p := ⟨gb151, 1, none⟩) (Kd.R_far (p := ⟨gb151, 0, none⟩) (Kd.R_far (p := ⟨gb149, 1, none⟩) (Kd.R_types (Kd.R_types HO_150000.out BK149.out (by decide)) BK151.out (by decide)) (fun _ hk => hk.1.2) (.int .i64 t162)) (fun _ hk => hk.2) (.slice (some ⟨go67, 0, none⟩) t152.length co13)) (fun _ hk => hk.2) (.int .i64 t162)) (fun _ hk => hk.2) (.int .i64 t156)) (fun _ hk => trivial), zB5_3⟩
              rw [if_neg c64] at H
              have c64b0 : (x50_55 == 1) = false := beq_eq_false_iff_ne.mpr c64
              have c64b1 : (x50_55 != 1) = true := bne_iff_ne.mpr c64
              by_cases c77 : x50_55 = 2
              · rw [if_pos c77] at H
                have c77b0 : (x50_55 == 2) = true := beq_iff_eq.mpr c77
                have c77b1 : (x50_55 != 2) = false := bne_eq_false_iff_eq.mpr c77
                clear c77
                replace H := Option.bind_eq_some_iff.mp H
                obtain ⟨t164, A780, H⟩ := H
                replace H : (if 0 ≤ a1_1 then (if a1_1 < (t152.length : Int) then (some ((t152.set (a1_1 : Int).toNat t164), t162, t156, (-1))) else (none)) else (none)) = some (r1, r2, r3, r4) := H
                have A78 := Aside0.mk A780
                clear A780
                by_cases c79 : 0 ≤ a1_1
                rotate_left
                · rw [if_neg c79] at H
                  exact absurd H (by simp)
                rw [if_pos c79] at H
                have c79b0 : decide (0 ≤ a1_1) = true := decide_eq_true c79
                clear c79
                by_cases c80 : a1_1 < (t152.length : Int)
                rotate_left
                · rw [if_neg c80] at H
                  exact absurd H (by simp)
                rw [if_pos c80] at H
                have c80b0 : decide (a1_1 < (t152.length : Int)) = true := decide_eq_true c80
                clear c80
                obtain ⟨y165, hy165⟩ : ∃ y_ : List Int, y_ = (t152.set (a1_1 : Int).toNat t164) := ⟨_, rfl⟩
                replace H : (some (y165, t162, t156, (-1))) = some (r1, r2, r3, r4) := by first | (rw [hy165]; with_reducible exact H) | (have H2_ := (Option.bind_some _ _).symm.trans H; rw [hy165]; with_reducible exact H2_) | (have H2_ := (Option.bind_some _ _).symm.trans H; with_reducible exact H2_) | with_reducible exact H | (rw [hy165]; exact H) | exact H
                have Ny165 := Aside0.mk hy165
                clear hy165
                simp only [Option.some.injEq, Prod.mk.injEq] at H
                obtain ⟨rfl, rfl, rfl, rfl⟩ := H
                try go_wp2
                have n0_ := Aside0.mk (Kd.R_drew HO_150000.out)
                have n1_ := Aside0.mk (blk_drew BK149.out)
                have n2_ := Aside0.mk (blk_drew BK150.out)
                have n3_ := Aside0.mk (blk_drew BK151.out)
                have n4_ := Aside0.mk (below_drew1 HB.out)
                clear HO_150000 BK149 BK150 BK151 HB
                have HO_150000 := n0_
                have BK149 := n1_
                have BK150 := n2_
                have BK151 := n3_
                have HB := n4_
                clear n0_ n1_ n2_ n3_ n4_
                refine start_ (n := 10) (S := fun w' => w'.cell? ⟨gb149, 0, none⟩ = some (.slice (some ad160) t152.length co13) ∧ w'.cell? ⟨gb149, 1, none⟩ = some (.int .i64 t155) ∧ w'.cell? ⟨gb149, 2, none⟩ = some (.int .i64 t156) ∧ w'.cell? ⟨gb150, 0, none⟩ = some (.int .i64 a1_0) ∧ w'.cell? ⟨gb150, 1, none⟩ = some (.int .i64 a1_1) ∧ w'.cell? ⟨gb150, 2, none⟩ = some (.int .i64 a1_2) ∧ w'.cell? ⟨gb150, 3, none⟩ = some (.int .i64 a1_3) ∧ w'.cell? ⟨gb150, 4, none⟩ = some (.int .i64 a1_4)) (ds := [9]) #[false, false, false, false, false, false, false, false, false, false] (by kernel_rfl) rfl rfl ⟨(blk_cell BK149.out 0).trans rfl, (blk_cell BK149.out 1).trans rfl, (blk_cell BK149.out 2).trans rfl, (blk_cell BK150.out 0).trans rfl, (blk_cell BK150.out 1).trans rfl, (blk_cell BK150.out 2).trans rfl, (blk_cell BK150.out 3).trans rfl, (blk_cell BK150.out 4).trans rfl⟩ (fun hHeld => ?_); refine with_tabW impl_Work.tab14 impl_Work.bits14 (fun HT_ HW_ => ?_)
                generalize wc.drew = w82 at HO_150000 BK149 BK150 BK151 HB hHeld ⊢
                refine pure_ (i := 0) (N := some 62) (v := ?_) (a' := ?_) #[true, false, false, false, false, false, false, false, false, false] rfl rfl (any_of HT_.out (by kernel_rfl)) (fun _ _ _ h => h) (Or.inl ⟨by rfl, ?_⟩) ?_ ?_
                rotate_left
                · intro w'
                  go_simp
                  with_reducible rfl
                rotate_left
                · simp only [Act.put, List.setIfInBounds_toArray, List.set_cons_zero, List.set_cons_succ, i64_w, i32_w]
                  rfl
                refine pure_ (i := 2) (N := some 64) (v := ?_) (a' := ?_) #[true, false, true, false, false, false, false, false, false, false] rfl rfl (any_of HT_.out (by kernel_rfl)) (fun _ _ _ h => h) (Or.inl ⟨by rfl, ?_⟩) ?_ ?_
                rotate_left
                · intro w'
                  go_simp
                  with_reducible rfl
                rotate_left
                · simp only [Act.put, List.setIfInBounds_toArray, List.set_cons_zero, List.set_cons_succ, i64_w, i32_w]
                  rfl
                refine pure_ (i := 4) (N := some 66) (v := ?_) (a' := ?_) #[true, false, true, false, true, false, false, false, false, false] rfl rfl (any_of HT_.out (by kernel_rfl)) (fun _ _ _ h => h) (Or.inl ⟨by rfl, ?_⟩) ?_ ?_
                rotate_left
                · intro w'
                  go_simp
                  with_reducible rfl
                rotate_left
                · simp only [Act.put, List.setIfInBounds_toArray, List.set_cons_zero, List.set_cons_succ, i64_w, i32_w]
                  rfl
                refine pure_ (i := 5) (N := some 67) (v := ?_) (a' := ?_) #[true, false, true, false, true, true, false, false, false, false] rfl rfl (any_of HT_.out (by kernel_rfl)) (fun _ _ _ h => h) (Or.inl ⟨by rfl, ?_⟩) ?_ ?_
                rotate_left
                · intro w'
                  go_simp
                  with_reducible rfl
                rotate_left
                · simp only [Act.put, List.setIfInBounds_toArray, List.set_cons_zero, List.set_cons_succ, i64_w, i32_w]
                  rfl
                refine pure_ (i := 6) (N := some 68) (v := ?_) (a' := ?_) #[true, false, true, false, true, true, true, false, false, false] rfl rfl (any_of HT_.out (by kernel_rfl)) (fun _ _ _ h => h) (Or.inl ⟨by rfl, ?_⟩) ?_ ?_
                rotate_left
                · intro w'
                  go_simp
                  with_reducible rfl
                rotate_left
                · simp only [Act.put, List.setIfInBounds_toArray, List.set_cons_zero, List.set_cons_succ, i64_w, i32_w]
                  rfl
                refine take_ (i := 1) (N := some 63) (v := ?_) (a' := ?_) #[true, true, true, false, true, true, true, false, false, false] rfl rfl (take_ofW HT_.out HW_.out (by kernel_rfl)) (fun _ _ _ h => h) (Or.inl ⟨by rfl, ?_⟩) hHeld ?_ ?_
                rotate_left
                · rintro w' ⟨s0, s1, s2, s3, s4, s5, s6, s7⟩
                  go_simp
                  with_reducible rfl
                rotate_left
                · simp only [Act.put, List.setIfInBounds_toArray, List.set_cons_zero, List.set_cons_succ, i64_w, i32_w]
                  rfl
                refine take_ (i := 3) (N := some 65) (v := ?_) (a' := ?_) #[true, true, true, true, true, true, true, false, false, false] rfl rfl (take_ofW HT_.out HW_.out (by kernel_rfl)) (fun _ _ _ h => h) (Or.inl ⟨by rfl, ?_⟩) hHeld ?_ ?_
                rotate_left
                · rintro w' ⟨s0, s1, s2, s3, s4, s5, s6, s7⟩
                  go_simp
                  with_reducible rfl
                rotate_left
                · simp only [Act.put, List.setIfInBounds_toArray, List.set_cons_zero, List.set_cons_succ, i64_w, i32_w]
                  rfl
                refine one_ (i := 7) (N := some 69) #[true, true, true, true, true, true, true, true, false, false] rfl rfl (one_of HT_.out (by kernel_rfl)) (by decide) (fun K hK => ?_)
                refine goes_ Try.func181 (by kernel_rfl) rfl #[.int .i64 (wrap64 ((rd t152 a1_2) + (rd t152 a1_3)))] (by rfl) rfl rfl zT5 ?_
                with_reducible refine (impl_wrapped.calls (wrap64 ((rd t152 a1_2) + (rd t152 a1_3))) t164 _ A78.out).mono ?_
                rintro e w' ⟨rfl, ⟨nd, rfl⟩⟩
                refine ⟨_, rfl, ?_⟩
                (try (rw [drewN_self w82]; generalize hq_ : World.drewN w82 _ = w82; have n0_ : Aside0 (Kd.R (Kd.int .i64) 3 w82 w.heap.size (fun _ => True) (.slice (some ad160) t152.length co13) t152) := ⟨by rw [← hq_]; exact (zR5 HO_150000.out)⟩; have n1_ : Aside0 (w82.heap[gb149]? = some (.cells #[.slice (some ad160) t152.length co13, .int .i64 t155, .int .i64 t156] 31 (0, 0))) := ⟨by rw [← hq_]; exact (zK5 BK149.out)⟩; have n2_ : Aside0 (w82.heap[gb150]? = some (.cells #[.int .i64 a1_0, .int .i64 a1_1, .int .i64 a1_2, .int .i64 a1_3, .int .i64 a1_4] 54 (0, 0))) := ⟨by rw [← hq_]; exact (zK5 BK150.out)⟩; have n3_ : Aside0 (w82.heap[gb151]? = some (.cells #[.slice none 0 0, .int .i64 0, .int .i64 0] 31 (0, 0))) := ⟨by rw [← hq_]; exact (zK5 BK151.out)⟩; have n4_ : Aside0 (Below w.heap.size w w82) := ⟨by rw [← hq_]; exact (zB5_3)⟩; clear HO_150000 BK149 BK150 BK151 HB hq_; have HO_150000 := n0_; have BK149 := n1_; have BK150 := n2_; have BK151 := n3_; have HB := n4_; clear n0_ n1_ n2_ n3_ n4_))
                have p81 : 0 ≤ (a1_1 : Int) := zA5
                have q81 : (a1_1 : Int) < ((t152.length : Int) : Int) := zA5
                obtain ⟨go81, co81, eo81, gb81, gl81, cl81, HG81⟩ := Kd.R_form HO_150000.out (by omega)
                (first | cases eo81 | (injection eo81 with ea_ en_ ec_; (first | subst ea_ | (injection ea_ with ea_; subst ea_)); subst ec_; clear en_))
                have GB81 := Aside0.mk gb81
                have GG81 := Aside0.mk HG81
                clear gb81 gl81 HG81
                obtain ⟨hx81_0, hf81_0⟩ := Kd.R_celln 0 HO_150000.out (a1_1 : Int) p81 q81
                replace p81 := eq_true p81
                replace q81 := eq_true q81
                have HP83 := Kd.R_putn HO_150000.out (a1_1 : Int) t164
                rw [← Ny165.out] at HP83
                have HQ83 := Aside0.mk HP83
                clear HP83
                refine hK.out _ _ ⟨(blk_cell BK149.out 0).trans rfl, (blk_cell BK149.out 1).trans rfl, (blk_cell BK149.out 2).trans rfl, (blk_cell BK150.out 0).trans rfl, (blk_cell BK150.out 1).trans rfl, (blk_cell BK150.out 2).trans rfl, (blk_cell BK150.out 3).trans rfl, (blk_cell BK150.out 4).trans rfl⟩ (fun hHeld => ?_)
                clear hK K
                refine norm_ (a' := ?_) ?_ ?_
                rotate_left
                · show Act.put _ (some 69) _ = _
                  simp only [Act.put, List.setIfInBounds_toArray, List.set_cons_zero, List.set_cons_succ, i64_w, i32_w]
                  rfl
                refine pure_ (i := 8) (N := some 70) (v := ?_) (a' := ?_) #[true, true, true, true, true, true, true, true, true, false] rfl rfl (any_of HT_.out (by kernel_rfl)) (fun _ _ _ h => h) (Or.inl ⟨by rfl, ?_⟩) ?_ ?_
                rotate_left
                · intro w'
                  go_simp
                  with_reducible rfl
                rotate_left
                · simp only [Act.put, List.setIfInBounds_toArray, List.set_cons_zero, List.set_cons_succ, i64_w, i32_w]
                  rfl
                refine last_ (i := 9) (N := none) #[true, true, true, true, true, true, true, true, true, true] rfl rfl (one_of HT_.out (by kernel_rfl)) (by decide) (fun K hK => ?_)
                refine skip_ (w1 := ?_) (by rfl) rfl ?_ ?_
                rotate_left
                · go_simp
                  rfl
                refine hK.out _ _ ?_
                clear hK K
                refine done_ (done_of HT_.out (by kernel_rfl)) ?_
                have n0_ : Aside0 (Kd.R (Kd.int .i64) 3 (w82.setCell ⟨go81, (a1_1 : Int).toNat, none⟩ (.int .i64 t164)) w.heap.size (fun _ => True) (.slice (some ⟨go81, 0, none⟩) t152.length co13) y165) := ⟨zR5 HQ83.out⟩
                have n1_ : Aside0 ((w82.setCell ⟨go81, (a1_1 : Int).toNat, none⟩ (.int .i64 t164)).heap[gb149]? = some (.cells #[.slice (some ⟨go81, 0, none⟩) t152.length co13, .int .i64 t155, .int .i64 t156] 31 (0, 0))) := ⟨by (with_reducible repeat (first | refine blk_drewN ?_ _ | refine blk_drew ?_ | refine blk_alloc ?_ _)); refine blk_far ?_ (by have h_ := Kd.R_ne HO_150000.out BK149.out (by decide); intro e_; exact h_ (by rw [e_]; rfl)) _; (with_reducible repeat (first | refine blk_drewN ?_ _ | refine blk_drew ?_ | refine blk_alloc ?_ _)); exact BK149.out⟩
                have n2_ : Aside0 ((w82.setCell ⟨go81, (a1_1 : Int).toNat, none⟩ (.int .i64 t164)).heap[gb150]? = some (.cells #[.int .i64 a1_0, .int .i64 a1_1, .int .i64 a1_2, .int .i64 a1_3, .int .i64 a1_4] 54 (0, 0))) := ⟨by (with_reducible repeat (first | refine blk_drewN ?_ _ | refine blk_drew ?_ | refine blk_alloc ?_ _)); refine blk_far ?_ (by have h_ := Kd.R_ne HO_150000.out BK150.out (by decide); intro e_; exact h_ (by rw [e_]; rfl)) _; (with_reducible repeat (first | refine blk_drewN ?_ _ | refine blk_drew ?_ | refine blk_alloc ?_ _)); exact BK150.out⟩
                have n3_ : Aside0 ((w82.setCell ⟨go81, (a1_1 : Int).toNat, none⟩ (.int .i64 t164)).heap[gb151]? = some (.cells #[.slice none 0 0, .int .i64 0, .int .i64 0] 31 (0, 0))) := ⟨by (with_reducible repeat (first | refine blk_drewN ?_ _ | refine blk_drew ?_ | refine blk_alloc ?_ _)); refine blk_far ?_ (by have h_ := Kd.R_ne HO_150000.out BK151.out (by decide); intro e_; exact h_ (by rw [e_]; rfl)) _; (with_reducible repeat (first | refine blk_drewN ?_ _ | refine blk_drew ?_ | refine blk_alloc ?_ _)); exact BK151.out⟩
                have n4_ : Aside0 (Below w.heap.size w (w82.setCell ⟨go81, (a1_1 : Int).toNat, none⟩ (.int .i64 t164))) := ⟨zB5_4⟩
                (try clear HO_150000)
                (try clear BK149)
                (try clear BK150)
                (try clear BK151)
                (try clear HB)
                generalize (w82.setCell ⟨go81, (a1_1 : Int).toNat, none⟩ (.int .i64 t164)) = w84 at n0_ n1_ n2_ n3_ n4_ ⊢
                have HO_150000 := n0_
                have BK149 := n1_
                have BK150 := n2_
                have BK151 := n3_
                have HB := n4_
                clear n0_ n1_ n2_ n3_ n4_
                have hnb85 := NB149_150.out
                have hnc85 := NB150_149.out
                have hnb86 := NB149_151.out
                have hnc86 := NB151_149.out
                have hcz87_0 : w84.cell? ⟨gb149, 0, none⟩ = some (.slice (some ⟨go81, 0, none⟩) t152.length co13) := (blk_cell BK149.out 0).trans rfl
                have hcz87_1 : w84.cell? ⟨gb149, 1, none⟩ = some (.int .i64 t155) := (blk_cell BK149.out 1).trans rfl
                have hcz87_2 : w84.cell? ⟨gb149, 2, none⟩ = some (.int .i64 t156) := (blk_cell BK149.out 2).trans rfl
                have hfz87_0 := blk_frozen BK149.out 0
                have hfz87_1 := blk_frozen BK149.out 1
                have hfz87_2 := blk_frozen BK149.out 2
                have hnb88 := NB151_150.out
                have hnc88 := NB150_151.out
                have hcz89_0 : w84.cell? ⟨gb151, 0, none⟩ = some (.slice none 0 0) := (blk_cell BK151.out 0).trans rfl
                have hcz89_1 : w84.cell? ⟨gb151, 1, none⟩ = some (.int .i64 0) := (blk_cell BK151.out 1).trans rfl
                have hcz89_2 : w84.cell? ⟨gb151, 2, none⟩ = some (.int .i64 0) := (blk_cell BK151.out 2).trans rfl
                have hfz89_0 := blk_frozen BK151.out 0
                have hfz89_1 := blk_frozen BK151.out 1
                have hfz89_2 := blk_frozen BK151.out 2
                try go_wp2
                refine bodyPost_ret (results_ct rfl _ _ gb151 31 #[.slice (some ⟨go81, 0, none⟩) t152.length co13, .int .i64 t162, .int .i64 t156] (0, 0) _ rfl (by (with_reducible repeat (first | refine blk_drewN ?_ _ | refine blk_drew ?_ | refine blk_alloc ?_ _)); refine blk_put (cs := #[.slice (some ⟨go81, 0, none⟩) t152.length co13, .int .i64 t162, .int .i64 0]) ?_ 2 _ rfl; (with_reducible repeat (first | refine blk_drewN ?_ _ | refine blk_drew ?_ | refine blk_alloc ?_ _)); refine blk_put (cs := #[.slice (some ⟨go81, 0, none⟩) t152.length co13, .int .i64 0, .int .i64 0]) ?_ 1 _ rfl; (with_reducible repeat (first | refine blk_drewN ?_ _ | refine blk_drew ?_ | refine blk_alloc ?_ _)); refine blk_put (cs := #[.slice none 0 0, .int .i64 0, .int .i64 0]) ?_ 0 _ rfl; (with_reducible repeat (first | refine blk_drewN ?_ _ | refine blk_drew ?_ | refine blk_alloc ?_ _)); refine blk_far ?_ NB151_149.out _; (with_reducible repeat (first | refine blk_drewN ?_ _ | refine blk_drew ?_ | refine blk_alloc ?_ _)); exact BK151.out) Try.underlying31 rfl (by kernel_rfl)) rfl ?_
                exact ⟨_, zE5, by (with_reducible repeat (first | apply Kd.R_alloc | apply Kd.R_drewN | apply Kd.R_drew)); exact Kd.R_mono (Kd.R_far (p := ⟨gb151, 2, none⟩) (Kd.R_far (p := ⟨gb151, 1, none⟩) (Kd.R_far (p := ⟨gb151, 0, none⟩) (Kd.R_far (p := ⟨gb149, 1, none⟩) (Kd.R_types (Kd.R_types HO_150000.out BK149.out (by decide)) BK151.out (by decide)) (fun _ hk => hk.1.2) (.int .i64 t162)) (fun _ hk => hk.2) (.slice (some ⟨go81, 0, none⟩) t152.length co13)) (fun _ hk => hk.2) (.int .i64 t162)) (fun _ hk => hk.2) (.int .i64 t156)) (fun _ hk => trivial), zB5_3⟩
              rw [if_neg c77] at H
              have c77b0 : (x50_55 == 2) = false := beq_eq_false_iff_ne.mpr c77
              have c77b1 : (x50_55 != 2) = true := bne_iff_ne.mpr c77
              by_cases c90 : x50_55 = 10
              · rw [if_pos c90] at H
                have c90b0 : (x50_55 == 10) = true := beq_iff_eq.mpr c90
                have c90b1 : (x50_55 != 10) = false := bne_eq_false_iff_eq.mpr c90
                clear c90
                replace H := Option.bind_eq_some_iff.mp H
                obtain ⟨t166, A910, H⟩ := H
                replace H : (if 0 ≤ a1_1 then (if a1_1 < (t152.length : Int) then (some ((t152.set (a1_1 : Int).toNat t166), t162, t156, (-1))) else (none)) else (none)) = some (r1, r2, r3, r4) := H
                have A91 := Aside0.mk A910
                clear A910
                by_cases c92 : 0 ≤ a1_1
                rotate_left
                · rw [if_neg c92] at H
                  exact absurd H (by simp)
                rw [if_pos c92] at H
                have c92b0 : decide (0 ≤ a1_1) = true := decide_eq_true c92
                clear c92
                by_cases c93 : a1_1 < (t152.length : Int)
                rotate_left
                · rw [if_neg c93] at H
                  exact absurd H (by simp)
                rw [if_pos c93] at H
                have c93b0 : decide (a1_1 < (t152.length : Int)) = true := decide_eq_true c93
                clear c93
                obtain ⟨y167, hy167⟩ : ∃ y_ : List Int, y_ = (t152.set (a1_1 : Int).toNat t166) := ⟨_, rfl⟩
                replace H : (some (y167, t162, t156, (-1))) = some (r1, r2, r3, r4) := by first | (rw [hy167]; with_reducible exact H) | (have H2_ := (Option.bind_some _ _).symm.trans H; rw [hy167]; with_reducible exact H2_) | (have H2_ := (Option.bind_some _ _).symm.trans H; with_reducible exact H2_) | with_reducible exact H | (rw [hy167]; exact H) | exact H
                have Ny167 := Aside0.mk hy167
                clear hy167
                simp only [Option.some.injEq, Prod.mk.injEq] at H
                obtain ⟨rfl, rfl, rfl, rfl⟩ := H
                try go_wp2
                have n0_ := Aside0.mk (Kd.R_drew HO_150000.out)
                have n1_ := Aside0.mk (blk_drew BK149.out)
                have n2_ := Aside0.mk (blk_drew BK150.out)
                have n3_ := Aside0.mk (blk_drew BK151.out)
                have n4_ := Aside0.mk (below_drew1 HB.out)
                clear HO_150000 BK149 BK150 BK151 HB
                have HO_150000 := n0_
                have BK149 := n1_
                have BK150 := n2_
                have BK151 := n3_
                have HB := n4_
                clear n0_ n1_ n2_ n3_ n4_
                refine start_ (n := 10) (S := fun w' => w'.cell? ⟨gb149, 0, none⟩ = some (.slice (some ad160) t152.length co13) ∧ w'.cell? ⟨gb149, 1, none⟩ = some (.int .i64 t155) ∧ w'.cell? ⟨gb149, 2, none⟩ = some (.int .i64 t156) ∧ w'.cell? ⟨gb150, 0, none⟩ = some (.int .i64 a1_0) ∧ w'.cell? ⟨gb150, 1, none⟩ = some (.int .i64 a1_1) ∧ w'.cell? ⟨gb150, 2, none⟩ = some (.int .i64 a1_2) ∧ w'.cell? ⟨gb150, 3, none⟩ = some (.int .i64 a1_3) ∧ w'.cell? ⟨gb150, 4, none⟩ = some (.int .i64 a1_4)) (ds := [9]) #[false, false, false, false, false, false, false, false, false, false] (by kernel_rfl) rfl rfl ⟨(blk_cell BK149.out 0).trans rfl, (blk_cell BK149.out 1).trans rfl, (blk_cell BK149.out 2).trans rfl, (blk_cell BK150.out 0).trans rfl, (blk_cell BK150.out 1).trans rfl, (blk_cell BK150.out 2).trans rfl, (blk_cell BK150.out 3).trans rfl, (blk_cell BK150.out 4).trans rfl⟩ (fun hHeld => ?_); refine with_tabW impl_Work.tab16 impl_Work.bits16 (fun HT_ HW_ => ?_)
                generalize wc.drew = w95 at HO_150000 BK149 BK150 BK151 HB hHeld ⊢
                refine pure_ (i := 0) (N := some 73) (v := ?_) (a' := ?_) #[true, false, false, false, false, false, false, false, false, false] rfl rfl (any_of HT_.out (by kernel_rfl)) (fun _ _ _ h => h) (Or.inl ⟨by rfl, ?_⟩) ?_ ?_
                rotate_left
                · intro w'
                  go_simp
                  with_reducible rfl
                rotate_left
                · simp only [Act.put, List.setIfInBounds_toArray, List.set_cons_zero, List.set_cons_succ, i64_w, i32_w]
                  rfl
                refine pure_ (i := 2) (N := some 75) (v := ?_) (a' := ?_) #[true, false, true, false, false, false, false, false, false, false] rfl rfl (any_of HT_.out (by kernel_rfl)) (fun _ _ _ h => h) (Or.inl ⟨by rfl, ?_⟩) ?_ ?_
                rotate_left
                · intro w'
                  go_simp
                  with_reducible rfl
                rotate_left
                · simp only [Act.put, List.setIfInBounds_toArray, List.set_cons_zero, List.set_cons_succ, i64_w, i32_w]
                  rfl
                refine pure_ (i := 4) (N := some 77) (v := ?_) (a' := ?_) #[true, false, true, false, true, false, false, false, false, false] rfl rfl (any_of HT_.out (by kernel_rfl)) (fun _ _ _ h => h) (Or.inl ⟨by rfl, ?_⟩) ?_ ?_
                rotate_left
                · intro w'
                  go_simp
                  with_reducible rfl
                rotate_left
                · simp only [Act.put, List.setIfInBounds_toArray, List.set_cons_zero, List.set_cons_succ, i64_w, i32_w]
                  rfl
                refine pure_ (i := 5) (N := some 78) (v := ?_) (a' := ?_) #[true, false, true, false, true, true, false, false, false, false] rfl rfl (any_of HT_.out (by kernel_rfl)) (fun _ _ _ h => h) (Or.inl ⟨by rfl, ?_⟩) ?_ ?_
                rotate_left
                · intro w'
                  go_simp
                  with_reducible rfl
                rotate_left
                · simp only [Act.put, List.setIfInBounds_toArray, List.set_cons_zero, List.set_cons_succ, i64_w, i32_w]
                  rfl
                refine pure_ (i := 6) (N := some 79) (v := ?_) (a' := ?_) #[true, false, true, false, true, true, true, false, false, false] rfl rfl (any_of HT_.out (by kernel_rfl)) (fun _ _ _ h => h) (Or.inl ⟨by rfl, ?_⟩) ?_ ?_
                rotate_left
                · intro w'
                  go_simp
                  with_reducible rfl
                rotate_left
                · simp only [Act.put, List.setIfInBounds_toArray, List.set_cons_zero, List.set_cons_succ, i64_w, i32_w]
                  rfl
                refine take_ (i := 1) (N := some 74) (v := ?_) (a' := ?_) #[true, true, true, false, true, true, true, false, false, false] rfl rfl (take_ofW HT_.out HW_.out (by kernel_rfl)) (fun _ _ _ h => h) (Or.inl ⟨by rfl, ?_⟩) hHeld ?_ ?_
                rotate_left
                · rintro w' ⟨s0, s1, s2, s3, s4, s5, s6, s7⟩
                  go_simp
                  with_reducible rfl
                rotate_left
                · simp only [Act.put, List.setIfInBounds_toArray, List.set_cons_zero, List.set_cons_succ, i64_w, i32_w]
                  rfl
                refine take_ (i := 3) (N := some 76) (v := ?_) (a' := ?_) #[true, true, true, true, true, true, true, false, false, false] rfl rfl (take_ofW HT_.out HW_.out (by kernel_rfl)) (fun _ _ _ h => h) (Or.inl ⟨by rfl, ?_⟩) hHeld ?_ ?_
                rotate_left
                · rintro w' ⟨s0, s1, s2, s3, s4, s5, s6, s7⟩
                  go_simp
                  with_reducible rfl
                rotate_left
                · simp only [Act.put, List.setIfInBounds_toArray, List.set_cons_zero, List.set_cons_succ, i64_w, i32_w]
                  rfl
                refine one_ (i := 7) (N := some 80) #[true, true, true, true, true, true, true, true, false, false] rfl rfl (one_of HT_.out (by kernel_rfl)) (by decide) (fun K hK => ?_)
                refine goes_ Try.func181 (by kernel_rfl) rfl #[.int .i64 (wrap64 ((rd t152 a1_2) - (rd t152 a1_3)))] (by rfl) rfl rfl zT5 ?_
                with_reducible refine (impl_wrapped.calls (wrap64 ((rd t152 a1_2) - (rd t152 a1_3))) t166 _ A91.out).mono ?_
                rintro e w' ⟨rfl, ⟨nd, rfl⟩⟩
                refine ⟨_, rfl, ?_⟩
                (try (rw [drewN_self w95]; generalize hq_ : World.drewN w95 _ = w95; have n0_ : Aside0 (Kd.R (Kd.int .i64) 3 w95 w.heap.size (fun _ => True) (.slice (some ad160) t152.length co13) t152) := ⟨by rw [← hq_]; exact (zR5 HO_150000.out)⟩; have n1_ : Aside0 (w95.heap[gb149]? = some (.cells #[.slice (some ad160) t152.length co13, .int .i64 t155, .int .i64 t156] 31 (0, 0))) := ⟨by rw [← hq_]; exact (zK5 BK149.out)⟩; have n2_ : Aside0 (w95.heap[gb150]? = some (.cells #[.int .i64 a1_0, .int .i64 a1_1, .int .i64 a1_2, .int .i64 a1_3, .int .i64 a1_4] 54 (0, 0))) := ⟨by rw [← hq_]; exact (zK5 BK150.out)⟩; have n3_ : Aside0 (w95.heap[gb151]? = some (.cells #[.slice none 0 0, .int .i64 0, .int .i64 0] 31 (0, 0))) := ⟨by rw [← hq_]; exact (zK5 BK151.out)⟩; have n4_ : Aside0 (Below w.heap.size w w95) := ⟨by rw [← hq_]; exact (zB5_3)⟩; clear HO_150000 BK149 BK150 BK151 HB hq_; have HO_150000 := n0_; have BK149 := n1_; have BK150 := n2_; have BK151 := n3_; have HB := n4_; clear n0_ n1_ n2_ n3_ n4_))
                have p94 : 0 ≤ (a1_1 : Int) := zA5
                have q94 : (a1_1 : Int) < ((t152.length : Int) : Int) := zA5
                obtain ⟨go94, co94, eo94, gb94, gl94, cl94, HG94⟩ := Kd.R_form HO_150000.out (by omega)
                (first | cases eo94 | (injection eo94 with ea_ en_ ec_; (first | subst ea_ | (injection ea_ with ea_; subst ea_)); subst ec_; clear en_))
                have GB94 := Aside0.mk gb94
                have GG94 := Aside0.mk HG94
                clear gb94 gl94 HG94
                obtain ⟨hx94_0, hf94_0⟩ := Kd.R_celln 0 HO_150000.out (a1_1 : Int) p94 q94
                replace p94 := eq_true p94
                replace q94 := eq_true q94
                have HP96 := Kd.R_putn HO_150000.out (a1_1 : Int) t166
                rw [← Ny167.out] at HP96
                have HQ96 := Aside0.mk HP96
                clear HP96
                refine hK.out _ _ ⟨(blk_cell BK149.out 0).trans rfl, (blk_cell BK149.out 1).trans rfl, (blk_cell BK149.out 2).trans rfl, (blk_cell BK150.out 0).trans rfl, (blk_cell BK150.out 1).trans rfl, (blk_cell BK150.out 2).trans rfl, (blk_cell BK150.out 3).trans rfl, (blk_cell BK150.out 4).trans rfl⟩ (fun hHeld => ?_)
                clear hK K
                refine norm_ (a' := ?_) ?_ ?_
                rotate_left
                · show Act.put _ (some 80) _ = _
                  simp only [Act.put, List.setIfInBounds_toArray, List.set_cons_zero, List.set_cons_succ, i64_w, i32_w]
                  rfl
                refine pure_ (i := 8) (N := some 81) (v := ?_) (a' := ?_) #[true, true, true, true, true, true, true, true, true, false] rfl rfl (any_of HT_.out (by kernel_rfl)) (fun _ _ _ h => h) (Or.inl ⟨by rfl, ?_⟩) ?_ ?_
                rotate_left
                · intro w'
                  go_simp
                  with_reducible rfl
                rotate_left
                · simp only [Act.put, List.setIfInBounds_toArray, List.set_cons_zero, List.set_cons_succ, i64_w, i32_w]
                  rfl
                refine last_ (i := 9) (N := none) #[true, true, true, true, true, true, true, true, true, true] rfl rfl (one_of HT_.out (by kernel_rfl)) (by decide) (fun K hK => ?_)
                refine skip_ (w1 := ?_) (by rfl) rfl ?_ ?_
                rotate_left
                · go_simp
                  rfl
                refine hK.out _ _ ?_
                clear hK K
                refine done_ (done_of HT_.out (by kernel_rfl)) ?_
                have n0_ : Aside0 (Kd.R (Kd.int .i64) 3 (w95.setCell ⟨go94, (a1_1 : Int).toNat, none⟩ (.int .i64 t166)) w.heap.size (fun _ => True) (.slice (some ⟨go94, 0, none⟩) t152.length co13) y167) := ⟨zR5 HQ96.out⟩
                have n1_ : Aside0 ((w95.setCell ⟨go94, (a1_1 : Int).toNat, none⟩ (.int .i64 t166)).heap[gb149]? = some (.cells #[.slice (some ⟨go94, 0, none⟩) t152.length co13, .int .i64 t155, .int .i64 t156] 31 (0, 0))) := ⟨by (with_reducible repeat (first | refine blk_drewN ?_ _ | refine blk_drew ?_ | refine blk_alloc ?_ _)); refine blk_far ?_ (by have h_ := Kd.R_ne HO_150000.out BK149.out (by decide); intro e_; exact h_ (by rw [e_]; rfl)) _; (with_reducible repeat (first | refine blk_drewN ?_ _ | refine blk_drew ?_ | refine blk_alloc ?_ _)); exact BK149.out⟩
                have n2_ : Aside0 ((w95.setCell ⟨go94, (a1_1 : Int).toNat, none⟩ (.int .i64 t166)).heap[gb150]? = some (.cells #[.int .i64 a1_0, .int .i64 a1_1, .int .i64 a1_2, .int .i64 a1_3, .int .i64 a1_4] 54 (0, 0))) := ⟨by (with_reducible repeat (first | refine blk_drewN ?_ _ | refine blk_drew ?_ | refine blk_alloc ?_ _)); refine blk_far ?_ (by have h_ := Kd.R_ne HO_150000.out BK150.out (by decide); intro e_; exact h_ (by rw [e_]; rfl)) _; (with_reducible repeat (first | refine blk_drewN ?_ _ | refine blk_drew ?_ | refine blk_alloc ?_ _)); exact BK150.out⟩
                have n3_ : Aside0 ((w95.setCell ⟨go94, (a1_1 : Int).toNat, none⟩ (.int .i64 t166)).heap[gb151]? = some (.cells #[.slice none 0 0, .int .i64 0, .int .i64 0] 31 (0, 0))) := ⟨by (with_reducible repeat (first | refine blk_drewN ?_ _ | refine blk_drew ?_ | refine blk_alloc ?_ _)); refine blk_far ?_ (by have h_ := Kd.R_ne HO_150000.out BK151.out (by decide); intro e_; exact h_ (by rw [e_]; rfl)) _; (with_reducible repeat (first | refine blk_drewN ?_ _ | refine blk_drew ?_ | refine blk_alloc ?_ _)); exact BK151.out⟩
                have n4_ : Aside0 (Below w.heap.size w (w95.setCell ⟨go94, (a1_1 : Int).toNat, none⟩ (.int .i64 t166))) := ⟨zB5_5⟩
                (try clear HO_150000)
                (try clear BK149)
                (try clear BK150)
                (try clear BK151)
                (try clear HB)
                generalize (w95.setCell ⟨go94, (a1_1 : Int).toNat, none⟩ (.int .i64 t166)) = w97 at n0_ n1_ n2_ n3_ n4_ ⊢
                have HO_150000 := n0_
                have BK149 := n1_
                have BK150 := n2_
                have BK151 := n3_
                have HB := n4_
                clear n0_ n1_ n2_ n3_ n4_
                have hnb98 := NB149_150.out
                have hnc98 := NB150_149.out
                have hnb99 := NB149_151.out
                have hnc99 := NB151_149.out
                have hcz100_0 : w97.cell? ⟨gb149, 0, none⟩ = some (.slice (some ⟨go94, 0, none⟩) t152.length co13) := (blk_cell BK149.out 0).trans rfl
                have hcz100_1 : w97.cell? ⟨gb149, 1, none⟩ = some (.int .i64 t155) := (blk_cell BK149.out 1).trans rfl
                have hcz100_2 : w97.cell? ⟨gb149, 2, none⟩ = some (.int .i64 t156) := (blk_cell BK149.out 2).trans rfl
                have hfz100_0 := blk_frozen BK149.out 0
                have hfz100_1 := blk_frozen BK149.out 1
                have hfz100_2 := blk_frozen BK149.out 2
                have hnb101 := NB151_150.out
                have hnc101 := NB150_151.out
                have hcz102_0 : w97.cell? ⟨gb151, 0, none⟩ = some (.slice none 0 0) := (blk_cell BK151.out 0).trans rfl
                have hcz102_1 : w97.cell? ⟨gb151, 1, none⟩ = some (.int .i64 0) := (blk_cell BK151.out 1).trans rfl
                have hcz102_2 : w97.cell? ⟨gb151, 2, none⟩ = some (.int .i64 0) := (blk_cell BK151.out 2).trans rfl
                have hfz102_0 := blk_frozen BK151.out 0
                have hfz102_1 := blk_frozen BK151.out 1
                have hfz102_2 := blk_frozen BK151.out 2
                try go_wp2
                refine bodyPost_ret (results_ct rfl _ _ gb151 31 #[.slice (some ⟨go94, 0, none⟩) t152.length co13, .int .i64 t162, .int .i64 t156] (0, 0) _ rfl (by (with_reducible repeat (first | refine blk_drewN ?_ _ | refine blk_drew ?_ | refine blk_alloc ?_ _)); refine blk_put (cs := #[.slice (some ⟨go94, 0, none⟩) t152.length co13, .int .i64 t162, .int .i64 0]) ?_ 2 _ rfl; (with_reducible repeat (first | refine blk_drewN ?_ _ | refine blk_drew ?_ | refine blk_alloc ?_ _)); refine blk_put (cs := #[.slice (some ⟨go94, 0, none⟩) t152.length co13, .int .i64 0, .int .i64 0]) ?_ 1 _ rfl; (with_reducible repeat (first | refine blk_drewN ?_ _ | refine blk_drew ?_ | refine blk_alloc ?_ _)); refine blk_put (cs := #[.slice none 0 0, .int .i64 0, .int .i64 0]) ?_ 0 _ rfl; (with_reducible repeat (first | refine blk_drewN ?_ _ | refine blk_drew ?_ | refine blk_alloc ?_ _)); refine blk_far ?_ NB151_149.out _; (with_reducible repeat (first | refine blk_drewN ?_ _ | refine blk_drew ?_ | refine blk_alloc ?_ _)); exact BK151.out) Try.underlying31 rfl (by kernel_rfl)) rfl ?_
                exact ⟨_, zE5, by (with_reducible repeat (first | apply Kd.R_alloc | apply Kd.R_drewN | apply Kd.R_drew)); exact Kd.R_mono (Kd.R_far (p := ⟨gb151, 2, none⟩) (Kd.R_far (p := ⟨gb151, 1, none⟩) (Kd.R_far (p := ⟨gb151, 0, none⟩) (Kd.R_far (p := ⟨gb149, 1, none⟩) (Kd.R_types (Kd.R_types HO_150000.out BK149.out (by decide)) BK151.out (by decide)) (fun _ hk => hk.1.2) (.int .i64 t162)) (fun _ hk => hk.2) (.slice (some ⟨go94, 0, none⟩) t152.length co13)) (fun _ hk => hk.2) (.int .i64 t162)) (fun _ hk => hk.2) (.int .i64 t156)) (fun _ hk => trivial), zB5_3⟩
              rw [if_neg c90] at H
              have c90b0 : (x50_55 == 10) = false := beq_eq_false_iff_ne.mpr c90
              have c90b1 : (x50_55 != 10) = true := bne_iff_ne.mpr c90
              by_cases c103 : x50_55 = 3
              · rw [if_pos c103] at H
                have c103b0 : (x50_55 == 3) = true := beq_iff_eq.mpr c103
                have c103b1 : (x50_55 != 3) = false := bne_eq_false_iff_eq.mpr c103
                clear c103
                replace H := Option.bind_eq_some_iff.mp H
                obtain ⟨t168, A1040, H⟩ := H
                replace H : (if 0 ≤ a1_1 then (if a1_1 < (t152.length : Int) then (some ((t152.set (a1_1 : Int).toNat t168), t162, t156, (-1))) else (none)) else (none)) = some (r1, r2, r3, r4) := H
                have A104 := Aside0.mk A1040
                clear A1040
                by_cases c105 : 0 ≤ a1_1
                rotate_left
                · rw [if_neg c105] at H
                  exact absurd H (by simp)
                rw [if_pos c105] at H
                have c105b0 : decide (0 ≤ a1_1) = true := decide_eq_true c105
                clear c105
                by_cases c106 : a1_1 < (t152.length : Int)
                rotate_left
                · rw [if_neg c106] at H
                  exact absurd H (by simp)
                rw [if_pos c106] at H
                have c106b0 : decide (a1_1 < (t152.length : Int)) = true := decide_eq_true c106
                clear c106
                obtain ⟨y169, hy169⟩ : ∃ y_ : List Int, y_ = (t152.set (a1_1 : Int).toNat t168) := ⟨_, rfl⟩
                replace H : (some (y169, t162, t156, (-1))) = some (r1, r2, r3, r4) := by first | (rw [hy169]; with_reducible exact H) | (have H2_ := (Option.bind_some _ _).symm.trans H; rw [hy169]; with_reducible exact H2_) | (have H2_ := (Option.bind_some _ _).symm.trans H; with_reducible exact H2_) | with_reducible exact H | (rw [hy169]; exact H) | exact H
                have Ny169 := Aside0.mk hy169
                clear hy169
                simp only [Option.some.injEq, Prod.mk.injEq] at H
                obtain ⟨rfl, rfl, rfl, rfl⟩ := H
                try go_wp2
                have n0_ := Aside0.mk (Kd.R_drew HO_150000.out)
                have n1_ := Aside0.mk (blk_drew BK149.out)
                have n2_ := Aside0.mk (blk_drew BK150.out)
                have n3_ := Aside0.mk (blk_drew BK151.out)
                have n4_ := Aside0.mk (below_drew1 HB.out)
                clear HO_150000 BK149 BK150 BK151 HB
                have HO_150000 := n0_
                have BK149 := n1_
                have BK150 := n2_
                have BK151 := n3_
                have HB := n4_
                clear n0_ n1_ n2_ n3_ n4_
                refine start_ (n := 11) (S := fun w' => w'.cell? ⟨gb149, 0, none⟩ = some (.slice (some ad160) t152.length co13) ∧ w'.cell? ⟨gb149, 1, none⟩ = some (.int .i64 t155) ∧ w'.cell? ⟨gb149, 2, none⟩ = some (.int .i64 t156) ∧ w'.cell? ⟨gb150, 0, none⟩ = some (.int .i64 a1_0) ∧ w'.cell? ⟨gb150, 1, none⟩ = some (.int .i64 a1_1) ∧ w'.cell? ⟨gb150, 2, none⟩ = some (.int .i64 a1_2) ∧ w'.cell? ⟨gb150, 3, none⟩ = some (.int .i64 a1_3) ∧ w'.cell? ⟨gb150, 4, none⟩ = some (.int .i64 a1_4)) (ds := [10]) #[false, false, false, false, false, false, false, false, false, false, false] (by kernel_rfl) rfl rfl ⟨(blk_cell BK149.out 0).trans rfl, (blk_cell BK149.out 1).trans rfl, (blk_cell BK149.out 2).trans rfl, (blk_cell BK150.out 0).trans rfl, (blk_cell BK150.out 1).trans rfl, (blk_cell BK150.out 2).trans rfl, (blk_cell BK150.out 3).trans rfl, (blk_cell BK150.out 4).trans rfl⟩ (fun hHeld => ?_); refine with_tabW impl_Work.tab18 impl_Work.bits18 (fun HT_ HW_ => ?_)
                generalize wc.drew = w108 at HO_150000 BK149 BK150 BK151 HB hHeld ⊢
                refine pure_ (i := 0) (N := some 84) (v := ?_) (a' := ?_) #[true, false, false, false, false, false, false, false, false, false, false] rfl rfl (any_of HT_.out (by kernel_rfl)) (fun _ _ _ h => h) (Or.inl ⟨by rfl, ?_⟩) ?_ ?_
                rotate_left
                · intro w'
                  go_simp
                  with_reducible rfl
                rotate_left
                · simp only [Act.put, List.setIfInBounds_toArray, List.set_cons_zero, List.set_cons_succ, i64_w, i32_w]
                  rfl
                refine pure_ (i := 2) (N := some 86) (v := ?_) (a' := ?_) #[true, false, true, false, false, false, false, false, false, false, false] rfl rfl (any_of HT_.out (by kernel_rfl)) (fun _ _ _ h => h) (Or.inl ⟨by rfl, ?_⟩) ?_ ?_
                rotate_left
                · intro w'
                  go_simp
                  with_reducible rfl
                rotate_left
                · simp only [Act.put, List.setIfInBounds_toArray, List.set_cons_zero, List.set_cons_succ, i64_w, i32_w]
                  rfl
                refine pure_ (i := 4) (N := some 88) (v := ?_) (a' := ?_) #[true, false, true, false, true, false, false, false, false, false, false] rfl rfl (any_of HT_.out (by kernel_rfl)) (fun _ _ _ h => h) (Or.inl ⟨by rfl, ?_⟩) ?_ ?_
                rotate_left
                · intro w'
                  go_simp
                  with_reducible rfl
                rotate_left
                · simp only [Act.put, List.setIfInBounds_toArray, List.set_cons_zero, List.set_cons_succ, i64_w, i32_w]
                  rfl
                refine pure_ (i := 5) (N := some 89) (v := ?_) (a' := ?_) #[true, false, true, false, true, true, false, false, false, false, false] rfl rfl (any_of HT_.out (by kernel_rfl)) (fun _ _ _ h => h) (Or.inl ⟨by rfl, ?_⟩) ?_ ?_
                rotate_left
                · intro w'
                  go_simp
                  with_reducible rfl
                rotate_left
                · simp only [Act.put, List.setIfInBounds_toArray, List.set_cons_zero, List.set_cons_succ, i64_w, i32_w]
                  rfl
                refine take_ (i := 1) (N := some 85) (v := ?_) (a' := ?_) #[true, true, true, false, true, true, false, false, false, false, false] rfl rfl (take_ofW HT_.out HW_.out (by kernel_rfl)) (fun _ _ _ h => h) (Or.inl ⟨by rfl, ?_⟩) hHeld ?_ ?_
                rotate_left
                · rintro w' ⟨s0, s1, s2, s3, s4, s5, s6, s7⟩
                  go_simp
                  with_reducible rfl
                rotate_left
                · simp only [Act.put, List.setIfInBounds_toArray, List.set_cons_zero, List.set_cons_succ, i64_w, i32_w]
                  rfl
                refine take_ (i := 3) (N := some 87) (v := ?_) (a' := ?_) #[true, true, true, true, true, true, false, false, false, false, false] rfl rfl (take_ofW HT_.out HW_.out (by kernel_rfl)) (fun _ _ _ h => h) (Or.inl ⟨by rfl, ?_⟩) hHeld ?_ ?_
                rotate_left
                · rintro w' ⟨s0, s1, s2, s3, s4, s5, s6, s7⟩
                  go_simp
                  with_reducible rfl
                rotate_left
                · simp only [Act.put, List.setIfInBounds_toArray, List.set_cons_zero, List.set_cons_succ, i64_w, i32_w]
                  rfl
                refine take_ (i := 6) (N := some 90) (v := ?_) (a' := ?_) #[true, true, true, true, true, true, true, false, false, false, false] rfl rfl (take_ofW HT_.out HW_.out (by kernel_rfl)) (fun _ _ _ h => h) (Or.inl ⟨by rfl, ?_⟩) hHeld ?_ ?_
                rotate_left
                · rintro w' ⟨s0, s1, s2, s3, s4, s5, s6, s7⟩
                  go_simp
                  with_reducible rfl
                rotate_left
                · simp only [Act.put, List.setIfInBounds_toArray, List.set_cons_zero, List.set_cons_succ, i64_w, i32_w]
                  rfl
                refine pure_ (i := 7) (N := some 91) (v := ?_) (a' := ?_) #[true, true, true, true, true, true, true, true, false, false, false] rfl rfl (any_of HT_.out (by kernel_rfl)) (fun _ _ _ h => h) (Or.inl ⟨by rfl, ?_⟩) ?_ ?_
                rotate_left
                · intro w'
                  go_simp
                  with_reducible rfl
                rotate_left
                · simp only [Act.put, List.setIfInBounds_toArray, List.set_cons_zero, List.set_cons_succ, i64_w, i32_w]
                  rfl
                refine one_ (i := 8) (N := some 92) #[true, true, true, true, true, true, true, true, true, false, false] rfl rfl (one_of HT_.out (by kernel_rfl)) (by decide) (fun K hK => ?_)
                refine goes_ Try.func181 (by kernel_rfl) rfl #[.int .i64 (wrap64 ((rd t152 a1_2) + a1_4))] (by rfl) rfl rfl zT5 ?_
                with_reducible refine (impl_wrapped.calls (wrap64 ((rd t152 a1_2) + a1_4)) t168 _ A104.out).mono ?_
                rintro e w' ⟨rfl, ⟨nd, rfl⟩⟩
                refine ⟨_, rfl, ?_⟩
                (try (rw [drewN_self w108]; generalize hq_ : World.drewN w108 _ = w108; have n0_ : Aside0 (Kd.R (Kd.int .i64) 3 w108 w.heap.size (fun _ => True) (.slice (some ad160) t152.length co13) t152) := ⟨by rw [← hq_]; exact (zR5 HO_150000.out)⟩; have n1_ : Aside0 (w108.heap[gb149]? = some (.cells #[.slice (some ad160) t152.length co13, .int .i64 t155, .int .i64 t156] 31 (0, 0))) := ⟨by rw [← hq_]; exact (zK5 BK149.out)⟩; have n2_ : Aside0 (w108.heap[gb150]? = some (.cells #[.int .i64 a1_0, .int .i64 a1_1, .int .i64 a1_2, .int .i64 a1_3, .int .i64 a1_4] 54 (0, 0))) := ⟨by rw [← hq_]; exact (zK5 BK150.out)⟩; have n3_ : Aside0 (w108.heap[gb151]? = some (.cells #[.slice none 0 0, .int .i64 0, .int .i64 0] 31 (0, 0))) := ⟨by rw [← hq_]; exact (zK5 BK151.out)⟩; have n4_ : Aside0 (Below w.heap.size w w108) := ⟨by rw [← hq_]; exact (zB5_3)⟩; clear HO_150000 BK149 BK150 BK151 HB hq_; have HO_150000 := n0_; have BK149 := n1_; have BK150 := n2_; have BK151 := n3_; have HB := n4_; clear n0_ n1_ n2_ n3_ n4_))
                have p107 : 0 ≤ (a1_1 : Int) := zA5
                have q107 : (a1_1 : Int) < ((t152.length : Int) : Int) := zA5
                obtain ⟨go107, co107, eo107, gb107, gl107, cl107, HG107⟩ := Kd.R_form HO_150000.out (by omega)
                (first | cases eo107 | (injection eo107 with ea_ en_ ec_; (first | subst ea_ | (injection ea_ with ea_; subst ea_)); subst ec_; clear en_))
                have GB107 := Aside0.mk gb107
                have GG107 := Aside0.mk HG107
                clear gb107 gl107 HG107
                obtain ⟨hx107_0, hf107_0⟩ := Kd.R_celln 0 HO_150000.out (a1_1 : Int) p107 q107
                replace p107 := eq_true p107
                replace q107 := eq_true q107
                have HP109 := Kd.R_putn HO_150000.out (a1_1 : Int) t168
                rw [← Ny169.out] at HP109
                have HQ109 := Aside0.mk HP109
                clear HP109
                refine hK.out _ _ ⟨(blk_cell BK149.out 0).trans rfl, (blk_cell BK149.out 1).trans rfl, (blk_cell BK149.out 2).trans rfl, (blk_cell BK150.out 0).trans rfl, (blk_cell BK150.out 1).trans rfl, (blk_cell BK150.out 2).trans rfl, (blk_cell BK150.out 3).trans rfl, (blk_cell BK150.out 4).trans rfl⟩ (fun hHeld => ?_)
                clear hK K
                refine norm_ (a' := ?_) ?_ ?_
                rotate_left
                · show Act.put _ (some 92) _ = _
                  simp only [Act.put, List.setIfInBounds_toArray, List.set_cons_zero, List.set_cons_succ, i64_w, i32_w]
                  rfl
                refine pure_ (i := 9) (N := some 93) (v := ?_) (a' := ?_) #[true, true, true, true, true, true, true, true, true, true, false] rfl rfl (any_of HT_.out (by kernel_rfl)) (fun _ _ _ h => h) (Or.inl ⟨by rfl, ?_⟩) ?_ ?_
                rotate_left
                · intro w'
                  go_simp
                  with_reducible rfl
                rotate_left
                · simp only [Act.put, List.setIfInBounds_toArray, List.set_cons_zero, List.set_cons_succ, i64_w, i32_w]
                  rfl
                refine last_ (i := 10) (N := none) #[true, true, true, true, true, true, true, true, true, true, true] rfl rfl (one_of HT_.out (by kernel_rfl)) (by decide) (fun K hK => ?_)
                refine skip_ (w1 := ?_) (by rfl) rfl ?_ ?_
                rotate_left
                · go_simp
                  rfl
                refine hK.out _ _ ?_
                clear hK K
                refine done_ (done_of HT_.out (by kernel_rfl)) ?_
                have n0_ : Aside0 (Kd.R (Kd.int .i64) 3 (w108.setCell ⟨go107, (a1_1 : Int).toNat, none⟩ (.int .i64 t168)) w.heap.size (fun _ => True) (.slice (some ⟨go107, 0, none⟩) t152.length co13) y169) := ⟨zR5 HQ109.out⟩
                have n1_ : Aside0 ((w108.setCell ⟨go107, (a1_1 : Int).toNat, none⟩ (.int .i64 t168)).heap[gb149]? = some (.cells #[.slice (some ⟨go107, 0, none⟩) t152.length co13, .int .i64 t155, .int .i64 t156] 31 (0, 0))) := ⟨by (with_reducible repeat (first | refine blk_drewN ?_ _ | refine blk_drew ?_ | refine blk_alloc ?_ _)); refine blk_far ?_ (by have h_ := Kd.R_ne HO_150000.out BK149.out (by decide); intro e_; exact h_ (by rw [e_]; rfl)) _; (with_reducible repeat (first | refine blk_drewN ?_ _ | refine blk_drew ?_ | refine blk_alloc ?_ _)); exact BK149.out⟩
                have n2_ : Aside0 ((w108.setCell ⟨go107, (a1_1 : Int).toNat, none⟩ (.int .i64 t168)).heap[gb150]? = some (.cells #[.int .i64 a1_0, .int .i64 a1_1, .int .i64 a1_2, .int .i64 a1_3, .int .i64 a1_4] 54 (0, 0))) := ⟨by (with_reducible repeat (first | refine blk_drewN ?_ _ | refine blk_drew ?_ | refine blk_alloc ?_ _)); refine blk_far ?_ (by have h_ := Kd.R_ne HO_150000.out BK150.out (by decide); intro e_; exact h_ (by rw [e_]; rfl)) _; (with_reducible repeat (first | refine blk_drewN ?_ _ | refine blk_drew ?_ | refine blk_alloc ?_ _)); exact BK150.out⟩
                have n3_ : Aside0 ((w108.setCell ⟨go107, (a1_1 : Int).toNat, none⟩ (.int .i64 t168)).heap[gb151]? = some (.cells #[.slice none 0 0, .int .i64 0, .int .i64 0] 31 (0, 0))) := ⟨by (with_reducible repeat (first | refine blk_drewN ?_ _ | refine blk_drew ?_ | refine blk_alloc ?_ _)); refine blk_far ?_ (by have h_ := Kd.R_ne HO_150000.out BK151.out (by decide); intro e_; exact h_ (by rw [e_]; rfl)) _; (with_reducible repeat (first | refine blk_drewN ?_ _ | refine blk_drew ?_ | refine blk_alloc ?_ _)); exact BK151.out⟩
                have n4_ : Aside0 (Below w.heap.size w (w108.setCell ⟨go107, (a1_1 : Int).toNat, none⟩ (.int .i64 t168))) := ⟨zB5_6⟩
                (try clear HO_150000)
                (try clear BK149)
                (try clear BK150)
                (try clear BK151)
                (try clear HB)
                generalize (w108.setCell ⟨go107, (a1_1 : Int).toNat, none⟩ (.int .i64 t168)) = w110 at n0_ n1_ n2_ n3_ n4_ ⊢
                have HO_150000 := n0_
                have BK149 := n1_
                have BK150 := n2_
                have BK151 := n3_
                have HB := n4_
                clear n0_ n1_ n2_ n3_ n4_
                have hnb111 := NB149_150.out
                have hnc111 := NB150_149.out
                have hnb112 := NB149_151.out
                have hnc112 := NB151_149.out
                have hcz113_0 : w110.cell? ⟨gb149, 0, none⟩ = some (.slice (some ⟨go107, 0, none⟩) t152.length co13) := (blk_cell BK149.out 0).trans rfl
                have hcz113_1 : w110.cell? ⟨gb149, 1, none⟩ = some (.int .i64 t155) := (blk_cell BK149.out 1).trans rfl
                have hcz113_2 : w110.cell? ⟨gb149, 2, none⟩ = some (.int .i64 t156) := (blk_cell BK149.out 2).trans rfl
                have hfz113_0 := blk_frozen BK149.out 0
                have hfz113_1 := blk_frozen BK149.out 1
                have hfz113_2 := blk_frozen BK149.out 2
                have hnb114 := NB151_150.out
                have hnc114 := NB150_151.out
                have hcz115_0 : w110.cell? ⟨gb151, 0, none⟩ = some (.slice none 0 0) := (blk_cell BK151.out 0).trans rfl
                have hcz115_1 : w110.cell? ⟨gb151, 1, none⟩ = some (.int .i64 0) := (blk_cell BK151.out 1).trans rfl
                have hcz115_2 : w110.cell? ⟨gb151, 2, none⟩ = some (.int .i64 0) := (blk_cell BK151.out 2).trans rfl
                have hfz115_0 := blk_frozen BK151.out 0
                have hfz115_1 := blk_frozen BK151.out 1
                have hfz115_2 := blk_frozen BK151.out 2
                try go_wp2
                refine bodyPost_ret (results_ct rfl _ _ gb151 31 #[.slice (some ⟨go107, 0, none⟩) t152.length co13, .int .i64 t162, .int .i64 t156] (0, 0) _ rfl (by (with_reducible repeat (first | refine blk_drewN ?_ _ | refine blk_drew ?_ | refine blk_alloc ?_ _)); refine blk_put (cs := #[.slice (some ⟨go107, 0, none⟩) t152.length co13, .int .i64 t162, .int .i64 0]) ?_ 2 _ rfl; (with_reducible repeat (first | refine blk_drewN ?_ _ | refine blk_drew ?_ | refine blk_alloc ?_ _)); refine blk_put (cs := #[.slice (some ⟨go107, 0, none⟩) t152.length co13, .int .i64 0, .int .i64 0]) ?_ 1 _ rfl; (with_reducible repeat (first | refine blk_drewN ?_ _ | refine blk_drew ?_ | refine blk_alloc ?_ _)); refine blk_put (cs := #[.slice none 0 0, .int .i64 0, .int .i64 0]) ?_ 0 _ rfl; (with_reducible repeat (first | refine blk_drewN ?_ _ | refine blk_drew ?_ | refine blk_alloc ?_ _)); refine blk_far ?_ NB151_149.out _; (with_reducible repeat (first | refine blk_drewN ?_ _ | refine blk_drew ?_ | refine blk_alloc ?_ _)); exact BK151.out) Try.underlying31 rfl (by kernel_rfl)) rfl ?_
                exact ⟨_, zE5, by (with_reducible repeat (first | apply Kd.R_alloc | apply Kd.R_drewN | apply Kd.R_drew)); exact Kd.R_mono (Kd.R_far (p := ⟨gb151, 2, none⟩) (Kd.R_far (p := ⟨gb151, 1, none⟩) (Kd.R_far (p := ⟨gb151, 0, none⟩) (Kd.R_far (p := ⟨gb149, 1, none⟩) (Kd.R_types (Kd.R_types HO_150000.out BK149.out (by decide)) BK151.out (by decide)) (fun _ hk => hk.1.2) (.int .i64 t162)) (fun _ hk => hk.2) (.slice (some ⟨go107, 0, none⟩) t152.length co13)) (fun _ hk => hk.2) (.int .i64 t162)) (fun _ hk => hk.2) (.int .i64 t156)) (fun _ hk => trivial), zB5_3⟩
              rw [if_neg c103] at H
              have c103b0 : (x50_55 == 3) = false := beq_eq_false_iff_ne.mpr c103
              have c103b1 : (x50_55 != 3) = true := bne_iff_ne.mpr c103
              by_cases c116 : x50_55 = 4
              · rw [if_pos c116] at H
                have c116b0 : (x50_55 == 4) = true := beq_iff_eq.mpr c116
                have c116b1 : (x50_55 != 4) = false := bne_eq_false_iff_eq.mpr c116
                clear c116
                by_cases c117 : 0 ≤ a1_1
                rotate_left
                · rw [if_neg c117] at H
                  exact absurd H (by simp)
                rw [if_pos c117] at H
                have c117b0 : decide (0 ≤ a1_1) = true := decide_eq_true c117
                clear c117
                by_cases c118 : a1_1 < (t152.length : Int)
                rotate_left
                · rw [if_neg c118] at H
                  exact absurd H (by simp)
                rw [if_pos c118] at H
                have c118b0 : decide (a1_1 < (t152.length : Int)) = true := decide_eq_true c118
                clear c118
                obtain ⟨y170, hy170⟩ : ∃ y_ : List Int, y_ = (t152.set (a1_1 : Int).toNat a2) := ⟨_, rfl⟩
                replace H : (some (y170, t162, t156, (-1))) = some (r1, r2, r3, r4) := by first | (rw [hy170]; with_reducible exact H) | (have H2_ := (Option.bind_some _ _).symm.trans H; rw [hy170]; with_reducible exact H2_) | (have H2_ := (Option.bind_some _ _).symm.trans H; with_reducible exact H2_) | with_reducible exact H | (rw [hy170]; exact H) | exact H
                have Ny170 := Aside0.mk hy170
                clear hy170
                simp only [Option.some.injEq, Prod.mk.injEq] at H
                obtain ⟨rfl, rfl, rfl, rfl⟩ := H
                have hnb120 := NB149_150.out
                have hnc120 := NB150_149.out
                have hnb121 := NB149_151.out
                have hnc121 := NB151_149.out
                have hcz122_0 : wc.cell? ⟨gb149, 0, none⟩ = some (.slice (some ad160) t152.length co13) := (blk_cell BK149.out 0).trans rfl
                have hcz122_1 : wc.cell? ⟨gb149, 1, none⟩ = some (.int .i64 t155) := (blk_cell BK149.out 1).trans rfl
                have hcz122_2 : wc.cell? ⟨gb149, 2, none⟩ = some (.int .i64 t156) := (blk_cell BK149.out 2).trans rfl
                have hfz122_0 := blk_frozen BK149.out 0
                have hfz122_1 := blk_frozen BK149.out 1
                have hfz122_2 := blk_frozen BK149.out 2
                have hnb123 := NB150_151.out
                have hnc123 := NB151_150.out
                have hcz124_0 : wc.cell? ⟨gb150, 0, none⟩ = some (.int .i64 a1_0) := (blk_cell BK150.out 0).trans rfl
                have hcz124_1 : wc.cell? ⟨gb150, 1, none⟩ = some (.int .i64 a1_1) := (blk_cell BK150.out 1).trans rfl
                have hcz124_2 : wc.cell? ⟨gb150, 2, none⟩ = some (.int .i64 a1_2) := (blk_cell BK150.out 2).trans rfl
                have hcz124_3 : wc.cell? ⟨gb150, 3, none⟩ = some (.int .i64 a1_3) := (blk_cell BK150.out 3).trans rfl
                have hcz124_4 : wc.cell? ⟨gb150, 4, none⟩ = some (.int .i64 a1_4) := (blk_cell BK150.out 4).trans rfl
                have hfz124_0 := blk_frozen BK150.out 0
                have hfz124_1 := blk_frozen BK150.out 1
                have hfz124_2 := blk_frozen BK150.out 2
                have hfz124_3 := blk_frozen BK150.out 3
                have hfz124_4 := blk_frozen BK150.out 4
                have p119 : 0 ≤ (a1_1 : Int) := zA5
                have q119 : (a1_1 : Int) < ((t152.length : Int) : Int) := zA5
                obtain ⟨go119, co119, eo119, gb119, gl119, cl119, HG119⟩ := Kd.R_form HO_150000.out (by omega)
                (first | cases eo119 | (injection eo119 with ea_ en_ ec_; (first | subst ea_ | (injection ea_ with ea_; subst ea_)); subst ec_; clear en_))
                have GB119 := Aside0.mk gb119
                have GG119 := Aside0.mk HG119
                clear gb119 gl119 HG119
                obtain ⟨hx119_0, hf119_0⟩ := Kd.R_celln 0 HO_150000.out (a1_1 : Int) p119 q119
                replace p119 := eq_true p119
                replace q119 := eq_true q119
                have HP125 := Kd.R_putg HO_150000.out (a1_1 : Int) a2
                go_wp2_with (first | ((with_reducible refine gate_store (t := 3) (p := 101) rfl ?_); refine store_event (t := 3) (p := 101) (v := ?vo_w126) (w1 := (wc.setCell ⟨go119, (a1_1 : Int).toNat, none⟩ (.int .i64 a2))) ?hg ?ho ?hn ?hr ?_; (case ho => rfl); (case hg => rfl); (case hn => rfl); (case hr => first | (go_simp; done) | (go_simp; rfl)); intro w126 hw; have hg : wc.grownBy w126 (some go119) := (by rw [hw]; exact HP125.2); have hp_ : Kd.R (Kd.int .i64) 3 w126 w.heap.size (fun _ => True) (.slice (some ⟨go119, 0, none⟩) t152.length co13) y170 := (by rw [hw, Ny170.out]; exact HP125.1); clear HP125; have n0_ := Aside0.mk (hp_); have n1_ := Aside0.mk (blk_grown (g := gb149) (o := .cells #[.slice (some ⟨go119, 0, none⟩) t152.length co13, .int .i64 t155, .int .i64 t156] 31 (0, 0)) (zK5 BK149.out) hg (Kd.R_ne HO_150000.out BK149.out (by decide))); have n2_ := Aside0.mk (blk_grown (g := gb150) (o := .cells #[.int .i64 a1_0, .int .i64 a1_1, .int .i64 a1_2, .int .i64 a1_3, .int .i64 a1_4] 54 (0, 0)) (zK5 BK150.out) hg (Kd.R_ne HO_150000.out BK150.out (by decide))); have n3_ := Aside0.mk (blk_grown (g := gb151) (o := .cells #[.slice none 0 0, .int .i64 0, .int .i64 0] 31 (0, 0)) (zK5 BK151.out) hg (Kd.R_ne HO_150000.out BK151.out (by decide))); have n4_ := Aside0.mk ((by rw [hw]; exact below_set (HB.out) GB119.out : Below w.heap.size w w126)); clear HO_150000; clear BK149; clear BK150; clear BK151; clear HB; have HO_150000 := n0_; have BK149 := n1_; have BK150 := n2_; have BK151 := n3_; have HB := n4_; clear n0_ n1_ n2_ n3_ n4_; clear hg hw hp_; have hcz127_0 : w126.cell? ⟨gb149, 0, none⟩ = some (.slice (some ⟨go119, 0, none⟩) t152.length co13) := (blk_cell BK149.out 0).trans rfl; have hcz127_1 : w126.cell? ⟨gb149, 1, none⟩ = some (.int .i64 t155) := (blk_cell BK149.out 1).trans rfl; have hcz127_2 : w126.cell? ⟨gb149, 2, none⟩ = some (.int .i64 t156) := (blk_cell BK149.out 2).trans rfl; have hfz127_0 := blk_frozen BK149.out 0; have hfz127_1 := blk_frozen BK149.out 1; have hfz127_2 := blk_frozen BK149.out 2; have hcz128_0 : w126.cell? ⟨gb151, 0, none⟩ = some (.slice none 0 0) := (blk_cell BK151.out 0).trans rfl; have hcz128_1 : w126.cell? ⟨gb151, 1, none⟩ = some (.int .i64 0) := (blk_cell BK151.out 1).trans rfl; have hcz128_2 : w126.cell? ⟨gb151, 2, none⟩ = some (.int .i64 0) := (blk_cell BK151.out 2).trans rfl; have hfz128_0 := blk_frozen BK151.out 0; have hfz128_1 := blk_frozen BK151.out 1; have hfz128_2 := blk_frozen BK151.out 2))
                refine bodyPost_ret (results_ct rfl _ _ gb151 31 #[.slice (some ⟨go119, 0, none⟩) t152.length co13, .int .i64 t162, .int .i64 t156] (0, 0) _ rfl (by (with_reducible repeat (first | refine blk_drewN ?_ _ | refine blk_drew ?_ | refine blk_alloc ?_ _)); refine blk_put (cs := #[.slice (some ⟨go119, 0, none⟩) t152.length co13, .int .i64 t162, .int .i64 0]) ?_ 2 _ rfl; (with_reducible repeat (first | refine blk_drewN ?_ _ | refine blk_drew ?_ | refine blk_alloc ?_ _)); refine blk_put (cs := #[.slice (some ⟨go119, 0, none⟩) t152.length co13, .int .i64 0, .int .i64 0]) ?_ 1 _ rfl; (with_reducible repeat (first | refine blk_drewN ?_ _ | refine blk_drew ?_ | refine blk_alloc ?_ _)); refine blk_put (cs := #[.slice none 0 0, .int .i64 0, .int .i64 0]) ?_ 0 _ rfl; (with_reducible repeat (first | refine blk_drewN ?_ _ | refine blk_drew ?_ | refine blk_alloc ?_ _)); refine blk_far ?_ NB151_149.out _; (with_reducible repeat (first | refine blk_drewN ?_ _ | refine blk_drew ?_ | refine blk_alloc ?_ _)); exact BK151.out) Try.underlying31 rfl (by kernel_rfl)) rfl ?_
                exact ⟨_, zE5, by (with_reducible repeat (first | apply Kd.R_alloc | apply Kd.R_drewN | apply Kd.R_drew)); exact Kd.R_mono (Kd.R_far (p := ⟨gb151, 2, none⟩) (Kd.R_far (p := ⟨gb151, 1, none⟩) (Kd.R_far (p := ⟨gb151, 0, none⟩) (Kd.R_far (p := ⟨gb149, 1, none⟩) (Kd.R_types (Kd.R_types HO_150000.out BK149.out (by decide)) BK151.out (by decide)) (fun _ hk => hk.1.2) (.int .i64 t162)) (fun _ hk => hk.2) (.slice (some ⟨go119, 0, none⟩) t152.length co13)) (fun _ hk => hk.2) (.int .i64 t162)) (fun _ hk => hk.2) (.int .i64 t156)) (fun _ hk => trivial), zB5_3⟩
              rw [if_neg c116] at H
              have c116b0 : (x50_55 == 4) = false := beq_eq_false_iff_ne.mpr c116
              have c116b1 : (x50_55 != 4) = true := bne_iff_ne.mpr c116
              by_cases c129 : x50_55 = 5
              · rw [if_pos c129] at H
                have c129b0 : (x50_55 == 5) = true := beq_iff_eq.mpr c129
                have c129b1 : (x50_55 != 5) = false := bne_eq_false_iff_eq.mpr c129
                clear c129
                simp only [Option.some.injEq, Prod.mk.injEq] at H
                obtain ⟨rfl, rfl, rfl, rfl⟩ := H
                have hnb130 := NB149_150.out
                have hnc130 := NB150_149.out
                have hnb131 := NB149_151.out
                have hnc131 := NB151_149.out
                have hcz132_0 : wc.cell? ⟨gb149, 0, none⟩ = some (.slice (some ad160) t152.length co13) := (blk_cell BK149.out 0).trans rfl
                have hcz132_1 : wc.cell? ⟨gb149, 1, none⟩ = some (.int .i64 t155) := (blk_cell BK149.out 1).trans rfl
                have hcz132_2 : wc.cell? ⟨gb149, 2, none⟩ = some (.int .i64 t156) := (blk_cell BK149.out 2).trans rfl
                have hfz132_0 := blk_frozen BK149.out 0
                have hfz132_1 := blk_frozen BK149.out 1
                have hfz132_2 := blk_frozen BK149.out 2
                have hnb133 := NB151_150.out
                have hnc133 := NB150_151.out
                have hcz134_0 : wc.cell? ⟨gb151, 0, none⟩ = some (.slice none 0 0) := (blk_cell BK151.out 0).trans rfl
                have hcz134_1 : wc.cell? ⟨gb151, 1, none⟩ = some (.int .i64 0) := (blk_cell BK151.out 1).trans rfl
                have hcz134_2 : wc.cell? ⟨gb151, 2, none⟩ = some (.int .i64 0) := (blk_cell BK151.out 2).trans rfl
                have hfz134_0 := blk_frozen BK151.out 0
                have hfz134_1 := blk_frozen BK151.out 1
                have hfz134_2 := blk_frozen BK151.out 2
                go_wp2
                refine bodyPost_ret (results_ct rfl _ _ gb151 31 #[.slice (some ad160) t152.length co13, .int .i64 t162, .int .i64 t156] (0, 0) _ rfl (by (with_reducible repeat (first | refine blk_drewN ?_ _ | refine blk_drew ?_ | refine blk_alloc ?_ _)); refine blk_put (cs := #[.slice (some ad160) t152.length co13, .int .i64 t162, .int .i64 0]) ?_ 2 _ rfl; (with_reducible repeat (first | refine blk_drewN ?_ _ | refine blk_drew ?_ | refine blk_alloc ?_ _)); refine blk_put (cs := #[.slice (some ad160) t152.length co13, .int .i64 0, .int .i64 0]) ?_ 1 _ rfl; (with_reducible repeat (first | refine blk_drewN ?_ _ | refine blk_drew ?_ | refine blk_alloc ?_ _)); refine blk_put (cs := #[.slice none 0 0, .int .i64 0, .int .i64 0]) ?_ 0 _ rfl; (with_reducible repeat (first | refine blk_drewN ?_ _ | refine blk_drew ?_ | refine blk_alloc ?_ _)); refine blk_far ?_ NB151_149.out _; (with_reducible repeat (first | refine blk_drewN ?_ _ | refine blk_drew ?_ | refine blk_alloc ?_ _)); exact BK151.out) Try.underlying31 rfl (by kernel_rfl)) rfl ?_
                exact ⟨_, zE5, by (with_reducible repeat (first | apply Kd.R_alloc | apply Kd.R_drewN | apply Kd.R_drew)); exact Kd.R_mono (Kd.R_far (p := ⟨gb151, 2, none⟩) (Kd.R_far (p := ⟨gb151, 1, none⟩) (Kd.R_far (p := ⟨gb151, 0, none⟩) (Kd.R_far (p := ⟨gb149, 1, none⟩) (Kd.R_types (Kd.R_types HO_150000.out BK149.out (by decide)) BK151.out (by decide)) (fun _ hk => hk.1.2) (.int .i64 t162)) (fun _ hk => hk.2) (.slice (some ad160) t152.length co13)) (fun _ hk => hk.2) (.int .i64 t162)) (fun _ hk => hk.2) (.int .i64 t156)) (fun _ hk => trivial), zB5_3⟩
              rw [if_neg c129] at H
              have c129b0 : (x50_55 == 5) = false := beq_eq_false_iff_ne.mpr c129
              have c129b1 : (x50_55 != 5) = true := bne_iff_ne.mpr c129
              by_cases c135 : x50_55 = 6
              · rw [if_pos c135] at H
                have c135b0 : (x50_55 == 6) = true := beq_iff_eq.mpr c135
                have c135b1 : (x50_55 != 6) = false := bne_eq_false_iff_eq.mpr c135
                clear c135
                by_cases c136 : 0 ≤ a1_1
                rotate_left
                · rw [if_neg c136] at H
                  exact absurd H (by simp)
                rw [if_pos c136] at H
                have c136b0 : decide (0 ≤ a1_1) = true := decide_eq_true c136
                clear c136
                by_cases c137 : a1_1 < (t152.length : Int)
                rotate_left
                · rw [if_neg c137] at H
                  exact absurd H (by simp)
                rw [if_pos c137] at H
                have c137b0 : decide (a1_1 < (t152.length : Int)) = true := decide_eq_true c137
                clear c137
                obtain ⟨y171, hy171⟩ : ∃ y_ : List Int, y_ = (t152.set (a1_1 : Int).toNat a2) := ⟨_, rfl⟩
                replace H : ((impl_wrapped.f (wrap64 (a2 + (rd t152 a1_3)))).bind fun t172 => (some (y171, t162, t156, t172))) = some (r1, r2, r3, r4) := by first | (rw [hy171]; with_reducible exact H) | (have H2_ := (Option.bind_some _ _).symm.trans H; rw [hy171]; with_reducible exact H2_) | (have H2_ := (Option.bind_some _ _).symm.trans H; with_reducible exact H2_) | with_reducible exact H | (rw [hy171]; exact H) | exact H
                have Ny171 := Aside0.mk hy171
                clear hy171
                replace H := Option.bind_eq_some_iff.mp H
                obtain ⟨t172, A1390, H⟩ := H
                replace H : (some (y171, t162, t156, t172)) = some (r1, r2, r3, r4) := H
                have A139 := Aside0.mk A1390
                clear A1390
                simp only [Option.some.injEq, Prod.mk.injEq] at H
                obtain ⟨rfl, rfl, rfl, rfl⟩ := H
                have hnb140 := NB149_150.out
                have hnc140 := NB150_149.out
                have hnb141 := NB149_151.out
                have hnc141 := NB151_149.out
                have hcz142_0 : wc.cell? ⟨gb149, 0, none⟩ = some (.slice (some ad160) t152.length co13) := (blk_cell BK149.out 0).trans rfl
                have hcz142_1 : wc.cell? ⟨gb149, 1, none⟩ = some (.int .i64 t155) := (blk_cell BK149.out 1).trans rfl
                have hcz142_2 : wc.cell? ⟨gb149, 2, none⟩ = some (.int .i64 t156) := (blk_cell BK149.out 2).trans rfl
                have hfz142_0 := blk_frozen BK149.out 0
                have hfz142_1 := blk_frozen BK149.out 1
                have hfz142_2 := blk_frozen BK149.out 2
                have hnb143 := NB150_151.out
                have hnc143 := NB151_150.out
                have hcz144_0 : wc.cell? ⟨gb150, 0, none⟩ = some (.int .i64 a1_0) := (blk_cell BK150.out 0).trans rfl
                have hcz144_1 : wc.cell? ⟨gb150, 1, none⟩ = some (.int .i64 a1_1) := (blk_cell BK150.out 1).trans rfl
                have hcz144_2 : wc.cell? ⟨gb150, 2, none⟩ = some (.int .i64 a1_2) := (blk_cell BK150.out 2).trans rfl
                have hcz144_3 : wc.cell? ⟨gb150, 3, none⟩ = some (.int .i64 a1_3) := (blk_cell BK150.out 3).trans rfl
                have hcz144_4 : wc.cell? ⟨gb150, 4, none⟩ = some (.int .i64 a1_4) := (blk_cell BK150.out 4).trans rfl
                have hfz144_0 := blk_frozen BK150.out 0
                have hfz144_1 := blk_frozen BK150.out 1
                have hfz144_2 := blk_frozen BK150.out 2
                have hfz144_3 := blk_frozen BK150.out 3
                have hfz144_4 := blk_frozen BK150.out 4
                have p138 : 0 ≤ (a1_1 : Int) := zA5
                have q138 : (a1_1 : Int) < ((t152.length : Int) : Int) := zA5
                obtain ⟨go138, co138, eo138, gb138, gl138, cl138, HG138⟩ := Kd.R_form HO_150000.out (by omega)
                (first | cases eo138 | (injection eo138 with ea_ en_ ec_; (first | subst ea_ | (injection ea_ with ea_; subst ea_)); subst ec_; clear en_))
                have GB138 := Aside0.mk gb138
                have GG138 := Aside0.mk HG138
                clear gb138 gl138 HG138
                obtain ⟨hx138_0, hf138_0⟩ := Kd.R_celln 0 HO_150000.out (a1_1 : Int) p138 q138
                replace p138 := eq_true p138
                replace q138 := eq_true q138
                have HP145 := Kd.R_putg HO_150000.out (a1_1 : Int) a2
                go_wp2_with (first | ((with_reducible refine gate_store (t := 3) (p := 112) rfl ?_); refine store_event (t := 3) (p := 112) (v := ?vo_w146) (w1 := (wc.setCell ⟨go138, (a1_1 : Int).toNat, none⟩ (.int .i64 a2))) ?hg ?ho ?hn ?hr ?_; (case ho => rfl); (case hg => rfl); (case hn => rfl); (case hr => first | (go_simp; done) | (go_simp; rfl)); intro w146 hw; have hg : wc.grownBy w146 (some go138) := (by rw [hw]; exact HP145.2); have hp_ : Kd.R (Kd.int .i64) 3 w146 w.heap.size (fun _ => True) (.slice (some ⟨go138, 0, none⟩) t152.length co13) y171 := (by rw [hw, Ny171.out]; exact HP145.1); clear HP145; have n0_ := Aside0.mk (hp_); have n1_ := Aside0.mk (blk_grown (g := gb149) (o := .cells #[.slice (some ⟨go138, 0, none⟩) t152.length co13, .int .i64 t155, .int .i64 t156] 31 (0, 0)) (zK5 BK149.out) hg (Kd.R_ne HO_150000.out BK149.out (by decide))); have n2_ := Aside0.mk (blk_grown (g := gb150) (o := .cells #[.int .i64 a1_0, .int .i64 a1_1, .int .i64 a1_2, .int .i64 a1_3, .int .i64 a1_4] 54 (0, 0)) (zK5 BK150.out) hg (Kd.R_ne HO_150000.out BK150.out (by decide))); have n3_ := Aside0.mk (blk_grown (g := gb151) (o := .cells #[.slice none 0 0, .int .i64 0, .int .i64 0] 31 (0, 0)) (zK5 BK151.out) hg (Kd.R_ne HO_150000.out BK151.out (by decide))); have n4_ := Aside0.mk ((by rw [hw]; exact below_set (HB.out) GB138.out : Below w.heap.size w w146)); clear HO_150000; clear BK149; clear BK150; clear BK151; clear HB; have HO_150000 := n0_; have BK149 := n1_; have BK150 := n2_; have BK151 := n3_; have HB := n4_; clear n0_ n1_ n2_ n3_ n4_; clear hg hw hp_) | ((with_reducible refine gate_callee (f := 181) rfl ?_); refine goesL_ (some 116) rfl rfl Try.func181 (by kernel_rfl) rfl #[.int .i64 (wrap64 (a2 + (rd t152 a1_3)))] rfl zT5 ?_; (with_reducible refine (impl_wrapped.calls (wrap64 (a2 + (rd t152 a1_3))) t172 _ A139.out).mono ?_); rintro e w' ⟨rfl, ⟨nd, rfl⟩⟩; refine ⟨_, rfl, ?_⟩; (try (rw [drewN_self w146]; generalize hq_ : World.drewN w146 _ = w146; have n0_ : Aside0 (Kd.R (Kd.int .i64) 3 w146 w.heap.size (fun _ => True) (.slice (some ⟨go138, 0, none⟩) t152.length co13) y171) := ⟨by rw [← hq_]; exact (zR5 HO_150000.out)⟩; have n1_ : Aside0 (w146.heap[gb149]? = some (.cells #[.slice (some ⟨go138, 0, none⟩) t152.length co13, .int .i64 t155, .int .i64 t156] 31 (0, 0))) := ⟨by rw [← hq_]; exact (zK5 BK149.out)⟩; have n2_ : Aside0 (w146.heap[gb150]? = some (.cells #[.int .i64 a1_0, .int .i64 a1_1, .int .i64 a1_2, .int .i64 a1_3, .int .i64 a1_4] 54 (0, 0))) := ⟨by rw [← hq_]; exact (zK5 BK150.out)⟩; have n3_ : Aside0 (w146.heap[gb151]? = some (.cells #[.slice none 0 0, .int .i64 0, .int .i64 0] 31 (0, 0))) := ⟨by rw [← hq_]; exact (zK5 BK151.out)⟩; have n4_ : Aside0 (Below w.heap.size w w146) := ⟨by rw [← hq_]; exact (zB5_3)⟩; clear HO_150000 BK149 BK150 BK151 HB hq_; have HO_150000 := n0_; have BK149 := n1_; have BK150 := n2_; have BK151 := n3_; have HB := n4_; clear n0_ n1_ n2_ n3_ n4_)); have hcz147_0 : w146.cell? ⟨gb149, 0, none⟩ = some (.slice (some ⟨go138, 0, none⟩) t152.length co13) := (blk_cell BK149.out 0).trans rfl; have hcz147_1 : w146.cell? ⟨gb149, 1, none⟩ = some (.int .i64 t155) := (blk_cell BK149.out 1).trans rfl; have hcz147_2 : w146.cell? ⟨gb149, 2, none⟩ = some (.int .i64 t156) := (blk_cell BK149.out 2).trans rfl; have hfz147_0 := blk_frozen BK149.out 0; have hfz147_1 := blk_frozen BK149.out 1; have hfz147_2 := blk_frozen BK149.out 2; have hcz148_0 : w146.cell? ⟨gb151, 0, none⟩ = some (.slice none 0 0) := (blk_cell BK151.out 0).trans rfl; have hcz148_1 : w146.cell? ⟨gb151, 1, none⟩ = some (.int .i64 0) := (blk_cell BK151.out 1).trans rfl; have hcz148_2 : w146.cell? ⟨gb151, 2, none⟩ = some (.int .i64 0) := (blk_cell BK151.out 2).trans rfl; have hfz148_0 := blk_frozen BK151.out 0; have hfz148_1 := blk_frozen BK151.out 1; have hfz148_2 := blk_frozen BK151.out 2))
                refine bodyPost_ret (results_ct rfl _ _ gb151 31 #[.slice (some ⟨go138, 0, none⟩) t152.length co13, .int .i64 t162, .int .i64 t156] (0, 0) _ rfl (by (with_reducible repeat (first | refine blk_drewN ?_ _ | refine blk_drew ?_ | refine blk_alloc ?_ _)); refine blk_put (cs := #[.slice (some ⟨go138, 0, none⟩) t152.length co13, .int .i64 t162, .int .i64 0]) ?_ 2 _ rfl; (with_reducible repeat (first | refine blk_drewN ?_ _ | refine blk_drew ?_ | refine blk_alloc ?_ _)); refine blk_put (cs := #[.slice (some ⟨go138, 0, none⟩) t152.length co13, .int .i64 0, .int .i64 0]) ?_ 1 _ rfl; (with_reducible repeat (first | refine blk_drewN ?_ _ | refine blk_drew ?_ | refine blk_alloc ?_ _)); refine blk_put (cs := #[.slice none 0 0, .int .i64 0, .int .i64 0]) ?_ 0 _ rfl; (with_reducible repeat (first | refine blk_drewN ?_ _ | refine blk_drew ?_ | refine blk_alloc ?_ _)); refine blk_far ?_ NB151_149.out _; (with_reducible repeat (first | refine blk_drewN ?_ _ | refine blk_drew ?_ | refine blk_alloc ?_ _)); exact BK151.out) Try.underlying31 rfl (by kernel_rfl)) rfl ?_
                exact ⟨_, zE5, by (with_reducible repeat (first | apply Kd.R_alloc | apply Kd.R_drewN | apply Kd.R_drew)); exact Kd.R_mono (Kd.R_far (p := ⟨gb151, 2, none⟩) (Kd.R_far (p := ⟨gb151, 1, none⟩) (Kd.R_far (p := ⟨gb151, 0, none⟩) (Kd.R_far (p := ⟨gb149, 1, none⟩) (Kd.R_types (Kd.R_types HO_150000.out BK149.out (by decide)) BK151.out (by decide)) (fun _ hk => hk.1.2) (.int .i64 t162)) (fun _ hk => hk.2) (.slice (some ⟨go138, 0, none⟩) t152.length co13)) (fun _ hk => hk.2) (.int .i64 t162)) (fun _ hk => hk.2) (.int .i64 t156)) (fun _ hk => trivial), zB5_3⟩
              rw [if_neg c135] at H
              have c135b0 : (x50_55 == 6) = false := beq_eq_false_iff_ne.mpr c135
              have c135b1 : (x50_55 != 6) = true := bne_iff_ne.mpr c135
              by_cases c149 : x50_55 = 7
              · rw [if_pos c149] at H
                have c149b0 : (x50_55 == 7) = true := beq_iff_eq.mpr c149
                have c149b1 : (x50_55 != 7) = false := bne_eq_false_iff_eq.mpr c149
                clear c149
                by_cases c150 : (rd t152 a1_2) = 0
                rotate_left
                · rw [if_neg c150] at H
                  have c150b0 : ((rd t152 a1_2) == 0) = false := beq_eq_false_iff_ne.mpr c150
                  have c150b1 : ((rd t152 a1_2) != 0) = true := bne_iff_ne.mpr c150
                  simp only [Option.some.injEq, Prod.mk.injEq] at H
                  obtain ⟨rfl, rfl, rfl, rfl⟩ := H
                  have hnb158 := NB149_150.out
                  have hnc158 := NB150_149.out
                  have hnb159 := NB149_151.out
                  have hnc159 := NB151_149.out
                  have hcz160_0 : wc.cell? ⟨gb149, 0, none⟩ = some (.slice (some ad160) t152.length co13) := (blk_cell BK149.out 0).trans rfl
                  have hcz160_1 : wc.cell? ⟨gb149, 1, none⟩ = some (.int .i64 t155) := (blk_cell BK149.out 1).trans rfl
                  have hcz160_2 : wc.cell? ⟨gb149, 2, none⟩ = some (.int .i64 t156) := (blk_cell BK149.out 2).trans rfl
                  have hfz160_0 := blk_frozen BK149.out 0
                  have hfz160_1 := blk_frozen BK149.out 1
                  have hfz160_2 := blk_frozen BK149.out 2
                  have hnb161 := NB151_150.out
                  have hnc161 := NB150_151.out
                  have hcz162_0 : wc.cell? ⟨gb151, 0, none⟩ = some (.slice none 0 0) := (blk_cell BK151.out 0).trans rfl
                  have hcz162_1 : wc.cell? ⟨gb151, 1, none⟩ = some (.int .i64 0) := (blk_cell BK151.out 1).trans rfl
                  have hcz162_2 : wc.cell? ⟨gb151, 2, none⟩ = some (.int .i64 0) := (blk_cell BK151.out 2).trans rfl
                  have hfz162_0 := blk_frozen BK151.out 0
                  have hfz162_1 := blk_frozen BK151.out 1
                  have hfz162_2 := blk_frozen BK151.out 2
                  go_wp2
                  refine bodyPost_ret (results_ct rfl _ _ gb151 31 #[.slice (some ad160) t152.length co13, .int .i64 t162, .int .i64 t156] (0, 0) _ rfl (by (with_reducible repeat (first | refine blk_drewN ?_ _ | refine blk_drew ?_ | refine blk_alloc ?_ _)); refine blk_put (cs := #[.slice (some ad160) t152.length co13, .int .i64 t162, .int .i64 0]) ?_ 2 _ rfl; (with_reducible repeat (first | refine blk_drewN ?_ _ | refine blk_drew ?_ | refine blk_alloc ?_ _)); refine blk_put (cs := #[.slice (some ad160) t152.length co13, .int .i64 0, .int .i64 0]) ?_ 1 _ rfl; (with_reducible repeat (first | refine blk_drewN ?_ _ | refine blk_drew ?_ | refine blk_alloc ?_ _)); refine blk_put (cs := #[.slice none 0 0, .int .i64 0, .int .i64 0]) ?_ 0 _ rfl; (with_reducible repeat (first | refine blk_drewN ?_ _ | refine blk_drew ?_ | refine blk_alloc ?_ _)); refine blk_far ?_ NB151_149.out _; (with_reducible repeat (first | refine blk_drewN ?_ _ | refine blk_drew ?_ | refine blk_alloc ?_ _)); exact BK151.out) Try.underlying31 rfl (by kernel_rfl)) rfl ?_
                  exact ⟨_, zE5, by (with_reducible repeat (first | apply Kd.R_alloc | apply Kd.R_drewN | apply Kd.R_drew)); exact Kd.R_mono (Kd.R_far (p := ⟨gb151, 2, none⟩) (Kd.R_far (p := ⟨gb151, 1, none⟩) (Kd.R_far (p := ⟨gb151, 0, none⟩) (Kd.R_far (p := ⟨gb149, 1, none⟩) (Kd.R_types (Kd.R_types HO_150000.out BK149.out (by decide)) BK151.out (by decide)) (fun _ hk => hk.1.2) (.int .i64 t162)) (fun _ hk => hk.2) (.slice (some ad160) t152.length co13)) (fun _ hk => hk.2) (.int .i64 t162)) (fun _ hk => hk.2) (.int .i64 t156)) (fun _ hk => trivial), zB5_3⟩
                rw [if_pos c150] at H
                have c150b0 : ((rd t152 a1_2) == 0) = true := beq_iff_eq.mpr c150
                have c150b1 : ((rd t152 a1_2) != 0) = false := bne_eq_false_iff_eq.mpr c150
                clear c150
                replace H := Option.bind_eq_some_iff.mp H
                obtain ⟨t173, A1510, H⟩ := H
                replace H : (some (t152, t173, t156, (-1))) = some (r1, r2, r3, r4) := H
                have A151 := Aside0.mk A1510
                clear A1510
                simp only [Option.some.injEq, Prod.mk.injEq] at H
                obtain ⟨rfl, rfl, rfl, rfl⟩ := H
                have hnb152 := NB150_149.out
                have hnc152 := NB149_150.out
                have hnb153 := NB150_151.out
                have hnc153 := NB151_150.out
                have hcz154_0 : wc.cell? ⟨gb150, 0, none⟩ = some (.int .i64 a1_0) := (blk_cell BK150.out 0).trans rfl
                have hcz154_1 : wc.cell? ⟨gb150, 1, none⟩ = some (.int .i64 a1_1) := (blk_cell BK150.out 1).trans rfl
                have hcz154_2 : wc.cell? ⟨gb150, 2, none⟩ = some (.int .i64 a1_2) := (blk_cell BK150.out 2).trans rfl
                have hcz154_3 : wc.cell? ⟨gb150, 3, none⟩ = some (.int .i64 a1_3) := (blk_cell BK150.out 3).trans rfl
                have hcz154_4 : wc.cell? ⟨gb150, 4, none⟩ = some (.int .i64 a1_4) := (blk_cell BK150.out 4).trans rfl
                have hfz154_0 := blk_frozen BK150.out 0
                have hfz154_1 := blk_frozen BK150.out 1
                have hfz154_2 := blk_frozen BK150.out 2
                have hfz154_3 := blk_frozen BK150.out 3
                have hfz154_4 := blk_frozen BK150.out 4
                go_wp2_with (first | ((with_reducible refine gate_callee (f := 89) rfl ?_); refine goesL_ (some 123) rfl rfl Try.func89 (by kernel_rfl) rfl #[.int .i64 a1_4] rfl zT5 ?_; (with_reducible refine (impl_address.calls a1_4 t173 _ A151.out).mono ?_); rintro e w' ⟨rfl, ⟨nd, rfl⟩⟩; refine ⟨_, rfl, ?_⟩; (try (rw [drewN_self wc]; generalize hq_ : World.drewN wc _ = wc; have n0_ : Aside0 (Kd.R (Kd.int .i64) 3 wc w.heap.size (fun _ => True) (.slice (some ad160) t152.length co13) t152) := ⟨by rw [← hq_]; exact (zR5 HO_150000.out)⟩; have n1_ : Aside0 (wc.heap[gb149]? = some (.cells #[.slice (some ad160) t152.length co13, .int .i64 t155, .int .i64 t156] 31 (0, 0))) := ⟨by rw [← hq_]; exact (zK5 BK149.out)⟩; have n2_ : Aside0 (wc.heap[gb150]? = some (.cells #[.int .i64 a1_0, .int .i64 a1_1, .int .i64 a1_2, .int .i64 a1_3, .int .i64 a1_4] 54 (0, 0))) := ⟨by rw [← hq_]; exact (zK5 BK150.out)⟩; have n3_ : Aside0 (wc.heap[gb151]? = some (.cells #[.slice none 0 0, .int .i64 0, .int .i64 0] 31 (0, 0))) := ⟨by rw [← hq_]; exact (zK5 BK151.out)⟩; have n4_ : Aside0 (Below w.heap.size w wc) := ⟨by rw [← hq_]; exact (zB5_3)⟩; clear HO_150000 BK149 BK150 BK151 HB hq_; have HO_150000 := n0_; have BK149 := n1_; have BK150 := n2_; have BK151 := n3_; have HB := n4_; clear n0_ n1_ n2_ n3_ n4_)); have hnb155 := NB149_151.out; have hnc155 := NB151_149.out; have hcz156_0 : wc.cell? ⟨gb149, 0, none⟩ = some (.slice (some ad160) t152.length co13) := (blk_cell BK149.out 0).trans rfl; have hcz156_1 : wc.cell? ⟨gb149, 1, none⟩ = some (.int .i64 t155) := (blk_cell BK149.out 1).trans rfl; have hcz156_2 : wc.cell? ⟨gb149, 2, none⟩ = some (.int .i64 t156) := (blk_cell BK149.out 2).trans rfl; have hfz156_0 := blk_frozen BK149.out 0; have hfz156_1 := blk_frozen BK149.out 1; have hfz156_2 := blk_frozen BK149.out 2; have hcz157_0 : wc.cell? ⟨gb151, 0, none⟩ = some (.slice none 0 0) := (blk_cell BK151.out 0).trans rfl; have hcz157_1 : wc.cell? ⟨gb151, 1, none⟩ = some (.int .i64 0) := (blk_cell BK151.out 1).trans rfl; have hcz157_2 : wc.cell? ⟨gb151, 2, none⟩ = some (.int .i64 0) := (blk_cell BK151.out 2).trans rfl; have hfz157_0 := blk_frozen BK151.out 0; have hfz157_1 := blk_frozen BK151.out 1; have hfz157_2 := blk_frozen BK151.out 2))
                refine bodyPost_ret (results_ct rfl _ _ gb151 31 #[.slice (some ad160) t152.length co13, .int .i64 t173, .int .i64 t156] (0, 0) _ rfl (by (with_reducible repeat (first | refine blk_drewN ?_ _ | refine blk_drew ?_ | refine blk_alloc ?_ _)); refine blk_put (cs := #[.slice (some ad160) t152.length co13, .int .i64 t173, .int .i64 0]) ?_ 2 _ rfl; (with_reducible repeat (first | refine blk_drewN ?_ _ | refine blk_drew ?_ | refine blk_alloc ?_ _)); refine blk_put (cs := #[.slice (some ad160) t152.length co13, .int .i64 0, .int .i64 0]) ?_ 1 _ rfl; (with_reducible repeat (first | refine blk_drewN ?_ _ | refine blk_drew ?_ | refine blk_alloc ?_ _)); refine blk_put (cs := #[.slice none 0 0, .int .i64 0, .int .i64 0]) ?_ 0 _ rfl; (with_reducible repeat (first | refine blk_drewN ?_ _ | refine blk_drew ?_ | refine blk_alloc ?_ _)); refine blk_far ?_ NB151_149.out _; (with_reducible repeat (first | refine blk_drewN ?_ _ | refine blk_drew ?_ | refine blk_alloc ?_ _)); exact BK151.out) Try.underlying31 rfl (by kernel_rfl)) rfl ?_
                exact ⟨_, zE5, by (with_reducible repeat (first | apply Kd.R_alloc | apply Kd.R_drewN | apply Kd.R_drew)); exact Kd.R_mono (Kd.R_far (p := ⟨gb151, 2, none⟩) (Kd.R_far (p := ⟨gb151, 1, none⟩) (Kd.R_far (p := ⟨gb151, 0, none⟩) (Kd.R_far (p := ⟨gb149, 1, none⟩) (Kd.R_types (Kd.R_types HO_150000.out BK149.out (by decide)) BK151.out (by decide)) (fun _ hk => hk.1.2) (.int .i64 t173)) (fun _ hk => hk.2) (.slice (some ad160) t152.length co13)) (fun _ hk => hk.2) (.int .i64 t173)) (fun _ hk => hk.2) (.int .i64 t156)) (fun _ hk => trivial), zB5_3⟩
              rw [if_neg c149] at H
              have c149b0 : (x50_55 == 7) = false := beq_eq_false_iff_ne.mpr c149
              have c149b1 : (x50_55 != 7) = true := bne_iff_ne.mpr c149
              by_cases c163 : x50_55 = 8
              · rw [if_pos c163] at H
                have c163b0 : (x50_55 == 8) = true := beq_iff_eq.mpr c163
                have c163b1 : (x50_55 != 8) = false := bne_eq_false_iff_eq.mpr c163
                clear c163
                replace H := Option.bind_eq_some_iff.mp H
                obtain ⟨t174, A1640, H⟩ := H
                replace H : (some (t152, t174, t156, (-1))) = some (r1, r2, r3, r4) := H
                have A164 := Aside0.mk A1640
                clear A1640
                simp only [Option.some.injEq, Prod.mk.injEq] at H
                obtain ⟨rfl, rfl, rfl, rfl⟩ := H
                have hnb165 := NB150_149.out
                have hnc165 := NB149_150.out
                have hnb166 := NB150_151.out
                have hnc166 := NB151_150.out
                have hcz167_0 : wc.cell? ⟨gb150, 0, none⟩ = some (.int .i64 a1_0) := (blk_cell BK150.out 0).trans rfl
                have hcz167_1 : wc.cell? ⟨gb150, 1, none⟩ = some (.int .i64 a1_1) := (blk_cell BK150.out 1).trans rfl
                have hcz167_2 : wc.cell? ⟨gb150, 2, none⟩ = some (.int .i64 a1_2) := (blk_cell BK150.out 2).trans rfl
                have hcz167_3 : wc.cell? ⟨gb150, 3, none⟩ = some (.int .i64 a1_3) := (blk_cell BK150.out 3).trans rfl
                have hcz167_4 : wc.cell? ⟨gb150, 4, none⟩ = some (.int .i64 a1_4) := (blk_cell BK150.out 4).trans rfl
                have hfz167_0 := blk_frozen BK150.out 0
                have hfz167_1 := blk_frozen BK150.out 1
                have hfz167_2 := blk_frozen BK150.out 2
                have hfz167_3 := blk_frozen BK150.out 3
                have hfz167_4 := blk_frozen BK150.out 4
                go_wp2_with (first | ((with_reducible refine gate_callee (f := 89) rfl ?_); refine goesL_ (some 128) rfl rfl Try.func89 (by kernel_rfl) rfl #[.int .i64 a1_4] rfl zT5 ?_; (with_reducible refine (impl_address.calls a1_4 t174 _ A164.out).mono ?_); rintro e w' ⟨rfl, ⟨nd, rfl⟩⟩; refine ⟨_, rfl, ?_⟩; (try (rw [drewN_self wc]; generalize hq_ : World.drewN wc _ = wc; have n0_ : Aside0 (Kd.R (Kd.int .i64) 3 wc w.heap.size (fun _ => True) (.slice (some ad160) t152.length co13) t152) := ⟨by rw [← hq_]; exact (zR5 HO_150000.out)⟩; have n1_ : Aside0 (wc.heap[gb149]? = some (.cells #[.slice (some ad160) t152.length co13, .int .i64 t155, .int .i64 t156] 31 (0, 0))) := ⟨by rw [← hq_]; exact (zK5 BK149.out)⟩; have n2_ : Aside0 (wc.heap[gb150]? = some (.cells #[.int .i64 a1_0, .int .i64 a1_1, .int .i64 a1_2, .int .i64 a1_3, .int .i64 a1_4] 54 (0, 0))) := ⟨by rw [← hq_]; exact (zK5 BK150.out)⟩; have n3_ : Aside0 (wc.heap[gb151]? = some (.cells #[.slice none 0 0, .int .i64 0, .int .i64 0] 31 (0, 0))) := ⟨by rw [← hq_]; exact (zK5 BK151.out)⟩; have n4_ : Aside0 (Below w.heap.size w wc) := ⟨by rw [← hq_]; exact (zB5_3)⟩; clear HO_150000 BK149 BK150 BK151 HB hq_; have HO_150000 := n0_; have BK149 := n1_; have BK150 := n2_; have BK151 := n3_; have HB := n4_; clear n0_ n1_ n2_ n3_ n4_)); have hnb168 := NB149_151.out; have hnc168 := NB151_149.out; have hcz169_0 : wc.cell? ⟨gb149, 0, none⟩ = some (.slice (some ad160) t152.length co13) := (blk_cell BK149.out 0).trans rfl; have hcz169_1 : wc.cell? ⟨gb149, 1, none⟩ = some (.int .i64 t155) := (blk_cell BK149.out 1).trans rfl; have hcz169_2 : wc.cell? ⟨gb149, 2, none⟩ = some (.int .i64 t156) := (blk_cell BK149.out 2).trans rfl; have hfz169_0 := blk_frozen BK149.out 0; have hfz169_1 := blk_frozen BK149.out 1; have hfz169_2 := blk_frozen BK149.out 2; have hcz170_0 : wc.cell? ⟨gb151, 0, none⟩ = some (.slice none 0 0) := (blk_cell BK151.out 0).trans rfl; have hcz170_1 : wc.cell? ⟨gb151, 1, none⟩ = some (.int .i64 0) := (blk_cell BK151.out 1).trans rfl; have hcz170_2 : wc.cell? ⟨gb151, 2, none⟩ = some (.int .i64 0) := (blk_cell BK151.out 2).trans rfl; have hfz170_0 := blk_frozen BK151.out 0; have hfz170_1 := blk_frozen BK151.out 1; have hfz170_2 := blk_frozen BK151.out 2))
                refine bodyPost_ret (results_ct rfl _ _ gb151 31 #[.slice (some ad160) t152.length co13, .int .i64 t174, .int .i64 t156] (0, 0) _ rfl (by (with_reducible repeat (first | refine blk_drewN ?_ _ | refine blk_drew ?_ | refine blk_alloc ?_ _)); refine blk_put (cs := #[.slice (some ad160) t152.length co13, .int .i64 t174, .int .i64 0]) ?_ 2 _ rfl; (with_reducible repeat (first | refine blk_drewN ?_ _ | refine blk_drew ?_ | refine blk_alloc ?_ _)); refine blk_put (cs := #[.slice (some ad160) t152.length co13, .int .i64 0, .int .i64 0]) ?_ 1 _ rfl; (with_reducible repeat (first | refine blk_drewN ?_ _ | refine blk_drew ?_ | refine blk_alloc ?_ _)); refine blk_put (cs := #[.slice none 0 0, .int .i64 0, .int .i64 0]) ?_ 0 _ rfl; (with_reducible repeat (first | refine blk_drewN ?_ _ | refine blk_drew ?_ | refine blk_alloc ?_ _)); refine blk_far ?_ NB151_149.out _; (with_reducible repeat (first | refine blk_drewN ?_ _ | refine blk_drew ?_ | refine blk_alloc ?_ _)); exact BK151.out) Try.underlying31 rfl (by kernel_rfl)) rfl ?_
                exact ⟨_, zE5, by (with_reducible repeat (first | apply Kd.R_alloc | apply Kd.R_drewN | apply Kd.R_drew)); exact Kd.R_mono (Kd.R_far (p := ⟨gb151, 2, none⟩) (Kd.R_far (p := ⟨gb151, 1, none⟩) (Kd.R_far (p := ⟨gb151, 0, none⟩) (Kd.R_far (p := ⟨gb149, 1, none⟩) (Kd.R_types (Kd.R_types HO_150000.out BK149.out (by decide)) BK151.out (by decide)) (fun _ hk => hk.1.2) (.int .i64 t174)) (fun _ hk => hk.2) (.slice (some ad160) t152.length co13)) (fun _ hk => hk.2) (.int .i64 t174)) (fun _ hk => hk.2) (.int .i64 t156)) (fun _ hk => trivial), zB5_3⟩
              rw [if_neg c163] at H
              have c163b0 : (x50_55 == 8) = false := beq_eq_false_iff_ne.mpr c163
              have c163b1 : (x50_55 != 8) = true := bne_iff_ne.mpr c163
              by_cases c171 : x50_55 = 9
              rotate_left
              · rw [if_neg c171] at H
                have c171b0 : (x50_55 == 9) = false := beq_eq_false_iff_ne.mpr c171
                have c171b1 : (x50_55 != 9) = true := bne_iff_ne.mpr c171
                simp only [Option.some.injEq, Prod.mk.injEq] at H
                obtain ⟨rfl, rfl, rfl, rfl⟩ := H
                have hnb177 := NB149_150.out
                have hnc177 := NB150_149.out
                have hnb178 := NB149_151.out
                have hnc178 := NB151_149.out
                have hcz179_0 : wc.cell? ⟨gb149, 0, none⟩ = some (.slice (some ad160) t152.length co13) := (blk_cell BK149.out 0).trans rfl
                have hcz179_1 : wc.cell? ⟨gb149, 1, none⟩ = some (.int .i64 t155) := (blk_cell BK149.out 1).trans rfl
                have hcz179_2 : wc.cell? ⟨gb149, 2, none⟩ = some (.int .i64 t156) := (blk_cell BK149.out 2).trans rfl
                have hfz179_0 := blk_frozen BK149.out 0
                have hfz179_1 := blk_frozen BK149.out 1
                have hfz179_2 := blk_frozen BK149.out 2
                have hnb180 := NB151_150.out
                have hnc180 := NB150_151.out
                have hcz181_0 : wc.cell? ⟨gb151, 0, none⟩ = some (.slice none 0 0) := (blk_cell BK151.out 0).trans rfl
                have hcz181_1 : wc.cell? ⟨gb151, 1, none⟩ = some (.int .i64 0) := (blk_cell BK151.out 1).trans rfl
                have hcz181_2 : wc.cell? ⟨gb151, 2, none⟩ = some (.int .i64 0) := (blk_cell BK151.out 2).trans rfl
                have hfz181_0 := blk_frozen BK151.out 0
                have hfz181_1 := blk_frozen BK151.out 1
                have hfz181_2 := blk_frozen BK151.out 2
                go_wp2
                refine bodyPost_ret (results_ct rfl _ _ gb151 31 #[.slice (some ad160) t152.length co13, .int .i64 t162, .int .i64 t156] (0, 0) _ rfl (by (with_reducible repeat (first | refine blk_drewN ?_ _ | refine blk_drew ?_ | refine blk_alloc ?_ _)); refine blk_put (cs := #[.slice (some ad160) t152.length co13, .int .i64 t162, .int .i64 0]) ?_ 2 _ rfl; (with_reducible repeat (first | refine blk_drewN ?_ _ | refine blk_drew ?_ | refine blk_alloc ?_ _)); refine blk_put (cs := #[.slice (some ad160) t152.length co13, .int .i64 0, .int .i64 0]) ?_ 1 _ rfl; (with_reducible repeat (first | refine blk_drewN ?_ _ | refine blk_drew ?_ | refine blk_alloc ?_ _)); refine blk_put (cs := #[.slice none 0 0, .int .i64 0, .int .i64 0]) ?_ 0 _ rfl; (with_reducible repeat (first | refine blk_drewN ?_ _ | refine blk_drew ?_ | refine blk_alloc ?_ _)); refine blk_far ?_ NB151_149.out _; (with_reducible repeat (first | refine blk_drewN ?_ _ | refine blk_drew ?_ | refine blk_alloc ?_ _)); exact BK151.out) Try.underlying31 rfl (by kernel_rfl)) rfl ?_
                exact ⟨_, zE5, by (with_reducible repeat (first | apply Kd.R_alloc | apply Kd.R_drewN | apply Kd.R_drew)); exact Kd.R_mono (Kd.R_far (p := ⟨gb151, 2, none⟩) (Kd.R_far (p := ⟨gb151, 1, none⟩) (Kd.R_far (p := ⟨gb151, 0, none⟩) (Kd.R_far (p := ⟨gb149, 1, none⟩) (Kd.R_types (Kd.R_types HO_150000.out BK149.out (by decide)) BK151.out (by decide)) (fun _ hk => hk.1.2) (.int .i64 t162)) (fun _ hk => hk.2) (.slice (some ad160) t152.length co13)) (fun _ hk => hk.2) (.int .i64 t162)) (fun _ hk => hk.2) (.int .i64 t156)) (fun _ hk => trivial), zB5_3⟩
              rw [if_pos c171] at H
              have c171b0 : (x50_55 == 9) = true := beq_iff_eq.mpr c171
              have c171b1 : (x50_55 != 9) = false := bne_eq_false_iff_eq.mpr c171
              clear c171
              simp only [Option.some.injEq, Prod.mk.injEq] at H
              obtain ⟨rfl, rfl, rfl, rfl⟩ := H
              have hnb172 := NB149_150.out
              have hnc172 := NB150_149.out
              have hnb173 := NB149_151.out
              have hnc173 := NB151_149.out
              have hcz174_0 : wc.cell? ⟨gb149, 0, none⟩ = some (.slice (some ad160) t152.length co13) := (blk_cell BK149.out 0).trans rfl
              have hcz174_1 : wc.cell? ⟨gb149, 1, none⟩ = some (.int .i64 t155) := (blk_cell BK149.out 1).trans rfl
              have hcz174_2 : wc.cell? ⟨gb149, 2, none⟩ = some (.int .i64 t156) := (blk_cell BK149.out 2).trans rfl
              have hfz174_0 := blk_frozen BK149.out 0
              have hfz174_1 := blk_frozen BK149.out 1
              have hfz174_2 := blk_frozen BK149.out 2
              have hnb175 := NB151_150.out
              have hnc175 := NB150_151.out
              have hcz176_0 : wc.cell? ⟨gb151, 0, none⟩ = some (.slice none 0 0) := (blk_cell BK151.out 0).trans rfl
              have hcz176_1 : wc.cell? ⟨gb151, 1, none⟩ = some (.int .i64 0) := (blk_cell BK151.out 1).trans rfl
              have hcz176_2 : wc.cell? ⟨gb151, 2, none⟩ = some (.int .i64 0) := (blk_cell BK151.out 2).trans rfl
              have hfz176_0 := blk_frozen BK151.out 0
              have hfz176_1 := blk_frozen BK151.out 1
              have hfz176_2 := blk_frozen BK151.out 2
              go_wp2
              refine bodyPost_ret (results_ct rfl _ _ gb151 31 #[.slice (some ad160) t152.length co13, .int .i64 t155, .int .i64 1] (0, 0) _ rfl (by (with_reducible repeat (first | refine blk_drewN ?_ _ | refine blk_drew ?_ | refine blk_alloc ?_ _)); refine blk_put (cs := #[.slice (some ad160) t152.length co13, .int .i64 t155, .int .i64 0]) ?_ 2 _ rfl; (with_reducible repeat (first | refine blk_drewN ?_ _ | refine blk_drew ?_ | refine blk_alloc ?_ _)); refine blk_put (cs := #[.slice (some ad160) t152.length co13, .int .i64 0, .int .i64 0]) ?_ 1 _ rfl; (with_reducible repeat (first | refine blk_drewN ?_ _ | refine blk_drew ?_ | refine blk_alloc ?_ _)); refine blk_put (cs := #[.slice none 0 0, .int .i64 0, .int .i64 0]) ?_ 0 _ rfl; (with_reducible repeat (first | refine blk_drewN ?_ _ | refine blk_drew ?_ | refine blk_alloc ?_ _)); refine blk_far ?_ NB151_149.out _; (with_reducible repeat (first | refine blk_drewN ?_ _ | refine blk_drew ?_ | refine blk_alloc ?_ _)); refine blk_far ?_ NB151_149.out _; (with_reducible repeat (first | refine blk_drewN ?_ _ | refine blk_drew ?_ | refine blk_alloc ?_ _)); exact BK151.out) Try.underlying31 rfl (by kernel_rfl)) rfl ?_
              exact ⟨_, zE5, by (with_reducible repeat (first | apply Kd.R_alloc | apply Kd.R_drewN | apply Kd.R_drew)); exact Kd.R_mono (Kd.R_far (p := ⟨gb151, 2, none⟩) (Kd.R_far (p := ⟨gb151, 1, none⟩) (Kd.R_far (p := ⟨gb151, 0, none⟩) (Kd.R_far (p := ⟨gb149, 1, none⟩) (Kd.R_far (p := ⟨gb149, 2, none⟩) (Kd.R_types (Kd.R_types HO_150000.out BK149.out (by decide)) BK151.out (by decide)) (fun _ hk => hk.1.2) (.int .i64 1)) (fun _ hk => hk.1.2) (.int .i64 t155)) (fun _ hk => hk.2) (.slice (some ad160) t152.length co13)) (fun _ hk => hk.2) (.int .i64 t155)) (fun _ hk => hk.2) (.int .i64 1)) (fun _ hk => trivial), zB5_3⟩

end Go.Proofs.Ytddncenhddiemaa.PFnLoses
