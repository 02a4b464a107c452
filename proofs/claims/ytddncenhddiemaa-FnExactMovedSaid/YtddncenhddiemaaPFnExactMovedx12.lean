-- made by wip/tools/myprint.py out of the seat's translation
import Derived.Test.YtddncenhddiemaaPFnExactMovedx0
import Derived.Test.YtddncenhddiemaaPFnExactMovedx9
import Derived.Test.YtddncenhddiemaaPFnExactMovedx10
import Derived.Test.YtddncenhddiemaaPFnExactMovedx11
namespace Go.Proofs.Ytddncenhddiemaa.PFnExactMoved
open Go.RowKit Go.Proofs.YtddncenhddiemaaW.PrintWords Go.Proofs.YtddncenhddiemaaW.PrintLast Go.Proofs.YtddncenhddiemaaW.PrintMore
attribute [local go_sem] max2_int min2_int max_two min_two max_three min_three max_four min_four   -- for this text's walks alone
set_option linter.unusedVariables false
set_option linter.unusedSimpArgs false
theorem zc12_3 {w : World} {g : Nat} {a0 a1 a2 : Value} {t : TypeId} (h : w.heap[g]? = some (.cells #[a0, a1, a2] t (0, 0))) : w.cell? ⟨g, 0, none⟩ = some a0 ∧ w.cell? ⟨g, 1, none⟩ = some a1 ∧ w.cell? ⟨g, 2, none⟩ = some a2 ∧ w.frozen? ⟨g, 0, none⟩ = false ∧ w.frozen? ⟨g, 1, none⟩ = false ∧ w.frozen? ⟨g, 2, none⟩ = false := ⟨(blk_cell h 0).trans rfl, (blk_cell h 1).trans rfl, (blk_cell h 2).trans rfl, blk_frozen h 0, blk_frozen h 1, blk_frozen h 2⟩
theorem zR12 {p q : Prop} (x : q) (h : q → p := by intro h; (with_reducible repeat (first | apply Kd.R_alloc | apply Kd.R_drewN | apply Kd.R_drew)); exact h) : p := h x
theorem zK12 {p q : Prop} (x : q) (h : q → p := by intro h; (with_reducible repeat (first | refine blk_drewN ?_ _ | refine blk_drew ?_ | refine blk_alloc ?_ _)); exact h) : p := h x
theorem zA12 {p : Prop} [Decidable p] (h : decide p = true := by first | (with_reducible assumption) | assumption) : p := of_decide_eq_true h
theorem zT12 {p : Prop} (h : p := by (try simp only [List.map_toArray, List.map_cons, List.map_nil]); first | done | rfl | (simp only [List.length_drop, List.length_take]; rfl)) : p := h
theorem zC12 {p q : Prop} (x : q) (h : q → p := by intro h; repeat (first | exact h | (with_reducible refine Kd.C_alloc ?_ _) | (with_reducible refine Kd.C_drewN ?_ _) | (with_reducible refine Kd.C_drew ?_))) : p := h x
theorem zb12 {W w w1 : World} {g : Nat} {o : Obj} (x : W.heap[g]? = some o) (hb : Below w.heap.size w w1) (h : W.heap[g]? = some o → w.heap[g]? = some o := by intro h; (with_reducible repeat (first | refine blk_drewN ?_ _ | refine blk_drew ?_ | refine blk_alloc ?_ _)); exact h) : w1.heap[g]? = some o := blk_below (h x) hb
theorem zn12 {W w : World} {g g' : Nat} {o : Obj} (x : W.heap[g]? = some o) (hg : g' = w.heap.size) (h : W.heap[g]? = some o → w.heap[g]? = some o := by intro h; (with_reducible repeat (first | refine blk_drewN ?_ _ | refine blk_drew ?_ | refine blk_alloc ?_ _)); exact h) : g ≠ g' := by rw [hg]; exact Nat.ne_of_lt (blk_lt (h x))
theorem zm12 {W w : World} {g g' : Nat} {o : Obj} (x : W.heap[g]? = some o) (hg : g' = w.heap.size) (h : W.heap[g]? = some o → w.heap[g]? = some o := by intro h; (with_reducible repeat (first | refine blk_drewN ?_ _ | refine blk_drew ?_ | refine blk_alloc ?_ _)); exact h) : g' ≠ g := by rw [hg]; exact Nat.ne_of_gt (blk_lt (h x))
theorem zP12 {p q : Prop} (x : q) (h : q → p := by intro h; (with_reducible repeat (first | refine blk_drewN ?_ _ | refine blk_drew ?_ | refine blk_alloc ?_ _)); exact h) : p := h x
theorem zV12 {a b : Act} (h : a = b := by simp only [Act.put, List.setIfInBounds_toArray, List.set_cons_zero, List.set_cons_succ, i64_w, i32_w]; rfl) : a = b := h
theorem zE12 {p : Prop} (h : p := by first | rfl | (simp [errW_none, errW_some] <;> rfl) | (simp [*, errW_none, errW_some] <;> rfl)) : p := h
theorem zB12_0 {p : Prop} (h : p := by repeat (first | (with_reducible first | exact HB.out | apply below_alloc | apply pw_below_drewN | apply below_drew1) | exact HB.out)) : p := h
theorem zB12_1 {p : Prop} (h : p := by repeat (first | (with_reducible first | exact HB.out | apply below_alloc | apply pw_below_drewN | apply below_drew1 | refine below_set ?_ GE238.out) | exact HB.out)) : p := h
theorem zB12_2 {p : Prop} (h : p := by repeat (first | (with_reducible first | exact HB.out | apply below_alloc | apply pw_below_drewN | apply below_drew1 | refine below_set ?_ GE238.out | refine below_set ?_ GE239.out) | exact HB.out)) : p := h
theorem zB12_3 {p : Prop} (h : p := by repeat (first | (with_reducible first | exact HB.out | apply below_alloc | apply pw_below_drewN | apply below_drew1 | refine below_set ?_ GE238.out | refine below_set ?_ GE239.out | refine below_set ?_ GE247.out) | exact HB.out)) : p := h
theorem zB12_4 {p : Prop} (h : p := by repeat (first | (with_reducible first | exact HB.out | apply below_alloc | apply pw_below_drewN | apply below_drew1 | refine below_set ?_ GB37.out | refine below_set ?_ GE238.out | refine below_set ?_ GE239.out | refine below_set ?_ GE247.out) | exact HB.out)) : p := h
theorem zB12_5 {p : Prop} (h : p := by repeat (first | (with_reducible first | exact HK.out | apply Kept.alloc | apply Kept.drewN | apply Kept.drew) | exact HK.out)) : p := h

/-! ### spec_Moved: function 31 -/
mutual
def spec_Moved.j0 : Nat → Int → Bool → ByteArray → List (S54) → List (S87) → ByteArray → List (S54) → List (S87) → Option (ByteArray × (List (S54)) × (List (S87)) × Bool)
 | 0, _, _, _, _, _, _, _, _ => none
 | k + 1, x1, x17, x239000, x239001, x239002, x248000, x248001, x248002 => if x17 = true then (some ((⟨#[]⟩ : ByteArray), ([] : List (S54)), ([] : List (S87)), false)) else (spec_Moved.l0 k x1 0 x239000 x239001 x239002 x248000 x248001 x248002)
def spec_Moved.l0 : Nat → Int → Int → ByteArray → List (S54) → List (S87) → ByteArray → List (S54) → List (S87) → Option (ByteArray × (List (S54)) × (List (S87)) × Bool)
 | 0, _, _, _, _, _, _, _, _ => none
 | k + 1, x1, x7, x239000, x239001, x239002, x248000, x248001, x248002 => if x7 < (x248001.length : Int) then (if 0 ≤ x7 then ((spec_l27Goes.f ((rd_T54 x248001 x7).f0) ((rd_T54 x248001 x7).f1) ((rd_T54 x248001 x7).f2) ((rd_T54 x248001 x7).f3) ((rd_T54 x248001 x7).f4)).bind fun t252 => (if t252 = true then ((spec_l27Ref.f k x239000 x239001 x239002 x7).bind fun t253 => (if t253 < 0 then (spec_Moved.l0 k x1 (wrap64 (x7 + 1)) x239000 x239001 x239002 x248000 (x248001.set (x7 : Int).toNat (⟨(rd_T54 x248001 x7).f0, (rd_T54 x248001 x7).f1, (rd_T54 x248001 x7).f2, (rd_T54 x248001 x7).f3, wrap64 (((rd_T54 x248001 x7).f4) + x1)⟩ : S54)) x248002) else (spec_Moved.l0 k x1 (wrap64 (x7 + 1)) x239000 x239001 x239002 x248000 x248001 x248002))) else (spec_Moved.l0 k x1 (wrap64 (x7 + 1)) x239000 x239001 x239002 x248000 x248001 x248002))) else (none)) else ((spec_PartOk.f k x248000 x248001 x248002).bind fun t250 => (if t250 = true then (some (x248000, x248001, x248002, true)) else (some ((⟨#[]⟩ : ByteArray), ([] : List (S54)), ([] : List (S87)), false))))
end
def spec_Moved.f (k : Nat) (a0_0 : ByteArray) (l0_1 : List (S54)) (l0_2 : List (S87)) (a1 : Int) : Option (ByteArray × (List (S54)) × (List (S87)) × Bool) := (spec_l27Copy.f a0_0 l0_1 l0_2).bind fun bt240 => ((spec_PartOk.f k a0_0 l0_1 l0_2).bind fun t248 => (if t248 = true then ((spec_l1In.f a1 (-63) 63).bind fun t249 => (spec_Moved.j0 k a1 (!t249) a0_0 l0_1 l0_2 bt240.1 bt240.2.1 bt240.2.2)) else (spec_Moved.j0 k a1 true a0_0 l0_1 l0_2 bt240.1 bt240.2.1 bt240.2.2)))
theorem spec_Moved.mono_l : ∀ k, (∀ y0 y1 y2 y3 y4 y5 y6 y7, LeO (spec_Moved.j0 k y0 y1 y2 y3 y4 y5 y6 y7) (spec_Moved.j0 (k + 1) y0 y1 y2 y3 y4 y5 y6 y7)) ∧ (∀ y0 y1 y2 y3 y4 y5 y6 y7, LeO (spec_Moved.l0 k y0 y1 y2 y3 y4 y5 y6 y7) (spec_Moved.l0 (k + 1) y0 y1 y2 y3 y4 y5 y6 y7))
 | 0 => ⟨fun _ _ _ _ _ _ _ _ r h => by simp [spec_Moved.j0] at h, fun _ _ _ _ _ _ _ _ r h => by simp [spec_Moved.l0] at h⟩
 | k + 1 => by
  obtain ⟨ih0, ih1⟩ := spec_Moved.mono_l k
  refine ⟨?_, ?_⟩
  ·intro y0 y1 y2 y3 y4 y5 y6 y7
   unfold spec_Moved.j0
   repeat' first
   | (with_reducible exact ih0 _ _ _ _ _ _ _ _)
   | (with_reducible exact ih1 _ _ _ _ _ _ _ _)
   | (with_reducible exact spec_PartOk.mono _ _ _ _)
   | (with_reducible exact spec_l27Ref.mono _ _ _ _ _)
   | (with_reducible exact LeO.refl _)
   | (with_reducible exact LeO.none _)
   | (with_reducible refine LeO.ite ?_ ?_)
   | (with_reducible refine LeO.bind ?_ (fun _ => ?_))
   | exact ih0 _ _ _ _ _ _ _ _
   | exact ih1 _ _ _ _ _ _ _ _
   | exact spec_PartOk.mono _ _ _ _
   | exact spec_l27Ref.mono _ _ _ _ _
   | exact LeO.none _
   | refine LeO.ite ?_ ?_
   | refine LeO.bind ?_ (fun _ => ?_)
  ·intro y0 y1 y2 y3 y4 y5 y6 y7
   unfold spec_Moved.l0
   repeat' first
   | (with_reducible exact ih0 _ _ _ _ _ _ _ _)
   | (with_reducible exact ih1 _ _ _ _ _ _ _ _)
   | (with_reducible exact spec_PartOk.mono _ _ _ _)
   | (with_reducible exact spec_l27Ref.mono _ _ _ _ _)
   | (with_reducible exact LeO.refl _)
   | (with_reducible exact LeO.none _)
   | (with_reducible refine LeO.ite ?_ ?_)
   | (with_reducible refine LeO.bind ?_ (fun _ => ?_))
   | exact ih0 _ _ _ _ _ _ _ _
   | exact ih1 _ _ _ _ _ _ _ _
   | exact spec_PartOk.mono _ _ _ _
   | exact spec_l27Ref.mono _ _ _ _ _
   | exact LeO.none _
   | refine LeO.ite ?_ ?_
   | refine LeO.bind ?_ (fun _ => ?_)
theorem spec_Moved.mono : ∀ a0 a1 a2 a3 k, LeO (spec_Moved.f k a0 a1 a2 a3) (spec_Moved.f (k + 1) a0 a1 a2 a3) := by
 intro a0 a1 a2 a3 k
 obtain ⟨ih0, ih1⟩ := spec_Moved.mono_l k
 unfold spec_Moved.f
 repeat' first
   | (with_reducible exact ih0 _ _ _ _ _ _ _ _)
   | (with_reducible exact ih1 _ _ _ _ _ _ _ _)
   | (with_reducible exact spec_PartOk.mono _ _ _ _)
   | (with_reducible exact spec_l27Ref.mono _ _ _ _ _)
   | (with_reducible exact LeO.refl _)
   | (with_reducible exact LeO.none _)
   | (with_reducible refine LeO.ite ?_ ?_)
   | (with_reducible refine LeO.bind ?_ (fun _ => ?_))
   | exact ih0 _ _ _ _ _ _ _ _
   | exact ih1 _ _ _ _ _ _ _ _
   | exact spec_PartOk.mono _ _ _ _
   | exact spec_l27Ref.mono _ _ _ _ _
   | exact LeO.none _
   | refine LeO.ite ?_ ?_
   | refine LeO.bind ?_ (fun _ => ?_)
def spec_Moved.T8 : Bool × List (List Nat × List Nat) := (true, [([], []), ([0], [0]), ([], []), ([], []), ([3], [3]), ([], []), ([4, 5], [4, 5]), ([6], [6]), ([7], [7]), ([], []), ([8, 9], [8, 9]), ([1, 2, 0, 1, 2, 3, 4, 5, 6, 7, 8, 9, 10], [1, 2]), ([11, 0, 1, 2, 3, 4, 5, 6, 7, 8, 9, 10], [11]), ([12, 10, 0, 1, 2, 3, 4, 5, 6, 7, 8, 9, 10], [10, 12])])
def spec_Moved.B8 : List Nat := [0, 1, 0, 0, 8, 0, 56, 120, 248, 0, 1016, 2047, 4095, 8191]
theorem spec_Moved.tab8 : rtab .any (opsOf Try.f31 8) = spec_Moved.T8 := by kernel_rfl
theorem spec_Moved.bits8 : waitsOk spec_Moved.T8.2 spec_Moved.B8 = true := by kernel_rfl
set_option maxHeartbeats 8000000 in
set_option maxRecDepth 100000 in
theorem spec_Moved.calls (k : Nat) (a0_0 : ByteArray) (A0_1 : Option Addr) (c0_1 : Nat) (l0_1 : List (S54)) (A0_2 : Option Addr) (c0_2 : Nat) (l0_2 : List (S87)) (a1 : Int) (r1 : ByteArray) (r2 : List (S54)) (r3 : List (S87)) (r4 : Bool) (w : World) (hr0_1 : Kd.C k54 w A0_1 l0_1.length l0_1) (hc0_1 : l0_1.length ≤ c0_1) (hr0_2 : Kd.C k87 w A0_2 l0_2.length l0_2) (hc0_2 : l0_2.length ≤ c0_2) (h : spec_Moved.f k a0_0 l0_1 l0_2 a1 = some (r1, r2, r3, r4)) :
  Calls Try.prog 31 #[.agg #[.string a0_0, .slice A0_1 l0_1.length c0_1, .slice A0_2 l0_2.length c0_2], .int .i64 a1] w fun e w' => ∃ v1_ v2_ : Value, e = .returned (.tuple #[.agg #[.string r1, v1_, v2_], .bool r4]) ∧ Kd.R k54 54 w' w.heap.size (fun _ => True) v1_ r2 ∧ Kd.R k87 87 w' w.heap.size (fun _ => True) v2_ r3 ∧ Below w.heap.size w w' := by
 have hu45 := Try.underlying45
 have hu54 := Try.underlying54
 have HR0_1 := Aside0.mk hr0_1
 have HC0_1 := Aside0.mk hc0_1
 clear hr0_1 hc0_1
 have HR0_2 := Aside0.mk hr0_2
 have HC0_2 := Aside0.mk hc0_2
 clear hr0_2 hc0_2
 have HB := Aside0.mk (Below.refl w.heap.size w)
 have H : ((spec_l27Copy.f a0_0 l0_1 l0_2).bind fun bt240 => ((spec_PartOk.f k a0_0 l0_1 l0_2).bind fun t248 => (if t248 = true then ((spec_l1In.f a1 (-63) 63).bind fun t249 => (spec_Moved.j0 k a1 (!t249) a0_0 l0_1 l0_2 bt240.1 bt240.2.1 bt240.2.2)) else (spec_Moved.j0 k a1 true a0_0 l0_1 l0_2 bt240.1 bt240.2.1 bt240.2.2)))) = some (r1, r2, r3, r4) := h
 clear h
 replace H := Option.bind_eq_some_iff.mp H
 obtain ⟨⟨t240, t241, t244⟩, A30, H⟩ := H
 replace H : ((spec_PartOk.f k a0_0 l0_1 l0_2).bind fun t248 => (if t248 = true then ((spec_l1In.f a1 (-63) 63).bind fun t249 => (spec_Moved.j0 k a1 (!t249) a0_0 l0_1 l0_2 t240 t241 t244)) else (spec_Moved.j0 k a1 true a0_0 l0_1 l0_2 t240 t241 t244))) = some (r1, r2, r3, r4) := H
 have A3 := Aside0.mk A30
 clear A30
 have HC4 := Aside0.mk H
 clear H
 go_enter Try.func31, Try.ntmps31
 go_upto_region 2 with (first | ((with_reducible refine gate_dst (N := 2) rfl ?_); refine box_event ?hg (N := 2) ?hd (cs := #[.string a0_0, .slice A0_1 l0_1.length c0_1, .slice A0_2 l0_2.length c0_2]) (t := 45) ?hr ?_; (case hd => rfl); (case hg => rfl); (case hr => first | (go_simp; done) | (go_simp; rfl)); intro gb238 hg w5 hbox hb; have n0_ := Aside0.mk (below_step (zB12_0) hb); have n1_ := Aside0.mk (hbox); have n2_ := Aside0.mk ((by rw [hg]; exact (below_size (zB12_0)) : w.heap.size ≤ gb238)); have n3_ := Aside0.mk ((by rw [hg]; exact (below_size (zB12_0)) : w.heap.size ≤ gb238)); clear HB; have HB := n0_; have BK238 := n1_; have GW238 := n2_; have GE238 := n3_; clear n0_ n1_ n2_ n3_; clear hb hbox hg) | ((with_reducible refine gate_dst (N := 4) rfl ?_); refine box_event ?hg (N := 4) ?hd (cs := #[.string (⟨#[]⟩ : ByteArray), .slice none 0 0, .slice none 0 0]) (t := 45) ?hr ?_; (case hd => rfl); (case hg => rfl); (case hr => first | (go_simp; done) | (go_simp; rfl)); intro gb239 hg w6 hbox hb; have n0_ := Aside0.mk (zb12 BK238.out hb); have n1_ := Aside0.mk (below_step (zB12_1) hb); have n2_ := Aside0.mk (hbox); have n3_ := Aside0.mk ((by rw [hg]; exact (below_size (zB12_1)) : w.heap.size ≤ gb239)); have n4_ := Aside0.mk ((by rw [hg]; exact (below_size (zB12_1)) : w.heap.size ≤ gb239)); have n5_ := Aside0.mk ((zn12 BK238.out hg : gb238 ≠ gb239)); have n6_ := Aside0.mk ((zm12 BK238.out hg : gb239 ≠ gb238)); clear BK238; clear HB; have BK238 := n0_; have HB := n1_; have BK239 := n2_; have GW239 := n3_; have GE239 := n4_; have NB238_239 := n5_; have NB239_238 := n6_; clear n0_ n1_ n2_ n3_ n4_ n5_ n6_; clear hb hbox hg; have hnb7 := NB238_239.out; have hnc7 := NB239_238.out; obtain ⟨hcz8_0, hcz8_1, hcz8_2, hfz8_0, hfz8_1, hfz8_2⟩ := zc12_3 (w := w6) BK238.out) | ((with_reducible refine gate_callee (f := 117) rfl ?_); refine goesL_ (some 9) rfl rfl Try.func117 (by kernel_rfl) rfl #[.agg #[.string a0_0, .slice A0_1 l0_1.length c0_1, .slice A0_2 l0_2.length c0_2]] rfl zT12 ?_; (with_reducible refine (spec_l27Copy.calls a0_0 _ _ l0_1 _ _ l0_2 t240 t241 t244 _ ?side1 ?side2 ?side3 ?side4 A3.out).mono ?_); (case side1 => exact zC12 (Kd.C_below HR0_1.out HB.out)); (case side2 => exact HC0_1.out); (case side3 => exact zC12 (Kd.C_below HR0_2.out HB.out)); (case side4 => exact HC0_2.out); rintro e w9 ⟨v242, v245, rfl, ho0, ho1, hb⟩; refine ⟨_, rfl, ?_⟩; have n0_ := Aside0.mk (Kd.R_lower ho0 (below_size (zB12_2))); have n1_ := Aside0.mk (Kd.R_lower ho1 (below_size (zB12_2))); have n2_ := Aside0.mk (zb12 BK238.out hb); have n3_ := Aside0.mk (zb12 BK239.out hb); have n4_ := Aside0.mk (below_step (zB12_2) hb); clear BK238; clear BK239; clear HB; have HO243 := n0_; have HO246 := n1_; have BK238 := n2_; have BK239 := n3_; have HB := n4_; clear n0_ n1_ n2_ n3_ n4_; (try clear hb); (try clear hb2); (try clear hk); (try clear hi); (try clear ho0); (try clear ho1)) | ((with_reducible refine gate_dst (N := 6) rfl ?_); refine box_event ?hg (N := 6) ?hd (cs := #[.string (⟨#[]⟩ : ByteArray), .slice none 0 0, .slice none 0 0]) (t := 45) ?hr ?_; (case hd => rfl); (case hg => rfl); (case hr => first | (go_simp; done) | (go_simp; rfl)); intro gb247 hg w10 hbox hb; have n0_ := Aside0.mk (Kd.R_below (zR12 HO243.out) hb); have n1_ := Aside0.mk (Kd.R_below (zR12 HO246.out) hb); have n2_ := Aside0.mk (zb12 BK238.out hb); have n3_ := Aside0.mk (zb12 BK239.out hb); have n4_ := Aside0.mk (below_step (zB12_2) hb); have n5_ := Aside0.mk (hbox); have n6_ := Aside0.mk ((by rw [hg]; exact (below_size (zB12_2)) : w.heap.size ≤ gb247)); have n7_ := Aside0.mk ((by rw [hg]; exact (below_size (zB12_2)) : w.heap.size ≤ gb247)); have n8_ := Aside0.mk ((zn12 BK238.out hg : gb238 ≠ gb247)); have n9_ := Aside0.mk ((zm12 BK238.out hg : gb247 ≠ gb238)); have n10_ := Aside0.mk ((zn12 BK239.out hg : gb239 ≠ gb247)); have n11_ := Aside0.mk ((zm12 BK239.out hg : gb247 ≠ gb239)); clear HO243; clear HO246; clear BK238; clear BK239; clear HB; have HO243 := n0_; have HO246 := n1_; have BK238 := n2_; have BK239 := n3_; have HB := n4_; have BK247 := n5_; have GW247 := n6_; have GE247 := n7_; have NB238_247 := n8_; have NB247_238 := n9_; have NB239_247 := n10_; have NB247_239 := n11_; clear n0_ n1_ n2_ n3_ n4_ n5_ n6_ n7_ n8_ n9_ n10_ n11_; clear hb hbox hg; have hnb11 := NB247_238.out; have hnc11 := NB238_247.out; have hnb12 := NB247_239.out; have hnc12 := NB239_247.out; obtain ⟨hcz13_0, hcz13_1, hcz13_2, hfz13_0, hfz13_1, hfz13_2⟩ := zc12_3 (w := w10) BK247.out; obtain ⟨Ao14, co14, eo14⟩ := Kd.R_slice HO243.out; subst eo14; obtain ⟨Ao15, co15, eo15⟩ := Kd.R_slice HO246.out; subst eo15))
 (try simp only [Act.put, List.setIfInBounds_toArray, List.set_cons_zero, List.set_cons_succ])
 go_cut [17] (fun v17 wc => ∃ (kq : Nat) (x17_3 : Bool), v17 = .bool x17_3 ∧ Aside0 (spec_Moved.j0 kq a1 x17_3 a0_0 l0_1 l0_2 t240 t241 t244 = some (r1, r2, r3, r4)) ∧ Aside0 (kq ≤ k) ∧ Aside0 (Kd.R k54 54 wc w.heap.size (fun _ => True) (.slice Ao14 t241.length co14) t241) ∧ Aside0 (Kd.R k87 87 wc w.heap.size (fun _ => True) (.slice Ao15 t244.length co15) t244) ∧ Aside0 (wc.heap[gb238]? = some (.cells #[.string a0_0, (.slice A0_1 l0_1.length c0_1), (.slice A0_2 l0_2.length c0_2)] 45 (0, 0))) ∧ Aside0 (wc.heap[gb239]? = some (.cells #[.string (⟨#[]⟩ : ByteArray), (.slice none 0 0), (.slice none 0 0)] 45 (0, 0))) ∧ Aside0 (wc.heap[gb247]? = some (.cells #[.string t240, (.slice Ao14 t241.length co14), (.slice Ao15 t244.length co15)] 45 (0, 0))) ∧ Aside0 (Below w.heap.size w wc))
 case first =>
  have H := HC4.out
  clear HC4
  replace H := Option.bind_eq_some_iff.mp H
  obtain ⟨t248, A160, H⟩ := H
  replace H : (if t248 = true then ((spec_l1In.f a1 (-63) 63).bind fun t249 => (spec_Moved.j0 k a1 (!t249) a0_0 l0_1 l0_2 t240 t241 t244)) else (spec_Moved.j0 k a1 true a0_0 l0_1 l0_2 t240 t241 t244)) = some (r1, r2, r3, r4) := H
  have A16 := Aside0.mk A160
  clear A160
  by_cases c17 : t248 = true
  rotate_left
  ·replace c17 := Bool.eq_false_iff.mpr c17
   subst c17
   have H1 : (spec_Moved.j0 k a1 true a0_0 l0_1 l0_2 t240 t241 t244) = some (r1, r2, r3, r4) := by rw [if_neg (show ¬ (false = true) by decide)] at H; exact H
   clear H
   have H := H1
   clear H1
   have H' := Aside0.mk H
   clear H
   have hnb23 := NB238_239.out
   have hnc23 := NB239_238.out
   have hnb24 := NB238_247.out
   have hnc24 := NB247_238.out
   obtain ⟨hcz25_0, hcz25_1, hcz25_2, hfz25_0, hfz25_1, hfz25_2⟩ := zc12_3 (w := w10) BK238.out
   go_wp2_with (first | ((with_reducible refine gate_callee (f := 25) rfl ?_); refine goesL_ (some 11) rfl rfl Try.func25 (by kernel_rfl) rfl #[.agg #[.string a0_0, .slice A0_1 l0_1.length c0_1, .slice A0_2 l0_2.length c0_2]] rfl zT12 ?_; (with_reducible refine (spec_PartOk.calls k a0_0 _ _ l0_1 _ _ l0_2 false _ ?side1 ?side2 ?side3 ?side4 A16.out).mono ?_); (case side1 => exact Kd.C_below HR0_1.out (zB12_3)); (case side2 => exact HC0_1.out); (case side3 => exact Kd.C_below HR0_2.out (zB12_3)); (case side4 => exact HC0_2.out); rintro e w26 ⟨rfl, hb⟩; refine ⟨_, rfl, ?_⟩; have n0_ := Aside0.mk (Kd.R_below (by (with_reducible repeat (first | apply Kd.R_alloc | apply Kd.R_drewN | apply Kd.R_drew)); exact (Kd.R_mono (Kd.R_far (p := ⟨gb247, 2, none⟩) (Kd.R_far (p := ⟨gb247, 1, none⟩) (Kd.R_far (p := ⟨gb247, 0, none⟩) (Kd.R_types HO243.out BK247.out (by decide)) (fun _ hk => hk.2) (.string t240)) (fun _ hk => hk.2) (.slice Ao14 t241.length co14)) (fun _ hk => hk.2) (.slice Ao15 t244.length co15)) (fun _ h_ => h_.1))) hb); have n1_ := Aside0.mk (Kd.R_below (by (with_reducible repeat (first | apply Kd.R_alloc | apply Kd.R_drewN | apply Kd.R_drew)); exact (Kd.R_mono (Kd.R_far (p := ⟨gb247, 2, none⟩) (Kd.R_far (p := ⟨gb247, 1, none⟩) (Kd.R_far (p := ⟨gb247, 0, none⟩) (Kd.R_types HO246.out BK247.out (by decide)) (fun _ hk => hk.2) (.string t240)) (fun _ hk => hk.2) (.slice Ao14 t241.length co14)) (fun _ hk => hk.2) (.slice Ao15 t244.length co15)) (fun _ h_ => h_.1))) hb); have n2_ := Aside0.mk (blk_below (g := gb238) (o := .cells #[.string a0_0, .slice A0_1 l0_1.length c0_1, .slice A0_2 l0_2.length c0_2] 45 (0, 0)) (by refine zP12 ?_; refine blk_far ?_ NB238_247.out _; refine zP12 ?_; refine blk_far ?_ NB238_247.out _; refine zP12 ?_; refine blk_far ?_ NB238_247.out _; refine zP12 ?_; exact BK238.out) hb); have n3_ := Aside0.mk (blk_below (g := gb239) (o := .cells #[.string (⟨#[]⟩ : ByteArray), .slice none 0 0, .slice none 0 0] 45 (0, 0)) (by refine zP12 ?_; refine blk_far ?_ NB239_247.out _; refine zP12 ?_; refine blk_far ?_ NB239_247.out _; refine zP12 ?_; refine blk_far ?_ NB239_247.out _; refine zP12 ?_; exact BK239.out) hb); have n4_ := Aside0.mk (blk_below (g := gb247) (o := .cells #[.string t240, .slice Ao14 t241.length co14, .slice Ao15 t244.length co15] 45 (0, 0)) (by refine zP12 ?_; refine blk_put (cs := #[.string t240, .slice Ao14 t241.length co14, .slice none 0 0]) ?_ 2 _ rfl; refine zP12 ?_; refine blk_put (cs := #[.string t240, .slice none 0 0, .slice none 0 0]) ?_ 1 _ rfl; refine zP12 ?_; refine blk_put (cs := #[.string (⟨#[]⟩ : ByteArray), .slice none 0 0, .slice none 0 0]) ?_ 0 _ rfl; refine zP12 ?_; exact BK247.out) hb); have n5_ := Aside0.mk (below_step (zB12_3) hb); clear HO243; clear HO246; clear BK238; clear BK239; clear BK247; clear HB; have HO243 := n0_; have HO246 := n1_; have BK238 := n2_; have BK239 := n3_; have BK247 := n4_; have HB := n5_; clear n0_ n1_ n2_ n3_ n4_ n5_; (try clear hb); (try clear hb2); (try clear hk); (try clear hi)))
   go_meet
   case rel => exact ⟨_, (true), (by first | rfl | (simp; done) | (simp [*]; done)), H', ⟨by first | omega | exact Nat.le_refl _⟩, ⟨zR12 HO243.out⟩, ⟨zR12 HO246.out⟩, ⟨zK12 BK238.out⟩, ⟨zK12 BK239.out⟩, ⟨zK12 BK247.out⟩, ⟨zB12_3⟩⟩
  subst c17
  have H1 : ((spec_l1In.f a1 (-63) 63).bind fun t249 => (spec_Moved.j0 k a1 (!t249) a0_0 l0_1 l0_2 t240 t241 t244)) = some (r1, r2, r3, r4) := by rw [if_pos rfl] at H; exact H
  clear H
  have H := H1
  clear H1
  replace H := Option.bind_eq_some_iff.mp H
  obtain ⟨t249, A180, H⟩ := H
  replace H : (spec_Moved.j0 k a1 (!t249) a0_0 l0_1 l0_2 t240 t241 t244) = some (r1, r2, r3, r4) := H
  have A18 := Aside0.mk A180
  clear A180
  have H' := Aside0.mk H
  clear H
  have hnb19 := NB238_239.out
  have hnc19 := NB239_238.out
  have hnb20 := NB238_247.out
  have hnc20 := NB247_238.out
  obtain ⟨hcz21_0, hcz21_1, hcz21_2, hfz21_0, hfz21_1, hfz21_2⟩ := zc12_3 (w := w10) BK238.out
  go_wp2_with (first | ((with_reducible refine gate_callee (f := 25) rfl ?_); refine goesL_ (some 11) rfl rfl Try.func25 (by kernel_rfl) rfl #[.agg #[.string a0_0, .slice A0_1 l0_1.length c0_1, .slice A0_2 l0_2.length c0_2]] rfl zT12 ?_; (with_reducible refine (spec_PartOk.calls k a0_0 _ _ l0_1 _ _ l0_2 true _ ?side1 ?side2 ?side3 ?side4 A16.out).mono ?_); (case side1 => exact Kd.C_below HR0_1.out (zB12_3)); (case side2 => exact HC0_1.out); (case side3 => exact Kd.C_below HR0_2.out (zB12_3)); (case side4 => exact HC0_2.out); rintro e w22 ⟨rfl, hb⟩; refine ⟨_, rfl, ?_⟩; have n0_ := Aside0.mk (Kd.R_below (by (with_reducible repeat (first | apply Kd.R_alloc | apply Kd.R_drewN | apply Kd.R_drew)); exact (Kd.R_mono (Kd.R_far (p := ⟨gb247, 2, none⟩) (Kd.R_far (p := ⟨gb247, 1, none⟩) (Kd.R_far (p := ⟨gb247, 0, none⟩) (Kd.R_types HO243.out BK247.out (by decide)) (fun _ hk => hk.2) (.string t240)) (fun _ hk => hk.2) (.slice Ao14 t241.length co14)) (fun _ hk => hk.2) (.slice Ao15 t244.length co15)) (fun _ h_ => h_.1))) hb); have n1_ := Aside0.mk (Kd.R_below (by (with_reducible repeat (first | apply Kd.R_alloc | apply Kd.R_drewN | apply Kd.R_drew)); exact (Kd.R_mono (Kd.R_far (p := ⟨gb247, 2, none⟩) (Kd.R_far (p := ⟨gb247, 1, none⟩) (Kd.R_far (p := ⟨gb247, 0, none⟩) (Kd.R_types HO246.out BK247.out (by decide)) (fun _ hk => hk.2) (.string t240)) (fun _ hk => hk.2) (.slice Ao14 t241.length co14)) (fun _ hk => hk.2) (.slice Ao15 t244.length co15)) (fun _ h_ => h_.1))) hb); have n2_ := Aside0.mk (blk_below (g := gb238) (o := .cells #[.string a0_0, .slice A0_1 l0_1.length c0_1, .slice A0_2 l0_2.length c0_2] 45 (0, 0)) (by refine zP12 ?_; refine blk_far ?_ NB238_247.out _; refine zP12 ?_; refine blk_far ?_ NB238_247.out _; refine zP12 ?_; refine blk_far ?_ NB238_247.out _; refine zP12 ?_; exact BK238.out) hb); have n3_ := Aside0.mk (blk_below (g := gb239) (o := .cells #[.string (⟨#[]⟩ : ByteArray), .slice none 0 0, .slice none 0 0] 45 (0, 0)) (by refine zP12 ?_; refine blk_far ?_ NB239_247.out _; refine zP12 ?_; refine blk_far ?_ NB239_247.out _; refine zP12 ?_; refine blk_far ?_ NB239_247.out _; refine zP12 ?_; exact BK239.out) hb); have n4_ := Aside0.mk (blk_below (g := gb247) (o := .cells #[.string t240, .slice Ao14 t241.length co14, .slice Ao15 t244.length co15] 45 (0, 0)) (by refine zP12 ?_; refine blk_put (cs := #[.string t240, .slice Ao14 t241.length co14, .slice none 0 0]) ?_ 2 _ rfl; refine zP12 ?_; refine blk_put (cs := #[.string t240, .slice none 0 0, .slice none 0 0]) ?_ 1 _ rfl; refine zP12 ?_; refine blk_put (cs := #[.string (⟨#[]⟩ : ByteArray), .slice none 0 0, .slice none 0 0]) ?_ 0 _ rfl; refine zP12 ?_; exact BK247.out) hb); have n5_ := Aside0.mk (below_step (zB12_3) hb); clear HO243; clear HO246; clear BK238; clear BK239; clear BK247; clear HB; have HO243 := n0_; have HO246 := n1_; have BK238 := n2_; have BK239 := n3_; have BK247 := n4_; have HB := n5_; clear n0_ n1_ n2_ n3_ n4_ n5_; (try clear hb); (try clear hb2); (try clear hk); (try clear hi)) | (go_at_call 99; (with_reducible refine (spec_l1In.calls a1 (-63) 63 t249 _ A18.out).mono ?_); rintro e w' ⟨rfl, ⟨nd, rfl⟩⟩))
  go_meet
  case rel => exact ⟨_, (!t249), (by first | rfl | (simp; done) | (simp [*]; done)), H', ⟨by first | omega | exact Nat.le_refl _⟩, ⟨zR12 HO243.out⟩, ⟨zR12 HO246.out⟩, ⟨zK12 BK238.out⟩, ⟨zK12 BK239.out⟩, ⟨zK12 BK247.out⟩, ⟨zB12_3⟩⟩
 case rest =>
  clear HC4
  try clear c1
  try clear c2
  try clear p2
  try clear c3
  try clear c7
  try clear c11
  try clear c12
  try clear c17
  try clear c19
  try clear c20
  try clear c23
  try clear c24
  try clear c25
  try clear hcz13_0
  try clear hcz13_1
  try clear hcz13_2
  try clear hcz21_0
  try clear hcz21_1
  try clear hcz21_2
  try clear hcz25_0
  try clear hcz25_1
  try clear hcz25_2
  try clear hcz8_0
  try clear hcz8_1
  try clear hcz8_2
  try clear hfz13_0
  try clear hfz13_1
  try clear hfz13_2
  try clear hfz21_0
  try clear hfz21_1
  try clear hfz21_2
  try clear hfz25_0
  try clear hfz25_1
  try clear hfz25_2
  try clear hfz8_0
  try clear hfz8_1
  try clear hfz8_2
  obtain ⟨kq, x17_3, rfl, HA, HJ3, HO_248001, HO_248002, BK238, BK239, BK247, HB⟩ := hcut
  cases kq with
  | zero => exact absurd HA.out (by simp [spec_Moved.j0])
  | succ kj3 =>
   have H := HA.out
   clear HA
   simp only [spec_Moved.j0] at H
   by_cases c27 : x17_3 = true
   ·subst c27
    have H1 : (some ((⟨#[]⟩ : ByteArray), ([] : List (S54)), ([] : List (S87)), false)) = some (r1, r2, r3, r4) := by rw [if_pos rfl] at H; exact H
    clear H
    have H := H1
    clear H1
    simp only [Option.some.injEq, Prod.mk.injEq] at H
    obtain ⟨rfl, rfl, rfl, rfl⟩ := H
    have hnb28 := NB239_238.out
    have hnc28 := NB238_239.out
    have hnb29 := NB239_247.out
    have hnc29 := NB247_239.out
    obtain ⟨hcz30_0, hcz30_1, hcz30_2, hfz30_0, hfz30_1, hfz30_2⟩ := zc12_3 (w := wc) BK239.out
    go_wp2
    refine bodyPost_ret (results_ct rfl _ _ gb239 45 #[.string (⟨#[]⟩ : ByteArray), .slice none 0 0, .slice none 0 0] (0, 0) _ rfl (by refine zP12 ?_; refine blk_put (cs := #[.string (⟨#[]⟩ : ByteArray), .slice none 0 0, .slice none 0 0]) ?_ 2 _ rfl; refine zP12 ?_; refine blk_put (cs := #[.string (⟨#[]⟩ : ByteArray), .slice none 0 0, .slice none 0 0]) ?_ 1 _ rfl; refine zP12 ?_; refine blk_put (cs := #[.string (⟨#[]⟩ : ByteArray), .slice none 0 0, .slice none 0 0]) ?_ 0 _ rfl; refine zP12 ?_; exact BK239.out) Try.underlying45 rfl (by kernel_rfl)) rfl ?_
    exact ⟨_, _, zE12, by first | exact Kd.R_nil _ _ _ _ _ | exact Kd.N_nil _ _ _ _ _ | exact Kd.V_nil _ _ _ _ _ | exact Kd.Q_nil _ _ _ _ _ | exact Kd.S_nil _ _ _ _ _, by first | exact Kd.R_nil _ _ _ _ _ | exact Kd.N_nil _ _ _ _ _ | exact Kd.V_nil _ _ _ _ _ | exact Kd.Q_nil _ _ _ _ _ | exact Kd.S_nil _ _ _ _ _, zB12_3⟩
   replace c27 := Bool.eq_false_iff.mpr c27
   subst c27
   have H1 : (spec_Moved.l0 kj3 a1 0 a0_0 l0_1 l0_2 t240 t241 t244) = some (r1, r2, r3, r4) := by rw [if_neg (show ¬ (false = true) by decide)] at H; exact H
   clear H
   have H := H1
   clear H1
   have H' := Aside0.mk H
   clear H
   go_wp2
   go_loopg [7] kj3 (fun kq v7 w' => ∃ (x7_2 : Int) (x248001_2 : List (S54)) (u248001 : Value), v7 = .int .i64 x7_2 ∧ Aside0 (spec_Moved.l0 kq a1 x7_2 a0_0 l0_1 l0_2 t240 x248001_2 t244 = some (r1, r2, r3, r4)) ∧ Aside0 (kq ≤ kj3) ∧ Aside0 (Kd.R k54 54 w' w.heap.size (fun _ => True) u248001 x248001_2) ∧ Aside0 (Kd.R k87 87 w' w.heap.size (fun _ => True) (.slice Ao15 t244.length co15) t244) ∧ Aside0 (w'.heap[gb238]? = some (.cells #[.string a0_0, (.slice A0_1 l0_1.length c0_1), (.slice A0_2 l0_2.length c0_2)] 45 (0, 0))) ∧ Aside0 (w'.heap[gb239]? = some (.cells #[.string (⟨#[]⟩ : ByteArray), (.slice none 0 0), (.slice none 0 0)] 45 (0, 0))) ∧ Aside0 (w'.heap[gb247]? = some (.cells #[.string t240, u248001, (.slice Ao15 t244.length co15)] 45 (0, 0))) ∧ Aside0 (Below w.heap.size w w'))
   case atStart => exact ⟨(0), (t241), (.slice Ao14 t241.length co14), (by first | rfl | (simp; done) | (simp [*]; done)), H', ⟨Nat.le_refl _⟩, ⟨zR12 HO_248001.out⟩, ⟨zR12 HO_248002.out⟩, ⟨zK12 BK238.out⟩, ⟨zK12 BK239.out⟩, ⟨zK12 BK247.out⟩, ⟨zB12_3⟩⟩
   case round =>
    clear H'
    try clear c1
    try clear c2
    try clear p2
    try clear c3
    try clear c7
    try clear c11
    try clear c12
    try clear c17
    try clear c19
    try clear c20
    try clear c23
    try clear c24
    try clear c25
    try clear c27
    try clear c28
    try clear c29
    try clear hcz13_0
    try clear hcz13_1
    try clear hcz13_2
    try clear hcz21_0
    try clear hcz21_1
    try clear hcz21_2
    try clear hcz25_0
    try clear hcz25_1
    try clear hcz25_2
    try clear hcz30_0
    try clear hcz30_1
    try clear hcz30_2
    try clear hcz8_0
    try clear hcz8_1
    try clear hcz8_2
    try clear hfz13_0
    try clear hfz13_1
    try clear hfz13_2
    try clear hfz21_0
    try clear hfz21_1
    try clear hfz21_2
    try clear hfz25_0
    try clear hfz25_1
    try clear hfz25_2
    try clear hfz30_0
    try clear hfz30_1
    try clear hfz30_2
    try clear hfz8_0
    try clear hfz8_1
    try clear hfz8_2
    try clear p2
    obtain ⟨x7_2, x248001_2, u248001, rfl, HA, HK2, HO_248001, HO_248002, BK238, BK239, BK247, HB⟩ := hrel
    cases gk with
    | zero => exact absurd HA.out (by simp [spec_Moved.l0])
    | succ k2 =>
     have H := HA.out
     clear HA
     simp only [spec_Moved.l0] at H
     by_cases c31 : x7_2 < (x248001_2.length : Int)
     rotate_left
     ·rw [if_neg c31] at H
      have c31b0 : decide (x7_2 < (x248001_2.length : Int)) = false := decide_eq_false c31
      clear c31
      replace H := Option.bind_eq_some_iff.mp H
      obtain ⟨t250, A610, H⟩ := H
      replace H : (if t250 = true then (some (t240, x248001_2, t244, true)) else (some ((⟨#[]⟩ : ByteArray), ([] : List (S54)), ([] : List (S87)), false))) = some (r1, r2, r3, r4) := H
      have A61 := Aside0.mk A610
      clear A610
      by_cases c62 : t250 = true
      rotate_left
      ·replace c62 := Bool.eq_false_iff.mpr c62
       subst c62
       have H1 : (some ((⟨#[]⟩ : ByteArray), ([] : List (S54)), ([] : List (S87)), false)) = some (r1, r2, r3, r4) := by rw [if_neg (show ¬ (false = true) by decide)] at H; exact H
       clear H
       have H := H1
       clear H1
       simp only [Option.some.injEq, Prod.mk.injEq] at H
       obtain ⟨rfl, rfl, rfl, rfl⟩ := H
       have hnb71 := NB247_238.out
       have hnc71 := NB238_247.out
       have hnb72 := NB247_239.out
       have hnc72 := NB239_247.out
       obtain ⟨hcz73_0, hcz73_1, hcz73_2, hfz73_0, hfz73_1, hfz73_2⟩ := zc12_3 (w := wr) BK247.out
       obtain ⟨Ao74, co74, eo74⟩ := Kd.R_slice HO_248001.out
       subst eo74
       go_wp2_with (first | ((with_reducible refine gate_callee (f := 25) rfl ?_); refine goesL_ (some 52) rfl rfl Try.func25 (by kernel_rfl) rfl #[.agg #[.string t240, .slice Ao74 x248001_2.length co74, .slice Ao15 t244.length co15]] rfl zT12 ?_; (with_reducible refine (spec_PartOk.calls k2 t240 _ _ x248001_2 _ _ t244 false _ ?side1 ?side2 ?side3 ?side4 A61.out).mono ?_); (case side1 => exact zC12 (Kd.R_reads' HO_248001.out).2.2); (case side2 => exact (Kd.R_reads' HO_248001.out).2.1); (case side3 => exact zC12 (Kd.R_reads' HO_248002.out).2.2); (case side4 => exact (Kd.R_reads' HO_248002.out).2.1); rintro e w75 ⟨rfl, hb⟩; refine ⟨_, rfl, ?_⟩; have n0_ := Aside0.mk (Kd.R_below (zR12 HO_248001.out) hb); have n1_ := Aside0.mk (Kd.R_below (zR12 HO_248002.out) hb); have n2_ := Aside0.mk (zb12 BK238.out hb); have n3_ := Aside0.mk (zb12 BK239.out hb); have n4_ := Aside0.mk (zb12 BK247.out hb); have n5_ := Aside0.mk (below_step (zB12_3) hb); clear HO_248001; clear HO_248002; clear BK238; clear BK239; clear BK247; clear HB; have HO_248001 := n0_; have HO_248002 := n1_; have BK238 := n2_; have BK239 := n3_; have BK247 := n4_; have HB := n5_; clear n0_ n1_ n2_ n3_ n4_ n5_; (try clear hb); (try clear hb2); (try clear hk); (try clear hi); have hnb76 := NB239_238.out; have hnc76 := NB238_239.out; obtain ⟨hcz77_0, hcz77_1, hcz77_2, hfz77_0, hfz77_1, hfz77_2⟩ := zc12_3 (w := w75) BK239.out))
       refine bodyPost_ret (results_ct rfl _ _ gb239 45 #[.string (⟨#[]⟩ : ByteArray), .slice none 0 0, .slice none 0 0] (0, 0) _ rfl (by refine zP12 ?_; refine blk_put (cs := #[.string (⟨#[]⟩ : ByteArray), .slice none 0 0, .slice none 0 0]) ?_ 2 _ rfl; refine zP12 ?_; refine blk_put (cs := #[.string (⟨#[]⟩ : ByteArray), .slice none 0 0, .slice none 0 0]) ?_ 1 _ rfl; refine zP12 ?_; refine blk_put (cs := #[.string (⟨#[]⟩ : ByteArray), .slice none 0 0, .slice none 0 0]) ?_ 0 _ rfl; refine zP12 ?_; exact BK239.out) Try.underlying45 rfl (by kernel_rfl)) rfl ?_
       exact ⟨_, _, zE12, by first | exact Kd.R_nil _ _ _ _ _ | exact Kd.N_nil _ _ _ _ _ | exact Kd.V_nil _ _ _ _ _ | exact Kd.Q_nil _ _ _ _ _ | exact Kd.S_nil _ _ _ _ _, by first | exact Kd.R_nil _ _ _ _ _ | exact Kd.N_nil _ _ _ _ _ | exact Kd.V_nil _ _ _ _ _ | exact Kd.Q_nil _ _ _ _ _ | exact Kd.S_nil _ _ _ _ _, zB12_3⟩
      subst c62
      have H1 : (some (t240, x248001_2, t244, true)) = some (r1, r2, r3, r4) := by rw [if_pos rfl] at H; exact H
      clear H
      have H := H1
      clear H1
      simp only [Option.some.injEq, Prod.mk.injEq] at H
      obtain ⟨rfl, rfl, rfl, rfl⟩ := H
      have hnb63 := NB247_238.out
      have hnc63 := NB238_247.out
      have hnb64 := NB247_239.out
      have hnc64 := NB239_247.out
      obtain ⟨hcz65_0, hcz65_1, hcz65_2, hfz65_0, hfz65_1, hfz65_2⟩ := zc12_3 (w := wr) BK247.out
      obtain ⟨Ao66, co66, eo66⟩ := Kd.R_slice HO_248001.out
      subst eo66
      go_wp2_with (first | ((with_reducible refine gate_callee (f := 25) rfl ?_); refine goesL_ (some 52) rfl rfl Try.func25 (by kernel_rfl) rfl #[.agg #[.string t240, .slice Ao66 x248001_2.length co66, .slice Ao15 t244.length co15]] rfl zT12 ?_; (with_reducible refine (spec_PartOk.calls k2 t240 _ _ x248001_2 _ _ t244 true _ ?side1 ?side2 ?side3 ?side4 A61.out).mono ?_); (case side1 => exact zC12 (Kd.R_reads' HO_248001.out).2.2); (case side2 => exact (Kd.R_reads' HO_248001.out).2.1); (case side3 => exact zC12 (Kd.R_reads' HO_248002.out).2.2); (case side4 => exact (Kd.R_reads' HO_248002.out).2.1); rintro e w67 ⟨rfl, hb⟩; refine ⟨_, rfl, ?_⟩; have n0_ := Aside0.mk (Kd.R_below (zR12 HO_248001.out) hb); have n1_ := Aside0.mk (Kd.R_below (zR12 HO_248002.out) hb); have n2_ := Aside0.mk (zb12 BK238.out hb); have n3_ := Aside0.mk (zb12 BK239.out hb); have n4_ := Aside0.mk (zb12 BK247.out hb); have n5_ := Aside0.mk (below_step (zB12_3) hb); clear HO_248001; clear HO_248002; clear BK238; clear BK239; clear BK247; clear HB; have HO_248001 := n0_; have HO_248002 := n1_; have BK238 := n2_; have BK239 := n3_; have BK247 := n4_; have HB := n5_; clear n0_ n1_ n2_ n3_ n4_ n5_; (try clear hb); (try clear hb2); (try clear hk); (try clear hi); obtain ⟨hcz68_0, hcz68_1, hcz68_2, hfz68_0, hfz68_1, hfz68_2⟩ := zc12_3 (w := w67) BK247.out; have hnb69 := NB239_238.out; have hnc69 := NB238_239.out; obtain ⟨hcz70_0, hcz70_1, hcz70_2, hfz70_0, hfz70_1, hfz70_2⟩ := zc12_3 (w := w67) BK239.out))
      refine bodyPost_ret (results_ct rfl _ _ gb239 45 #[.string t240, .slice Ao66 x248001_2.length co66, .slice Ao15 t244.length co15] (0, 0) _ rfl (by refine zP12 ?_; refine blk_put (cs := #[.string t240, .slice Ao66 x248001_2.length co66, .slice none 0 0]) ?_ 2 _ rfl; refine zP12 ?_; refine blk_put (cs := #[.string t240, .slice none 0 0, .slice none 0 0]) ?_ 1 _ rfl; refine zP12 ?_; refine blk_put (cs := #[.string (⟨#[]⟩ : ByteArray), .slice none 0 0, .slice none 0 0]) ?_ 0 _ rfl; refine zP12 ?_; exact BK239.out) Try.underlying45 rfl (by kernel_rfl)) rfl ?_
      exact ⟨_, _, zE12, by (with_reducible repeat (first | apply Kd.R_alloc | apply Kd.R_drewN | apply Kd.R_drew)); exact Kd.R_mono (Kd.R_far (p := ⟨gb239, 2, none⟩) (Kd.R_far (p := ⟨gb239, 1, none⟩) (Kd.R_far (p := ⟨gb239, 0, none⟩) (Kd.R_types HO_248001.out BK239.out (by decide)) (fun _ hk => hk.2) (.string t240)) (fun _ hk => hk.2) (.slice Ao66 x248001_2.length co66)) (fun _ hk => hk.2) (.slice Ao15 t244.length co15)) (fun _ hk => trivial), by (with_reducible repeat (first | apply Kd.R_alloc | apply Kd.R_drewN | apply Kd.R_drew)); exact Kd.R_mono (Kd.R_far (p := ⟨gb239, 2, none⟩) (Kd.R_far (p := ⟨gb239, 1, none⟩) (Kd.R_far (p := ⟨gb239, 0, none⟩) (Kd.R_types HO_248002.out BK239.out (by decide)) (fun _ hk => hk.2) (.string t240)) (fun _ hk => hk.2) (.slice Ao66 x248001_2.length co66)) (fun _ hk => hk.2) (.slice Ao15 t244.length co15)) (fun _ hk => trivial), zB12_3⟩
     rw [if_pos c31] at H
     have c31b0 : decide (x7_2 < (x248001_2.length : Int)) = true := decide_eq_true c31
     clear c31
     by_cases c32 : 0 ≤ x7_2
     rotate_left
     ·rw [if_neg c32] at H
      exact absurd H (by simp)
     rw [if_pos c32] at H
     have c32b0 : decide (0 ≤ x7_2) = true := decide_eq_true c32
     clear c32
     replace H := Option.bind_eq_some_iff.mp H
     obtain ⟨t252, A330, H⟩ := H
     replace H : (if t252 = true then ((spec_l27Ref.f k2 a0_0 l0_1 l0_2 x7_2).bind fun t253 => (if t253 < 0 then (spec_Moved.l0 k2 a1 (wrap64 (x7_2 + 1)) a0_0 l0_1 l0_2 t240 (x248001_2.set (x7_2 : Int).toNat (⟨(rd_T54 x248001_2 x7_2).f0, (rd_T54 x248001_2 x7_2).f1, (rd_T54 x248001_2 x7_2).f2, (rd_T54 x248001_2 x7_2).f3, wrap64 (((rd_T54 x248001_2 x7_2).f4) + a1)⟩ : S54)) t244) else (spec_Moved.l0 k2 a1 (wrap64 (x7_2 + 1)) a0_0 l0_1 l0_2 t240 x248001_2 t244))) else (spec_Moved.l0 k2 a1 (wrap64 (x7_2 + 1)) a0_0 l0_1 l0_2 t240 x248001_2 t244)) = some (r1, r2, r3, r4) := H
     have A33 := Aside0.mk A330
     clear A330
     by_cases c34 : t252 = true
     rotate_left
     ·replace c34 := Bool.eq_false_iff.mpr c34
      subst c34
      have H1 : (spec_Moved.l0 k2 a1 (wrap64 (x7_2 + 1)) a0_0 l0_1 l0_2 t240 x248001_2 t244) = some (r1, r2, r3, r4) := by rw [if_neg (show ¬ (false = true) by decide)] at H; exact H
      clear H
      have H := H1
      clear H1
      have H' := Aside0.mk H
      clear H
      have hnb56 := NB247_238.out
      have hnc56 := NB238_247.out
      have hnb57 := NB247_239.out
      have hnc57 := NB239_247.out
      obtain ⟨hcz58_0, hcz58_1, hcz58_2, hfz58_0, hfz58_1, hfz58_2⟩ := zc12_3 (w := wr) BK247.out
      obtain ⟨Ao59, co59, eo59⟩ := Kd.R_slice HO_248001.out
      subst eo59
      have p251 : 0 ≤ (x7_2 : Int) := zA12
      have q251 : x7_2 < (x248001_2.length : Int) := zA12
      obtain ⟨ad251, e251, hx251_0, hx251_1, hx251_2, hx251_3, hx251_4⟩ := at_T54 (Kd.R_reads' HO_248001.out).2.2 x7_2 p251 q251
      cases e251
      replace p251 := eq_true p251
      replace q251 := eq_true q251
      go_wp2_with (first | ((with_reducible refine gate_callee (f := 100) rfl ?_); refine goesL_ (some 31) rfl rfl Try.func100 (by kernel_rfl) rfl #[.agg #[.int .i64 ((rd_T54 x248001_2 x7_2).f0), .int .i64 ((rd_T54 x248001_2 x7_2).f1), .int .i64 ((rd_T54 x248001_2 x7_2).f2), .int .i64 ((rd_T54 x248001_2 x7_2).f3), .int .i64 ((rd_T54 x248001_2 x7_2).f4)]] rfl zT12 ?_; (with_reducible refine (spec_l27Goes.calls ((rd_T54 x248001_2 x7_2).f0) ((rd_T54 x248001_2 x7_2).f1) ((rd_T54 x248001_2 x7_2).f2) ((rd_T54 x248001_2 x7_2).f3) ((rd_T54 x248001_2 x7_2).f4) false _ A33.out).mono ?_); rintro e w60 ⟨rfl, hb⟩; refine ⟨_, rfl, ?_⟩; have n0_ := Aside0.mk (Kd.R_below (zR12 HO_248001.out) hb); have n1_ := Aside0.mk (Kd.R_below (zR12 HO_248002.out) hb); have n2_ := Aside0.mk (zb12 BK238.out hb); have n3_ := Aside0.mk (zb12 BK239.out hb); have n4_ := Aside0.mk (zb12 BK247.out hb); have n5_ := Aside0.mk (below_step (zB12_3) hb); clear HO_248001; clear HO_248002; clear BK238; clear BK239; clear BK247; clear HB; have HO_248001 := n0_; have HO_248002 := n1_; have BK238 := n2_; have BK239 := n3_; have BK247 := n4_; have HB := n5_; clear n0_ n1_ n2_ n3_ n4_ n5_; (try clear hb); (try clear hb2); (try clear hk); (try clear hi)))
      go_roundg k2
      case measure => have := HJ3.out; have := HK2.out; omega
      case rel => exact ⟨(wrap64 (x7_2 + 1)), (x248001_2), (.slice (some ad251) x248001_2.length co59), (by first | rfl | (simp; done) | (simp [*]; done)), H', ⟨by have := HJ3.out; have := HK2.out; omega⟩, ⟨zR12 HO_248001.out⟩, ⟨zR12 HO_248002.out⟩, ⟨zK12 BK238.out⟩, ⟨zK12 BK239.out⟩, ⟨zK12 BK247.out⟩, ⟨zB12_3⟩⟩
     subst c34
     have H1 : ((spec_l27Ref.f k2 a0_0 l0_1 l0_2 x7_2).bind fun t253 => (if t253 < 0 then (spec_Moved.l0 k2 a1 (wrap64 (x7_2 + 1)) a0_0 l0_1 l0_2 t240 (x248001_2.set (x7_2 : Int).toNat (⟨(rd_T54 x248001_2 x7_2).f0, (rd_T54 x248001_2 x7_2).f1, (rd_T54 x248001_2 x7_2).f2, (rd_T54 x248001_2 x7_2).f3, wrap64 (((rd_T54 x248001_2 x7_2).f4) + a1)⟩ : S54)) t244) else (spec_Moved.l0 k2 a1 (wrap64 (x7_2 + 1)) a0_0 l0_1 l0_2 t240 x248001_2 t244))) = some (r1, r2, r3, r4) := by rw [if_pos rfl] at H; exact H
     clear H
     have H := H1
     clear H1
     replace H := Option.bind_eq_some_iff.mp H
     obtain ⟨t253, A350, H⟩ := H
     replace H : (if t253 < 0 then (spec_Moved.l0 k2 a1 (wrap64 (x7_2 + 1)) a0_0 l0_1 l0_2 t240 (x248001_2.set (x7_2 : Int).toNat (⟨(rd_T54 x248001_2 x7_2).f0, (rd_T54 x248001_2 x7_2).f1, (rd_T54 x248001_2 x7_2).f2, (rd_T54 x248001_2 x7_2).f3, wrap64 (((rd_T54 x248001_2 x7_2).f4) + a1)⟩ : S54)) t244) else (spec_Moved.l0 k2 a1 (wrap64 (x7_2 + 1)) a0_0 l0_1 l0_2 t240 x248001_2 t244)) = some (r1, r2, r3, r4) := H
     have A35 := Aside0.mk A350
     clear A350
     by_cases c36 : t253 < 0
     rotate_left
     ·rw [if_neg c36] at H
      have c36b0 : decide (t253 < 0) = false := decide_eq_false c36
      clear c36
      have H' := Aside0.mk H
      clear H
      have hnb48 := NB247_238.out
      have hnc48 := NB238_247.out
      have hnb49 := NB247_239.out
      have hnc49 := NB239_247.out
      obtain ⟨hcz50_0, hcz50_1, hcz50_2, hfz50_0, hfz50_1, hfz50_2⟩ := zc12_3 (w := wr) BK247.out
      obtain ⟨Ao51, co51, eo51⟩ := Kd.R_slice HO_248001.out
      subst eo51
      have p251 : 0 ≤ (x7_2 : Int) := zA12
      have q251 : x7_2 < (x248001_2.length : Int) := zA12
      obtain ⟨ad251, e251, hx251_0, hx251_1, hx251_2, hx251_3, hx251_4⟩ := at_T54 (Kd.R_reads' HO_248001.out).2.2 x7_2 p251 q251
      cases e251
      replace p251 := eq_true p251
      replace q251 := eq_true q251
      go_wp2_with (first | ((with_reducible refine gate_callee (f := 100) rfl ?_); refine goesL_ (some 31) rfl rfl Try.func100 (by kernel_rfl) rfl #[.agg #[.int .i64 ((rd_T54 x248001_2 x7_2).f0), .int .i64 ((rd_T54 x248001_2 x7_2).f1), .int .i64 ((rd_T54 x248001_2 x7_2).f2), .int .i64 ((rd_T54 x248001_2 x7_2).f3), .int .i64 ((rd_T54 x248001_2 x7_2).f4)]] rfl zT12 ?_; (with_reducible refine (spec_l27Goes.calls ((rd_T54 x248001_2 x7_2).f0) ((rd_T54 x248001_2 x7_2).f1) ((rd_T54 x248001_2 x7_2).f2) ((rd_T54 x248001_2 x7_2).f3) ((rd_T54 x248001_2 x7_2).f4) true _ A33.out).mono ?_); rintro e w52 ⟨rfl, hb⟩; refine ⟨_, rfl, ?_⟩; have n0_ := Aside0.mk (Kd.R_below (zR12 HO_248001.out) hb); have n1_ := Aside0.mk (Kd.R_below (zR12 HO_248002.out) hb); have n2_ := Aside0.mk (zb12 BK238.out hb); have n3_ := Aside0.mk (zb12 BK239.out hb); have n4_ := Aside0.mk (zb12 BK247.out hb); have n5_ := Aside0.mk (below_step (zB12_3) hb); clear HO_248001; clear HO_248002; clear BK238; clear BK239; clear BK247; clear HB; have HO_248001 := n0_; have HO_248002 := n1_; have BK238 := n2_; have BK239 := n3_; have BK247 := n4_; have HB := n5_; clear n0_ n1_ n2_ n3_ n4_ n5_; (try clear hb); (try clear hb2); (try clear hk); (try clear hi); have hnb53 := NB238_239.out; have hnc53 := NB239_238.out; obtain ⟨hcz54_0, hcz54_1, hcz54_2, hfz54_0, hfz54_1, hfz54_2⟩ := zc12_3 (w := w52) BK238.out) | (go_at_call 101; (with_reducible refine (spec_l27Ref.calls k2 a0_0 _ _ l0_1 _ _ l0_2 x7_2 t253 _ ?side1 ?side2 ?side3 ?side4 A35.out).mono ?_); (case side1 => exact zC12 (Kd.C_below HR0_1.out HB.out)); (case side2 => exact HC0_1.out); (case side3 => exact zC12 (Kd.C_below HR0_2.out HB.out)); (case side4 => exact HC0_2.out); rintro e w55 ⟨rfl, hb⟩; have n0_ := Aside0.mk (Kd.R_below (zR12 HO_248001.out) hb); have n1_ := Aside0.mk (Kd.R_below (zR12 HO_248002.out) hb); have n2_ := Aside0.mk (zb12 BK238.out hb); have n3_ := Aside0.mk (zb12 BK239.out hb); have n4_ := Aside0.mk (zb12 BK247.out hb); have n5_ := Aside0.mk (below_step (zB12_3) hb); clear HO_248001; clear HO_248002; clear BK238; clear BK239; clear BK247; clear HB; have HO_248001 := n0_; have HO_248002 := n1_; have BK238 := n2_; have BK239 := n3_; have BK247 := n4_; have HB := n5_; clear n0_ n1_ n2_ n3_ n4_ n5_; (try clear hb); (try clear hb2); (try clear hk); (try clear hi)))
      go_roundg k2
      case measure => have := HJ3.out; have := HK2.out; omega
      case rel => exact ⟨(wrap64 (x7_2 + 1)), (x248001_2), (.slice (some ad251) x248001_2.length co51), (by first | rfl | (simp; done) | (simp [*]; done)), H', ⟨by have := HJ3.out; have := HK2.out; omega⟩, ⟨zR12 HO_248001.out⟩, ⟨zR12 HO_248002.out⟩, ⟨zK12 BK238.out⟩, ⟨zK12 BK239.out⟩, ⟨zK12 BK247.out⟩, ⟨zB12_3⟩⟩
     rw [if_pos c36] at H
     have c36b0 : decide (t253 < 0) = true := decide_eq_true c36
     clear c36
     obtain ⟨y255, hy255⟩ : ∃ y_ : List (S54), y_ = (x248001_2.set (x7_2 : Int).toNat (⟨(rd_T54 x248001_2 x7_2).f0, (rd_T54 x248001_2 x7_2).f1, (rd_T54 x248001_2 x7_2).f2, (rd_T54 x248001_2 x7_2).f3, wrap64 (((rd_T54 x248001_2 x7_2).f4) + a1)⟩ : S54)) := ⟨_, rfl⟩
     replace H : (spec_Moved.l0 k2 a1 (wrap64 (x7_2 + 1)) a0_0 l0_1 l0_2 t240 y255 t244) = some (r1, r2, r3, r4) := by first | (rw [hy255]; with_reducible exact H) | (have H2_ := (Option.bind_some _ _).symm.trans H; rw [hy255]; with_reducible exact H2_) | (have H2_ := (Option.bind_some _ _).symm.trans H; with_reducible exact H2_) | with_reducible exact H | (rw [hy255]; exact H) | exact H
     have Ny255 := Aside0.mk hy255
     clear hy255
     have H' := Aside0.mk H
     clear H
     have hnb38 := NB247_238.out
     have hnc38 := NB238_247.out
     have hnb39 := NB247_239.out
     have hnc39 := NB239_247.out
     obtain ⟨hcz40_0, hcz40_1, hcz40_2, hfz40_0, hfz40_1, hfz40_2⟩ := zc12_3 (w := wr) BK247.out
     obtain ⟨Ao41, co41, eo41⟩ := Kd.R_slice HO_248001.out
     subst eo41
     have p251 : 0 ≤ (x7_2 : Int) := zA12
     have q251 : x7_2 < (x248001_2.length : Int) := zA12
     obtain ⟨ad251, e251, hx251_0, hx251_1, hx251_2, hx251_3, hx251_4⟩ := at_T54 (Kd.R_reads' HO_248001.out).2.2 x7_2 p251 q251
     cases e251
     replace p251 := eq_true p251
     replace q251 := eq_true q251
     try go_wp2_with (first | ((with_reducible refine gate_callee (f := 100) rfl ?_); refine goesL_ (some 31) rfl rfl Try.func100 (by kernel_rfl) rfl #[.agg #[.int .i64 ((rd_T54 x248001_2 x7_2).f0), .int .i64 ((rd_T54 x248001_2 x7_2).f1), .int .i64 ((rd_T54 x248001_2 x7_2).f2), .int .i64 ((rd_T54 x248001_2 x7_2).f3), .int .i64 ((rd_T54 x248001_2 x7_2).f4)]] rfl zT12 ?_; (with_reducible refine (spec_l27Goes.calls ((rd_T54 x248001_2 x7_2).f0) ((rd_T54 x248001_2 x7_2).f1) ((rd_T54 x248001_2 x7_2).f2) ((rd_T54 x248001_2 x7_2).f3) ((rd_T54 x248001_2 x7_2).f4) true _ A33.out).mono ?_); rintro e w42 ⟨rfl, hb⟩; refine ⟨_, rfl, ?_⟩; have n0_ := Aside0.mk (Kd.R_below (zR12 HO_248001.out) hb); have n1_ := Aside0.mk (Kd.R_below (zR12 HO_248002.out) hb); have n2_ := Aside0.mk (zb12 BK238.out hb); have n3_ := Aside0.mk (zb12 BK239.out hb); have n4_ := Aside0.mk (zb12 BK247.out hb); have n5_ := Aside0.mk (below_step (zB12_3) hb); clear HO_248001; clear HO_248002; clear BK238; clear BK239; clear BK247; clear HB; have HO_248001 := n0_; have HO_248002 := n1_; have BK238 := n2_; have BK239 := n3_; have BK247 := n4_; have HB := n5_; clear n0_ n1_ n2_ n3_ n4_ n5_; (try clear hb); (try clear hb2); (try clear hk); (try clear hi); have hnb43 := NB238_239.out; have hnc43 := NB239_238.out; obtain ⟨hcz44_0, hcz44_1, hcz44_2, hfz44_0, hfz44_1, hfz44_2⟩ := zc12_3 (w := w42) BK238.out) | (go_at_call 101; (with_reducible refine (spec_l27Ref.calls k2 a0_0 _ _ l0_1 _ _ l0_2 x7_2 t253 _ ?side1 ?side2 ?side3 ?side4 A35.out).mono ?_); (case side1 => exact zC12 (Kd.C_below HR0_1.out HB.out)); (case side2 => exact HC0_1.out); (case side3 => exact zC12 (Kd.C_below HR0_2.out HB.out)); (case side4 => exact HC0_2.out); rintro e w45 ⟨rfl, hb⟩; have n0_ := Aside0.mk (Kd.R_below (zR12 HO_248001.out) hb); have n1_ := Aside0.mk (Kd.R_below (zR12 HO_248002.out) hb); have n2_ := Aside0.mk (zb12 BK238.out hb); have n3_ := Aside0.mk (zb12 BK239.out hb); have n4_ := Aside0.mk (zb12 BK247.out hb); have n5_ := Aside0.mk (below_step (zB12_3) hb); clear HO_248001; clear HO_248002; clear BK238; clear BK239; clear BK247; clear HB; have HO_248001 := n0_; have HO_248002 := n1_; have BK238 := n2_; have BK239 := n3_; have BK247 := n4_; have HB := n5_; clear n0_ n1_ n2_ n3_ n4_ n5_; (try clear hb); (try clear hb2); (try clear hk); (try clear hi)))
     have n0_ := Aside0.mk (Kd.R_drew HO_248001.out)
     have n1_ := Aside0.mk (Kd.R_drew HO_248002.out)
     have n2_ := Aside0.mk (blk_drew BK238.out)
     have n3_ := Aside0.mk (blk_drew BK239.out)
     have n4_ := Aside0.mk (blk_drew BK247.out)
     have n5_ := Aside0.mk (below_drew1 HB.out)
     clear HO_248001 HO_248002 BK238 BK239 BK247 HB
     have HO_248001 := n0_
     have HO_248002 := n1_
     have BK238 := n2_
     have BK239 := n3_
     have BK247 := n4_
     have HB := n5_
     clear n0_ n1_ n2_ n3_ n4_ n5_
     have p254 : 0 ≤ (x7_2 : Int) := zA12
     have q254 : x7_2 < (x248001_2.length : Int) := zA12
     obtain ⟨ad254, e254, hx254_0, hx254_1, hx254_2, hx254_3, hx254_4⟩ := at_T54 (Kd.R_reads' HO_248001.out).2.2 x7_2 p254 q254
     obtain rfl : ad251 = ad254 := (by injection e254)
     replace p254 := eq_true p254
     replace q254 := eq_true q254
     have p37 : 0 ≤ (x7_2 : Int) := zA12
     have q37 : (x7_2 : Int) < ((x248001_2.length : Int) : Int) := zA12
     obtain ⟨go37, co37, eo37, gb37, gl37, cl37, HG37⟩ := Kd.R_form HO_248001.out (by omega)
     (first | cases eo37 | (injection eo37 with ea_ en_ ec_; (first | subst ea_ | (injection ea_ with ea_; subst ea_)); subst ec_; clear en_))
     have GB37 := Aside0.mk gb37
     have GG37 := Aside0.mk HG37
     clear gb37 gl37 HG37
     (first | simp only [add_plain] at hx251_0 | skip)
     (first | simp only [add_plain] at hx251_1 | skip)
     (first | simp only [add_plain] at hx251_2 | skip)
     (first | simp only [add_plain] at hx251_3 | skip)
     (first | simp only [add_plain] at hx251_4 | skip)
     (first | simp only [add_plain] at hx254_0 | skip)
     (first | simp only [add_plain] at hx254_1 | skip)
     (first | simp only [add_plain] at hx254_2 | skip)
     (first | simp only [add_plain] at hx254_3 | skip)
     (first | simp only [add_plain] at hx254_4 | skip)
     obtain ⟨ce37, hcl37, hM37, hcc37, hfr37⟩ := Kd.R_elem HO_248001.out z54 (x7_2 : Int) p37 q37
     obtain rfl := k54_openM hM37
     have hx37_0 : World.cell? _ ⟨go37, (x7_2 : Int).toNat * 5, none⟩ = some (.int .i64 ((rd_T54 x248001_2 x7_2).f0)) := hcc37 0 _ rfl
     have hx37_1 : World.cell? _ ⟨go37, (x7_2 : Int).toNat * 5 + 1, none⟩ = some (.int .i64 ((rd_T54 x248001_2 x7_2).f1)) := hcc37 1 _ rfl
     have hx37_2 : World.cell? _ ⟨go37, (x7_2 : Int).toNat * 5 + 2, none⟩ = some (.int .i64 ((rd_T54 x248001_2 x7_2).f2)) := hcc37 2 _ rfl
     have hx37_3 : World.cell? _ ⟨go37, (x7_2 : Int).toNat * 5 + 3, none⟩ = some (.int .i64 ((rd_T54 x248001_2 x7_2).f3)) := hcc37 3 _ rfl
     have hx37_4 : World.cell? _ ⟨go37, (x7_2 : Int).toNat * 5 + 4, none⟩ = some (.int .i64 ((rd_T54 x248001_2 x7_2).f4)) := hcc37 4 _ rfl
     have hf37_0 : World.frozen? _ ⟨go37, (x7_2 : Int).toNat * 5, none⟩ = false := hfr37 0
     have hf37_1 : World.frozen? _ ⟨go37, (x7_2 : Int).toNat * 5 + 1, none⟩ = false := hfr37 1
     have hf37_2 : World.frozen? _ ⟨go37, (x7_2 : Int).toNat * 5 + 2, none⟩ = false := hfr37 2
     have hf37_3 : World.frozen? _ ⟨go37, (x7_2 : Int).toNat * 5 + 3, none⟩ = false := hfr37 3
     have hf37_4 : World.frozen? _ ⟨go37, (x7_2 : Int).toNat * 5 + 4, none⟩ = false := hfr37 4
     clear hcl37 hcc37 hfr37 hM37
     replace p37 := eq_true p37
     replace q37 := eq_true q37
     obtain ⟨ce47, hcl47, hM47, hcc47, hfr47⟩ := Kd.R_elem HO_248001.out z54 (x7_2 : Int) (zA12) (by have h_ : (x7_2 : Int) < ((x248001_2.length : Int) : Int) := zA12; first | exact h_ | (have e_ := (Kd.R_reads' HO_248001.out).1; omega) | simpa using h_)
     obtain rfl := k54_openM hM47
     have HP47 := (Kd.R_seg HO_248001.out (x7_2 : Int) (zA12) (by have h_ : (x7_2 : Int) < ((x248001_2.length : Int) : Int) := zA12; first | exact h_ | (have e_ := (Kd.R_reads' HO_248001.out).1; omega) | simpa using h_) (seg := [.int .i64 (wrap64 (((rd_T54 x248001_2 x7_2).f4) + a1))]) (j := 4) hcl47 hcc47 (show 5 ≤ 5 from by decide) (x' := (⟨(rd_T54 x248001_2 x7_2).f0, (rd_T54 x248001_2 x7_2).f1, (rd_T54 x248001_2 x7_2).f2, (rd_T54 x248001_2 x7_2).f3, wrap64 (((rd_T54 x248001_2 x7_2).f4) + a1)⟩ : S54)) (k54_mkM _ _ _ (⟨(rd_T54 x248001_2 x7_2).f0, (rd_T54 x248001_2 x7_2).f1, (rd_T54 x248001_2 x7_2).f2, (rd_T54 x248001_2 x7_2).f3, wrap64 (((rd_T54 x248001_2 x7_2).f4) + a1)⟩ : S54) ) (fun _ hk => hk)).1
     rw [← Ny255.out] at HP47
     have HQ47 := Aside0.mk HP47
     clear hcl47 hcc47 hfr47 hM47 HP47
     refine start_ (n := 14) (S := fun w' => w'.cell? ⟨gb247, 0, none⟩ = some (.string t240) ∧ w'.cell? ⟨gb247, 1, none⟩ = some (.slice (some ⟨go37, 0, none⟩) x248001_2.length co41) ∧ w'.cell? ⟨gb247, 2, none⟩ = some (.slice Ao15 t244.length co15) ∧ w'.cell? ⟨go37, ((x7_2).toNat * 5), none⟩ = some (.int .i64 ((rd_T54 x248001_2 x7_2).f0)) ∧ w'.cell? ⟨go37, ((x7_2).toNat * 5) + 1, none⟩ = some (.int .i64 ((rd_T54 x248001_2 x7_2).f1)) ∧ w'.cell? ⟨go37, ((x7_2).toNat * 5) + 2, none⟩ = some (.int .i64 ((rd_T54 x248001_2 x7_2).f2)) ∧ w'.cell? ⟨go37, ((x7_2).toNat * 5) + 3, none⟩ = some (.int .i64 ((rd_T54 x248001_2 x7_2).f3)) ∧ w'.cell? ⟨go37, ((x7_2).toNat * 5) + 4, none⟩ = some (.int .i64 ((rd_T54 x248001_2 x7_2).f4))) (ds := [13]) #[false, false, false, false, false, false, false, false, false, false, false, false, false, false] (by kernel_rfl) rfl rfl ⟨(blk_cell BK247.out 0).trans rfl, (blk_cell BK247.out 1).trans rfl, (blk_cell BK247.out 2).trans rfl, hx254_0, hx254_1, hx254_2, hx254_3, hx254_4⟩ (fun hHeld => ?_); refine with_tabW spec_Moved.tab8 spec_Moved.bits8 (fun HT_ HW_ => ?_)
     generalize w45.drew = w46 at HO_248001 HO_248002 BK238 BK239 BK247 HB GG37 HQ47 hf37_0 hf37_1 hf37_2 hf37_3 hf37_4 hx251_0 hx251_1 hx251_2 hx251_3 hx251_4 hx254_0 hx254_1 hx254_2 hx254_3 hx254_4 hx37_0 hx37_1 hx37_2 hx37_3 hx37_4 hHeld ⊢
     refine pure_ (i := 0) (N := some 38) (v := ?_) (a' := ?_) #[true, false, false, false, false, false, false, false, false, false, false, false, false, false] rfl rfl (any_of HT_.out (by kernel_rfl)) (fun _ _ _ h => h) (Or.inl ⟨by rfl, ?_⟩) ?_ ?_
     rotate_left
     ·intro w'
      go_simp
      with_reducible rfl
     rotate_left
     ·exact zV12
     refine pure_ (i := 2) (N := some 40) (v := ?_) (a' := ?_) #[true, false, true, false, false, false, false, false, false, false, false, false, false, false] rfl rfl (any_of HT_.out (by kernel_rfl)) (fun _ _ _ h => h) (Or.inl ⟨by rfl, ?_⟩) ?_ ?_
     rotate_left
     ·intro w'
      go_simp
      with_reducible rfl
     rotate_left
     ·exact zV12
     refine pure_ (i := 3) (N := some 41) (v := ?_) (a' := ?_) #[true, false, true, true, false, false, false, false, false, false, false, false, false, false] rfl rfl (any_of HT_.out (by kernel_rfl)) (fun _ _ _ h => h) (Or.inl ⟨by rfl, ?_⟩) ?_ ?_
     rotate_left
     ·intro w'
      go_simp
      with_reducible rfl
     rotate_left
     ·exact zV12
     refine pure_ (i := 5) (N := some 43) (v := ?_) (a' := ?_) #[true, false, true, true, false, true, false, false, false, false, false, false, false, false] rfl rfl (any_of HT_.out (by kernel_rfl)) (fun _ _ _ h => h) (Or.inl ⟨by rfl, ?_⟩) ?_ ?_
     rotate_left
     ·intro w'
      go_simp
      with_reducible rfl
     rotate_left
     ·exact zV12
     refine pure_ (i := 9) (N := some 47) (v := ?_) (a' := ?_) #[true, false, true, true, false, true, false, false, false, true, false, false, false, false] rfl rfl (any_of HT_.out (by kernel_rfl)) (fun _ _ _ h => h) (Or.inl ⟨by rfl, ?_⟩) ?_ ?_
     rotate_left
     ·intro w'
      go_simp
      with_reducible rfl
     rotate_left
     ·exact zV12
     refine take_ (i := 1) (N := some 39) (v := ?_) (a' := ?_) #[true, true, true, true, false, true, false, false, false, true, false, false, false, false] rfl rfl (take_ofW HT_.out HW_.out (by kernel_rfl)) (fun _ _ _ h => h) (Or.inl ⟨by rfl, ?_⟩) hHeld ?_ ?_
     rotate_left
     ·rintro w' ⟨s0, s1, s2, s3, s4, s5, s6, s7⟩
      go_simp
      with_reducible rfl
     rotate_left
     ·exact zV12
     refine take_ (i := 4) (N := some 42) (v := ?_) (a' := ?_) #[true, true, true, true, true, true, false, false, false, true, false, false, false, false] rfl rfl (take_ofW HT_.out HW_.out (by kernel_rfl)) (fun _ _ _ h => h) (Or.inl ⟨by rfl, ?_⟩) hHeld ?_ ?_
     rotate_left
     ·rintro w' ⟨s0, s1, s2, s3, s4, s5, s6, s7⟩
      go_simp
      with_reducible rfl
     rotate_left
     ·exact zV12
     refine pure_ (i := 6) (N := some 44) (v := ?_) (a' := ?_) #[true, true, true, true, true, true, true, false, false, true, false, false, false, false] rfl rfl (any_of HT_.out (by kernel_rfl)) (fun _ _ _ h => h) (Or.inl ⟨by rfl, ?_⟩) ?_ ?_
     rotate_left
     ·intro w'
      go_simp
      with_reducible rfl
     rotate_left
     ·exact zV12
     refine pure_ (i := 7) (N := some 45) (v := ?_) (a' := ?_) #[true, true, true, true, true, true, true, true, false, true, false, false, false, false] rfl rfl (any_of HT_.out (by kernel_rfl)) (fun _ _ _ h => h) (Or.inl ⟨by rfl, ?_⟩) ?_ ?_
     rotate_left
     ·intro w'
      go_simp
      with_reducible rfl
     rotate_left
     ·exact zV12
     refine take_ (i := 8) (N := some 46) (v := ?_) (a' := ?_) #[true, true, true, true, true, true, true, true, true, true, false, false, false, false] rfl rfl (take_ofW HT_.out HW_.out (by kernel_rfl)) (fun _ _ _ h => h) (Or.inl ⟨by rfl, ?_⟩) hHeld ?_ ?_
     rotate_left
     ·rintro w' ⟨s0, s1, s2, s3, s4, s5, s6, s7⟩
      go_simp
      with_reducible rfl
     rotate_left
     ·exact zV12
     refine pure_ (i := 10) (N := some 48) (v := ?_) (a' := ?_) #[true, true, true, true, true, true, true, true, true, true, true, false, false, false] rfl rfl (any_of HT_.out (by kernel_rfl)) (fun _ _ _ h => h) (Or.inl ⟨by rfl, ?_⟩) ?_ ?_
     rotate_left
     ·intro w'
      go_simp
      with_reducible rfl
     rotate_left
     ·exact zV12
     refine pure_ (i := 11) (N := some 49) (v := ?_) (a' := ?_) #[true, true, true, true, true, true, true, true, true, true, true, true, false, false] rfl rfl (any_of HT_.out (by kernel_rfl)) (fun _ _ _ h => h) (Or.inl ⟨by rfl, ?_⟩) ?_ ?_
     rotate_left
     ·intro w'
      go_simp
      with_reducible rfl
     rotate_left
     ·exact zV12
     refine pure_ (i := 12) (N := some 50) (v := ?_) (a' := ?_) #[true, true, true, true, true, true, true, true, true, true, true, true, true, false] rfl rfl (any_of HT_.out (by kernel_rfl)) (fun _ _ _ h => h) (Or.inl ⟨by rfl, ?_⟩) ?_ ?_
     rotate_left
     ·intro w'
      go_simp
      with_reducible rfl
     rotate_left
     ·exact zV12
     refine last_ (i := 13) (N := none) #[true, true, true, true, true, true, true, true, true, true, true, true, true, true] rfl rfl (one_of HT_.out (by kernel_rfl)) (by decide) (fun K hK => ?_)
     refine skip_ (w1 := ?_) (by rfl) rfl ?_ ?_
     rotate_left
     ·go_simp
      rfl
     refine hK.out _ _ ?_
     clear hK K
     refine done_ (done_of HT_.out (by kernel_rfl)) ?_
     try go_wp2
     go_roundg k2
     case measure => have := HJ3.out; have := HK2.out; omega
     case rel => exact ⟨(wrap64 (x7_2 + 1)), (y255), (.slice (some ⟨go37, 0, none⟩) x248001_2.length co41), (by first | rfl | (simp; done) | (simp [*]; done)), H', ⟨by have := HJ3.out; have := HK2.out; omega⟩, ⟨zR12 HQ47.out⟩, ⟨by (with_reducible repeat (first | apply Kd.R_alloc | apply Kd.R_drewN | apply Kd.R_drew)); exact Kd.R_mono (Kd.R_far (p := ⟨go37, (x7_2 : Int).toNat * 5 + 4, none⟩) (Kd.R_types HO_248002.out GG37.out (by decide)) (fun _ hk => hk.2) (.int .i64 (wrap64 (((rd_T54 x248001_2 x7_2).f4) + a1)))) (fun _ hk => trivial)⟩, ⟨by refine zP12 ?_; refine blk_far ?_ (by have h_ := Kd.R_ne HO_248001.out BK238.out (by decide); intro e_; exact h_ (by rw [e_]; rfl)) _; refine zP12 ?_; exact BK238.out⟩, ⟨by refine zP12 ?_; refine blk_far ?_ (by have h_ := Kd.R_ne HO_248001.out BK239.out (by decide); intro e_; exact h_ (by rw [e_]; rfl)) _; refine zP12 ?_; exact BK239.out⟩, ⟨by refine zP12 ?_; refine blk_far ?_ (by have h_ := Kd.R_ne HO_248001.out BK247.out (by decide); intro e_; exact h_ (by rw [e_]; rfl)) _; refine zP12 ?_; exact BK247.out⟩, ⟨zB12_4⟩⟩

/-! ### laws_markInsS: function 135 -/
def laws_markInsS.l0 : Nat → List (S54) → Int → Int → Option (Int × (List (S54)))
 | 0, _, _, _ => none
 | k + 1, x0, x1, x5 => if x5 < (x0.length : Int) then (if 0 ≤ x5 then ((some (x0.set (x5 : Int).toNat (⟨x1, (rd_T54 x0 x5).f1, (rd_T54 x0 x5).f2, (rd_T54 x0 x5).f3, (rd_T54 x0 x5).f4⟩ : S54) : List (S54))).bind fun y256 => ((some (y256.set (x5 : Int).toNat (⟨(rd_T54 y256 x5).f0, wrap64 (x1 + 1), (rd_T54 y256 x5).f2, (rd_T54 y256 x5).f3, (rd_T54 y256 x5).f4⟩ : S54) : List (S54))).bind fun y257 => ((some (y257.set (x5 : Int).toNat (⟨(rd_T54 y257 x5).f0, (rd_T54 y257 x5).f1, wrap64 ((wrap64 (x1 + 1)) + 1), (rd_T54 y257 x5).f3, (rd_T54 y257 x5).f4⟩ : S54) : List (S54))).bind fun y258 => ((some (y258.set (x5 : Int).toNat (⟨(rd_T54 y258 x5).f0, (rd_T54 y258 x5).f1, (rd_T54 y258 x5).f2, wrap64 ((wrap64 ((wrap64 (x1 + 1)) + 1)) + 1), (rd_T54 y258 x5).f4⟩ : S54) : List (S54))).bind fun y259 => (laws_markInsS.l0 k (y259.set (x5 : Int).toNat (⟨(rd_T54 y259 x5).f0, (rd_T54 y259 x5).f1, (rd_T54 y259 x5).f2, (rd_T54 y259 x5).f3, wrap64 ((wrap64 ((wrap64 ((wrap64 (x1 + 1)) + 1)) + 1)) + 1)⟩ : S54)) (wrap64 ((wrap64 ((wrap64 ((wrap64 ((wrap64 (x1 + 1)) + 1)) + 1)) + 1)) + 1)) (wrap64 (x5 + 1))))))) else (none)) else (some (x1, x0))
def laws_markInsS.f (k : Nat) (l0 : List (S54)) (a1 : Int) : Option (Int × (List (S54))) := laws_markInsS.l0 k l0 a1 0
theorem laws_markInsS.mono_l : ∀ k, (∀ y0 y1 y2, LeO (laws_markInsS.l0 k y0 y1 y2) (laws_markInsS.l0 (k + 1) y0 y1 y2))
 | 0 => fun _ _ _ r h => by simp [laws_markInsS.l0] at h
 | k + 1 => by
  have ih0 := laws_markInsS.mono_l k
  ·intro y0 y1 y2
   unfold laws_markInsS.l0
   repeat' first
   | (with_reducible exact ih0 _ _ _)
   | (with_reducible exact LeO.refl _)
   | (with_reducible exact LeO.none _)
   | (with_reducible refine LeO.ite ?_ ?_)
   | (with_reducible refine LeO.bind ?_ (fun _ => ?_))
   | exact ih0 _ _ _
   | exact LeO.none _
   | refine LeO.ite ?_ ?_
   | refine LeO.bind ?_ (fun _ => ?_)
theorem laws_markInsS.mono : ∀ a0 a1 k, LeO (laws_markInsS.f k a0 a1) (laws_markInsS.f (k + 1) a0 a1) := by
 intro a0 a1 k
 have ih0 := laws_markInsS.mono_l k
 unfold laws_markInsS.f
 repeat' first
   | (with_reducible exact ih0 _ _ _)
   | (with_reducible exact LeO.refl _)
   | (with_reducible exact LeO.none _)
   | (with_reducible refine LeO.ite ?_ ?_)
   | (with_reducible refine LeO.bind ?_ (fun _ => ?_))
   | exact ih0 _ _ _
   | exact LeO.none _
   | refine LeO.ite ?_ ?_
   | refine LeO.bind ?_ (fun _ => ?_)
set_option maxHeartbeats 8000000 in
set_option maxRecDepth 100000 in
theorem laws_markInsS.calls (k : Nat) (P0_ : Nat → Prop) (u9000_ : Value) (l0 : List (S54)) (a1 : Int) (r1 : Int) (r2 : List (S54)) (w0 w : World) (hB : Below w0.heap.size w0 w) (ho0 : Kd.R k54 54 w w0.heap.size P0_ u9000_ l0) (h : laws_markInsS.f k l0 a1 = some (r1, r2)) :
  Calls Try.prog 135 #[u9000_, .int .i64 a1] w fun e w' => e = .returned (.int .i64 r1) ∧ Kd.R k54 54 w' w0.heap.size (fun k_ => (P0_ k_ ∨ w.heap.size ≤ k_)) u9000_ r2 ∧ Below w0.heap.size w0 w' ∧ Kept w w' (fun k_ => P0_ k_) := by
 have HO0 := Aside0.mk (show Kd.R k54 54 w w0.heap.size (fun k_ => (P0_ k_ ∨ w.heap.size ≤ k_)) u9000_ l0 from Kd.R_mono ho0 (fun k_ hk => (.inl hk)))
 have HK := Aside0.mk (Kept.refl w (fun k_ => P0_ k_))
 have HW0 := Aside0.mk hB.size
 have HB := Aside0.mk hB
 clear hB
 have H : (laws_markInsS.l0 k l0 a1 0) = some (r1, r2) := h
 clear h
 have H' := Aside0.mk H
 clear H
 go_enter Try.func135, Try.ntmps135
 go_wp2
 go_loopg [1, 5] k (fun kq v1 v5 w' => ∃ (x0_1 : List (S54)) (x1_1 : Int) (x5_1 : Int), v1 = .int .i64 x1_1 ∧ v5 = .int .i64 x5_1 ∧ Aside0 (laws_markInsS.l0 kq x0_1 x1_1 x5_1 = some (r1, r2)) ∧ Aside0 (kq ≤ k) ∧ Aside0 (Kd.R k54 54 w' w0.heap.size (fun k_ => (P0_ k_ ∨ w.heap.size ≤ k_)) u9000_ x0_1) ∧ Aside0 (Kept w w' (fun k_ => P0_ k_)) ∧ Aside0 (Below w0.heap.size w0 w'))
 case atStart => exact ⟨(l0), (a1), (0), (by first | rfl | (simp; done) | (simp [*]; done)), (by first | rfl | (simp; done) | (simp [*]; done)), H', ⟨Nat.le_refl _⟩, ⟨zR12 HO0.out⟩, ⟨zB12_5⟩, ⟨zB12_0⟩⟩
 case round =>
  clear H'
  try clear c1
  try clear p2
  obtain ⟨x0_1, x1_1, x5_1, rfl, rfl, HA, HK1, HO_0, HK, HB⟩ := hrel
  cases gk with
  | zero => exact absurd HA.out (by simp [laws_markInsS.l0])
  | succ k1 =>
   have H := HA.out
   clear HA
   simp only [laws_markInsS.l0] at H
   by_cases c3 : x5_1 < (x0_1.length : Int)
   rotate_left
   ·rw [if_neg c3] at H
    have c3b0 : decide (x5_1 < (x0_1.length : Int)) = false := decide_eq_false c3
    clear c3
    simp only [Option.some.injEq, Prod.mk.injEq] at H
    obtain ⟨rfl, rfl⟩ := H
    obtain ⟨Ao21, co21, eo21⟩ := Kd.R_slice HO_0.out
    subst eo21
    go_wp2
    go_ret
    exact ⟨zE12, zR12 HO_0.out, zB12_0, zB12_5⟩
   rw [if_pos c3] at H
   have c3b0 : decide (x5_1 < (x0_1.length : Int)) = true := decide_eq_true c3
   clear c3
   by_cases c4 : 0 ≤ x5_1
   rotate_left
   ·rw [if_neg c4] at H
    exact absurd H (by simp)
   rw [if_pos c4] at H
   have c4b0 : decide (0 ≤ x5_1) = true := decide_eq_true c4
   clear c4
   obtain ⟨y256, hy256⟩ : ∃ y_ : List (S54), y_ = (x0_1.set (x5_1 : Int).toNat (⟨x1_1, (rd_T54 x0_1 x5_1).f1, (rd_T54 x0_1 x5_1).f2, (rd_T54 x0_1 x5_1).f3, (rd_T54 x0_1 x5_1).f4⟩ : S54)) := ⟨_, rfl⟩
   replace H : ((some (y256.set (x5_1 : Int).toNat (⟨(rd_T54 y256 x5_1).f0, wrap64 (x1_1 + 1), (rd_T54 y256 x5_1).f2, (rd_T54 y256 x5_1).f3, (rd_T54 y256 x5_1).f4⟩ : S54) : List (S54))).bind fun y257 => ((some (y257.set (x5_1 : Int).toNat (⟨(rd_T54 y257 x5_1).f0, (rd_T54 y257 x5_1).f1, wrap64 ((wrap64 (x1_1 + 1)) + 1), (rd_T54 y257 x5_1).f3, (rd_T54 y257 x5_1).f4⟩ : S54) : List (S54))).bind fun y258 => ((some (y258.set (x5_1 : Int).toNat (⟨(rd_T54 y258 x5_1).f0, (rd_T54 y258 x5_1).f1, (rd_T54 y258 x5_1).f2, wrap64 ((wrap64 ((wrap64 (x1_1 + 1)) + 1)) + 1), (rd_T54 y258 x5_1).f4⟩ : S54) : List (S54))).bind fun y259 => (laws_markInsS.l0 k1 (y259.set (x5_1 : Int).toNat (⟨(rd_T54 y259 x5_1).f0, (rd_T54 y259 x5_1).f1, (rd_T54 y259 x5_1).f2, (rd_T54 y259 x5_1).f3, wrap64 ((wrap64 ((wrap64 ((wrap64 (x1_1 + 1)) + 1)) + 1)) + 1)⟩ : S54)) (wrap64 ((wrap64 ((wrap64 ((wrap64 ((wrap64 (x1_1 + 1)) + 1)) + 1)) + 1)) + 1)) (wrap64 (x5_1 + 1)))))) = some (r1, r2) := by first | (rw [hy256]; with_reducible exact H) | (have H2_ := (Option.bind_some _ _).symm.trans H; rw [hy256]; with_reducible exact H2_) | (have H2_ := (Option.bind_some _ _).symm.trans H; with_reducible exact H2_) | with_reducible exact H | (rw [hy256]; exact H) | exact H
   have Ny256 := Aside0.mk hy256
   clear hy256
   obtain ⟨y257, hy257⟩ : ∃ y_ : List (S54), y_ = (y256.set (x5_1 : Int).toNat (⟨(rd_T54 y256 x5_1).f0, wrap64 (x1_1 + 1), (rd_T54 y256 x5_1).f2, (rd_T54 y256 x5_1).f3, (rd_T54 y256 x5_1).f4⟩ : S54)) := ⟨_, rfl⟩
   replace H : ((some (y257.set (x5_1 : Int).toNat (⟨(rd_T54 y257 x5_1).f0, (rd_T54 y257 x5_1).f1, wrap64 ((wrap64 (x1_1 + 1)) + 1), (rd_T54 y257 x5_1).f3, (rd_T54 y257 x5_1).f4⟩ : S54) : List (S54))).bind fun y258 => ((some (y258.set (x5_1 : Int).toNat (⟨(rd_T54 y258 x5_1).f0, (rd_T54 y258 x5_1).f1, (rd_T54 y258 x5_1).f2, wrap64 ((wrap64 ((wrap64 (x1_1 + 1)) + 1)) + 1), (rd_T54 y258 x5_1).f4⟩ : S54) : List (S54))).bind fun y259 => (laws_markInsS.l0 k1 (y259.set (x5_1 : Int).toNat (⟨(rd_T54 y259 x5_1).f0, (rd_T54 y259 x5_1).f1, (rd_T54 y259 x5_1).f2, (rd_T54 y259 x5_1).f3, wrap64 ((wrap64 ((wrap64 ((wrap64 (x1_1 + 1)) + 1)) + 1)) + 1)⟩ : S54)) (wrap64 ((wrap64 ((wrap64 ((wrap64 ((wrap64 (x1_1 + 1)) + 1)) + 1)) + 1)) + 1)) (wrap64 (x5_1 + 1))))) = some (r1, r2) := by first | (rw [hy257]; with_reducible exact H) | (have H2_ := (Option.bind_some _ _).symm.trans H; rw [hy257]; with_reducible exact H2_) | (have H2_ := (Option.bind_some _ _).symm.trans H; with_reducible exact H2_) | with_reducible exact H | (rw [hy257]; exact H) | exact H
   have Ny257 := Aside0.mk hy257
   clear hy257
   obtain ⟨y258, hy258⟩ : ∃ y_ : List (S54), y_ = (y257.set (x5_1 : Int).toNat (⟨(rd_T54 y257 x5_1).f0, (rd_T54 y257 x5_1).f1, wrap64 ((wrap64 (x1_1 + 1)) + 1), (rd_T54 y257 x5_1).f3, (rd_T54 y257 x5_1).f4⟩ : S54)) := ⟨_, rfl⟩
   replace H : ((some (y258.set (x5_1 : Int).toNat (⟨(rd_T54 y258 x5_1).f0, (rd_T54 y258 x5_1).f1, (rd_T54 y258 x5_1).f2, wrap64 ((wrap64 ((wrap64 (x1_1 + 1)) + 1)) + 1), (rd_T54 y258 x5_1).f4⟩ : S54) : List (S54))).bind fun y259 => (laws_markInsS.l0 k1 (y259.set (x5_1 : Int).toNat (⟨(rd_T54 y259 x5_1).f0, (rd_T54 y259 x5_1).f1, (rd_T54 y259 x5_1).f2, (rd_T54 y259 x5_1).f3, wrap64 ((wrap64 ((wrap64 ((wrap64 (x1_1 + 1)) + 1)) + 1)) + 1)⟩ : S54)) (wrap64 ((wrap64 ((wrap64 ((wrap64 ((wrap64 (x1_1 + 1)) + 1)) + 1)) + 1)) + 1)) (wrap64 (x5_1 + 1)))) = some (r1, r2) := by first | (rw [hy258]; with_reducible exact H) | (have H2_ := (Option.bind_some _ _).symm.trans H; rw [hy258]; with_reducible exact H2_) | (have H2_ := (Option.bind_some _ _).symm.trans H; with_reducible exact H2_) | with_reducible exact H | (rw [hy258]; exact H) | exact H
   have Ny258 := Aside0.mk hy258
   clear hy258
   obtain ⟨y259, hy259⟩ : ∃ y_ : List (S54), y_ = (y258.set (x5_1 : Int).toNat (⟨(rd_T54 y258 x5_1).f0, (rd_T54 y258 x5_1).f1, (rd_T54 y258 x5_1).f2, wrap64 ((wrap64 ((wrap64 (x1_1 + 1)) + 1)) + 1), (rd_T54 y258 x5_1).f4⟩ : S54)) := ⟨_, rfl⟩
   replace H : (laws_markInsS.l0 k1 (y259.set (x5_1 : Int).toNat (⟨(rd_T54 y259 x5_1).f0, (rd_T54 y259 x5_1).f1, (rd_T54 y259 x5_1).f2, (rd_T54 y259 x5_1).f3, wrap64 ((wrap64 ((wrap64 ((wrap64 (x1_1 + 1)) + 1)) + 1)) + 1)⟩ : S54)) (wrap64 ((wrap64 ((wrap64 ((wrap64 ((wrap64 (x1_1 + 1)) + 1)) + 1)) + 1)) + 1)) (wrap64 (x5_1 + 1))) = some (r1, r2) := by first | (rw [hy259]; with_reducible exact H) | (have H2_ := (Option.bind_some _ _).symm.trans H; rw [hy259]; with_reducible exact H2_) | (have H2_ := (Option.bind_some _ _).symm.trans H; with_reducible exact H2_) | with_reducible exact H | (rw [hy259]; exact H) | exact H
   have Ny259 := Aside0.mk hy259
   clear hy259
   obtain ⟨y260, hy260⟩ : ∃ y_ : List (S54), y_ = (y259.set (x5_1 : Int).toNat (⟨(rd_T54 y259 x5_1).f0, (rd_T54 y259 x5_1).f1, (rd_T54 y259 x5_1).f2, (rd_T54 y259 x5_1).f3, wrap64 ((wrap64 ((wrap64 ((wrap64 (x1_1 + 1)) + 1)) + 1)) + 1)⟩ : S54)) := ⟨_, rfl⟩
   replace H : (laws_markInsS.l0 k1 y260 (wrap64 ((wrap64 ((wrap64 ((wrap64 ((wrap64 (x1_1 + 1)) + 1)) + 1)) + 1)) + 1)) (wrap64 (x5_1 + 1))) = some (r1, r2) := by first | (rw [hy260]; with_reducible exact H) | (have H2_ := (Option.bind_some _ _).symm.trans H; rw [hy260]; with_reducible exact H2_) | (have H2_ := (Option.bind_some _ _).symm.trans H; with_reducible exact H2_) | with_reducible exact H | (rw [hy260]; exact H) | exact H
   have Ny260 := Aside0.mk hy260
   clear hy260
   have H' := Aside0.mk H
   clear H
   obtain ⟨Ao10, co10, eo10⟩ := Kd.R_slice HO_0.out
   subst eo10
   have p5 : 0 ≤ (x5_1 : Int) := zA12
   have q5 : (x5_1 : Int) < ((x0_1.length : Int) : Int) := zA12
   obtain ⟨go5, co5, eo5, gb5, gl5, cl5, HG5⟩ := Kd.R_form HO_0.out (by omega)
   (first | cases eo5 | (injection eo5 with ea_ en_ ec_; (first | subst ea_ | (injection ea_ with ea_; subst ea_)); subst ec_; clear en_))
   have GB5 := Aside0.mk gb5
   have GG5 := Aside0.mk HG5
   clear gb5 gl5 HG5
   have HMgo5 := Aside0.mk (show (P0_ go5 ∨ w.heap.size ≤ go5) from (HO_0.out.1 _ rfl))
   obtain ⟨ce5, hcl5, hM5, hcc5, hfr5⟩ := Kd.R_elem HO_0.out z54 (x5_1 : Int) p5 q5
   obtain rfl := k54_openM hM5
   have hx5_0 : wr.cell? ⟨go5, (x5_1 : Int).toNat * 5, none⟩ = some (.int .i64 ((rd_T54 x0_1 x5_1).f0)) := hcc5 0 _ rfl
   have hx5_1 : wr.cell? ⟨go5, (x5_1 : Int).toNat * 5 + 1, none⟩ = some (.int .i64 ((rd_T54 x0_1 x5_1).f1)) := hcc5 1 _ rfl
   have hx5_2 : wr.cell? ⟨go5, (x5_1 : Int).toNat * 5 + 2, none⟩ = some (.int .i64 ((rd_T54 x0_1 x5_1).f2)) := hcc5 2 _ rfl
   have hx5_3 : wr.cell? ⟨go5, (x5_1 : Int).toNat * 5 + 3, none⟩ = some (.int .i64 ((rd_T54 x0_1 x5_1).f3)) := hcc5 3 _ rfl
   have hx5_4 : wr.cell? ⟨go5, (x5_1 : Int).toNat * 5 + 4, none⟩ = some (.int .i64 ((rd_T54 x0_1 x5_1).f4)) := hcc5 4 _ rfl
   have hf5_0 : wr.frozen? ⟨go5, (x5_1 : Int).toNat * 5, none⟩ = false := hfr5 0
   have hf5_1 : wr.frozen? ⟨go5, (x5_1 : Int).toNat * 5 + 1, none⟩ = false := hfr5 1
   have hf5_2 : wr.frozen? ⟨go5, (x5_1 : Int).toNat * 5 + 2, none⟩ = false := hfr5 2
   have hf5_3 : wr.frozen? ⟨go5, (x5_1 : Int).toNat * 5 + 3, none⟩ = false := hfr5 3
   have hf5_4 : wr.frozen? ⟨go5, (x5_1 : Int).toNat * 5 + 4, none⟩ = false := hfr5 4
   clear hcl5 hcc5 hfr5 hM5
   replace p5 := eq_true p5
   replace q5 := eq_true q5
   have HX11 := Aside0.mk (show Kd.R k54 54 wr w0.heap.size (fun k_ => (P0_ k_ ∨ w.heap.size ≤ k_)) (.slice (some ⟨go5, 0, none⟩) x0_1.length co10) x0_1 from (zR12 HO_0.out))
   obtain ⟨ce11, hcl11, hM11, hcc11, hfr11⟩ := Kd.R_elem HX11.out z54 (x5_1 : Int) (zA12) (by have h_ : (x5_1 : Int) < ((x0_1.length : Int) : Int) := zA12; first | exact h_ | (have e_ := (Kd.R_reads' HO_0.out).1; omega) | simpa using h_)
   obtain rfl := k54_openM hM11
   have HP11 := Kd.R_seg HX11.out (x5_1 : Int) (zA12) (by have h_ : (x5_1 : Int) < ((x0_1.length : Int) : Int) := zA12; first | exact h_ | (have e_ := (Kd.R_reads' HO_0.out).1; omega) | simpa using h_) (seg := [.int .i64 x1_1]) (j := 0) hcl11 hcc11 (show 1 ≤ 5 from by decide) (x' := (⟨x1_1, (rd_T54 x0_1 x5_1).f1, (rd_T54 x0_1 x5_1).f2, (rd_T54 x0_1 x5_1).f3, (rd_T54 x0_1 x5_1).f4⟩ : S54)) (k54_mkM _ _ _ (⟨x1_1, (rd_T54 x0_1 x5_1).f1, (rd_T54 x0_1 x5_1).f2, (rd_T54 x0_1 x5_1).f3, (rd_T54 x0_1 x5_1).f4⟩ : S54) ) (fun _ hk => hk)
   have hx11_0 := hcc11 0 _ rfl
   (try simp only [show (k54).sz = 5 from rfl, Nat.mul_one, Nat.add_zero] at hx11_0)
   have hf11_0 := hfr11 0
   (try simp only [show (k54).sz = 5 from rfl, Nat.mul_one, Nat.add_zero] at hf11_0)
   clear hcl11 hcc11 hfr11 hM11
   go_wp2_with (first | ((with_reducible refine gate_store (t := 3) (p := 16) rfl ?_); refine store_event (t := 3) (p := 16) (v := ?vo_w12) (w1 := (wr.setCell ⟨go5, (x5_1 : Int).toNat * 5, none⟩ (.int .i64 x1_1))) ?hg ?ho ?hn ?hr ?_; (case ho => rfl); (case hg => rfl); (case hn => rfl); (case hr => first | (go_simp; done) | (go_simp; rfl)); intro w12 hw; have hg : wr.grownBy w12 (some go5) := (by rw [hw]; exact HP11.2); have hp_ : Kd.R k54 54 w12 w0.heap.size (fun k_ => (P0_ k_ ∨ w.heap.size ≤ k_)) (.slice (some ⟨go5, 0, none⟩) x0_1.length co10) y256 := (by rw [hw, Ny256.out]; exact HP11.1); clear HP11; have n0_ := Aside0.mk (hp_); have n1_ := Aside0.mk ((by rw [hw]; exact below_set (HB.out) GB5.out : Below w0.heap.size w0 w12)); have n2_ := Aside0.mk (Kept.of_grown (S := (fun k_ => P0_ k_)) hg (zB12_5) (fun k_ e_ => (HO_0.out.1 k_ e_))); clear HO_0; clear HB; clear HK; have HO_0 := n0_; have HB := n1_; have HK := n2_; clear n0_ n1_ n2_; clear hg hw hp_; have p6 : 0 ≤ (x5_1 : Int) := zA12; have q6 : (x5_1 : Int) < ((x0_1.length : Int) : Int) := zA12; obtain ⟨ce6, hcl6, hM6, hcc6, hfr6⟩ := Kd.R_elem HO_0.out z54 (x5_1 : Int) p6 q6; obtain rfl := k54_openM hM6; have hx6_0 : w12.cell? ⟨go5, (x5_1 : Int).toNat * 5, none⟩ = some (.int .i64 ((rd_T54 y256 x5_1).f0)) := hcc6 0 _ rfl; have hx6_1 : w12.cell? ⟨go5, (x5_1 : Int).toNat * 5 + 1, none⟩ = some (.int .i64 ((rd_T54 y256 x5_1).f1)) := hcc6 1 _ rfl; have hx6_2 : w12.cell? ⟨go5, (x5_1 : Int).toNat * 5 + 2, none⟩ = some (.int .i64 ((rd_T54 y256 x5_1).f2)) := hcc6 2 _ rfl; have hx6_3 : w12.cell? ⟨go5, (x5_1 : Int).toNat * 5 + 3, none⟩ = some (.int .i64 ((rd_T54 y256 x5_1).f3)) := hcc6 3 _ rfl; have hx6_4 : w12.cell? ⟨go5, (x5_1 : Int).toNat * 5 + 4, none⟩ = some (.int .i64 ((rd_T54 y256 x5_1).f4)) := hcc6 4 _ rfl; have hf6_0 : w12.frozen? ⟨go5, (x5_1 : Int).toNat * 5, none⟩ = false := hfr6 0; have hf6_1 : w12.frozen? ⟨go5, (x5_1 : Int).toNat * 5 + 1, none⟩ = false := hfr6 1; have hf6_2 : w12.frozen? ⟨go5, (x5_1 : Int).toNat * 5 + 2, none⟩ = false := hfr6 2; have hf6_3 : w12.frozen? ⟨go5, (x5_1 : Int).toNat * 5 + 3, none⟩ = false := hfr6 3; have hf6_4 : w12.frozen? ⟨go5, (x5_1 : Int).toNat * 5 + 4, none⟩ = false := hfr6 4; clear hcl6 hcc6 hfr6 hM6; replace p6 := eq_true p6; replace q6 := eq_true q6; have HX13 := Aside0.mk (show Kd.R k54 54 w12 w0.heap.size (fun k_ => (P0_ k_ ∨ w.heap.size ≤ k_)) (.slice (some ⟨go5, 0, none⟩) x0_1.length co10) y256 from (zR12 HO_0.out)); obtain ⟨ce13, hcl13, hM13, hcc13, hfr13⟩ := Kd.R_elem HX13.out z54 (x5_1 : Int) (zA12) (by have h_ : (x5_1 : Int) < ((x0_1.length : Int) : Int) := zA12; first | exact h_ | (have e_ := (Kd.R_reads' HO_0.out).1; omega) | simpa using h_); obtain rfl := k54_openM hM13; have HP13 := Kd.R_seg HX13.out (x5_1 : Int) (zA12) (by have h_ : (x5_1 : Int) < ((x0_1.length : Int) : Int) := zA12; first | exact h_ | (have e_ := (Kd.R_reads' HO_0.out).1; omega) | simpa using h_) (seg := [.int .i64 (wrap64 (x1_1 + 1))]) (j := 1) hcl13 hcc13 (show 2 ≤ 5 from by decide) (x' := (⟨(rd_T54 y256 x5_1).f0, wrap64 (x1_1 + 1), (rd_T54 y256 x5_1).f2, (rd_T54 y256 x5_1).f3, (rd_T54 y256 x5_1).f4⟩ : S54)) (k54_mkM _ _ _ (⟨(rd_T54 y256 x5_1).f0, wrap64 (x1_1 + 1), (rd_T54 y256 x5_1).f2, (rd_T54 y256 x5_1).f3, (rd_T54 y256 x5_1).f4⟩ : S54) ) (fun _ hk => hk); have hx13_1 := hcc13 1 _ rfl; (try simp only [show (k54).sz = 5 from rfl, Nat.mul_one, Nat.add_zero] at hx13_1); have hf13_1 := hfr13 1; (try simp only [show (k54).sz = 5 from rfl, Nat.mul_one, Nat.add_zero] at hf13_1); clear hcl13 hcc13 hfr13 hM13) | ((with_reducible refine gate_store (t := 3) (p := 23) rfl ?_); refine store_event (t := 3) (p := 23) (v := ?vo_w14) (w1 := (w12.setCell ⟨go5, (x5_1 : Int).toNat * 5 + 1, none⟩ (.int .i64 (wrap64 (x1_1 + 1))))) ?hg ?ho ?hn ?hr ?_; (case ho => rfl); (case hg => rfl); (case hn => rfl); (case hr => first | (go_simp; done) | (go_simp; rfl)); intro w14 hw; have hg : w12.grownBy w14 (some go5) := (by rw [hw]; exact HP13.2); have hp_ : Kd.R k54 54 w14 w0.heap.size (fun k_ => (P0_ k_ ∨ w.heap.size ≤ k_)) (.slice (some ⟨go5, 0, none⟩) x0_1.length co10) y257 := (by rw [hw, Ny257.out]; exact HP13.1); clear HP13; have n0_ := Aside0.mk (hp_); have n1_ := Aside0.mk ((by rw [hw]; exact below_set (HB.out) GB5.out : Below w0.heap.size w0 w14)); have n2_ := Aside0.mk (Kept.of_grown (S := (fun k_ => P0_ k_)) hg (zB12_5) (fun k_ e_ => (HO_0.out.1 k_ e_))); clear HO_0; clear HB; clear HK; have HO_0 := n0_; have HB := n1_; have HK := n2_; clear n0_ n1_ n2_; clear hg hw hp_; have p7 : 0 ≤ (x5_1 : Int) := zA12; have q7 : (x5_1 : Int) < ((x0_1.length : Int) : Int) := zA12; obtain ⟨ce7, hcl7, hM7, hcc7, hfr7⟩ := Kd.R_elem HO_0.out z54 (x5_1 : Int) p7 q7; obtain rfl := k54_openM hM7; have hx7_0 : w14.cell? ⟨go5, (x5_1 : Int).toNat * 5, none⟩ = some (.int .i64 ((rd_T54 y257 x5_1).f0)) := hcc7 0 _ rfl; have hx7_1 : w14.cell? ⟨go5, (x5_1 : Int).toNat * 5 + 1, none⟩ = some (.int .i64 ((rd_T54 y257 x5_1).f1)) := hcc7 1 _ rfl; have hx7_2 : w14.cell? ⟨go5, (x5_1 : Int).toNat * 5 + 2, none⟩ = some (.int .i64 ((rd_T54 y257 x5_1).f2)) := hcc7 2 _ rfl; have hx7_3 : w14.cell? ⟨go5, (x5_1 : Int).toNat * 5 + 3, none⟩ = some (.int .i64 ((rd_T54 y257 x5_1).f3)) := hcc7 3 _ rfl; have hx7_4 : w14.cell? ⟨go5, (x5_1 : Int).toNat * 5 + 4, none⟩ = some (.int .i64 ((rd_T54 y257 x5_1).f4)) := hcc7 4 _ rfl; have hf7_0 : w14.frozen? ⟨go5, (x5_1 : Int).toNat * 5, none⟩ = false := hfr7 0; have hf7_1 : w14.frozen? ⟨go5, (x5_1 : Int).toNat * 5 + 1, none⟩ = false := hfr7 1; have hf7_2 : w14.frozen? ⟨go5, (x5_1 : Int).toNat * 5 + 2, none⟩ = false := hfr7 2; have hf7_3 : w14.frozen? ⟨go5, (x5_1 : Int).toNat * 5 + 3, none⟩ = false := hfr7 3; have hf7_4 : w14.frozen? ⟨go5, (x5_1 : Int).toNat * 5 + 4, none⟩ = false := hfr7 4; clear hcl7 hcc7 hfr7 hM7; replace p7 := eq_true p7; replace q7 := eq_true q7; have HX15 := Aside0.mk (show Kd.R k54 54 w14 w0.heap.size (fun k_ => (P0_ k_ ∨ w.heap.size ≤ k_)) (.slice (some ⟨go5, 0, none⟩) x0_1.length co10) y257 from (zR12 HO_0.out)); obtain ⟨ce15, hcl15, hM15, hcc15, hfr15⟩ := Kd.R_elem HX15.out z54 (x5_1 : Int) (zA12) (by have h_ : (x5_1 : Int) < ((x0_1.length : Int) : Int) := zA12; first | exact h_ | (have e_ := (Kd.R_reads' HO_0.out).1; omega) | simpa using h_); obtain rfl := k54_openM hM15; have HP15 := Kd.R_seg HX15.out (x5_1 : Int) (zA12) (by have h_ : (x5_1 : Int) < ((x0_1.length : Int) : Int) := zA12; first | exact h_ | (have e_ := (Kd.R_reads' HO_0.out).1; omega) | simpa using h_) (seg := [.int .i64 (wrap64 ((wrap64 (x1_1 + 1)) + 1))]) (j := 2) hcl15 hcc15 (show 3 ≤ 5 from by decide) (x' := (⟨(rd_T54 y257 x5_1).f0, (rd_T54 y257 x5_1).f1, wrap64 ((wrap64 (x1_1 + 1)) + 1), (rd_T54 y257 x5_1).f3, (rd_T54 y257 x5_1).f4⟩ : S54)) (k54_mkM _ _ _ (⟨(rd_T54 y257 x5_1).f0, (rd_T54 y257 x5_1).f1, wrap64 ((wrap64 (x1_1 + 1)) + 1), (rd_T54 y257 x5_1).f3, (rd_T54 y257 x5_1).f4⟩ : S54) ) (fun _ hk => hk); have hx15_2 := hcc15 2 _ rfl; (try simp only [show (k54).sz = 5 from rfl, Nat.mul_one, Nat.add_zero] at hx15_2); have hf15_2 := hfr15 2; (try simp only [show (k54).sz = 5 from rfl, Nat.mul_one, Nat.add_zero] at hf15_2); clear hcl15 hcc15 hfr15 hM15) | ((with_reducible refine gate_store (t := 3) (p := 30) rfl ?_); refine store_event (t := 3) (p := 30) (v := ?vo_w16) (w1 := (w14.setCell ⟨go5, (x5_1 : Int).toNat * 5 + 2, none⟩ (.int .i64 (wrap64 ((wrap64 (x1_1 + 1)) + 1))))) ?hg ?ho ?hn ?hr ?_; (case ho => rfl); (case hg => rfl); (case hn => rfl); (case hr => first | (go_simp; done) | (go_simp; rfl)); intro w16 hw; have hg : w14.grownBy w16 (some go5) := (by rw [hw]; exact HP15.2); have hp_ : Kd.R k54 54 w16 w0.heap.size (fun k_ => (P0_ k_ ∨ w.heap.size ≤ k_)) (.slice (some ⟨go5, 0, none⟩) x0_1.length co10) y258 := (by rw [hw, Ny258.out]; exact HP15.1); clear HP15; have n0_ := Aside0.mk (hp_); have n1_ := Aside0.mk ((by rw [hw]; exact below_set (HB.out) GB5.out : Below w0.heap.size w0 w16)); have n2_ := Aside0.mk (Kept.of_grown (S := (fun k_ => P0_ k_)) hg (zB12_5) (fun k_ e_ => (HO_0.out.1 k_ e_))); clear HO_0; clear HB; clear HK; have HO_0 := n0_; have HB := n1_; have HK := n2_; clear n0_ n1_ n2_; clear hg hw hp_; have p8 : 0 ≤ (x5_1 : Int) := zA12; have q8 : (x5_1 : Int) < ((x0_1.length : Int) : Int) := zA12; obtain ⟨ce8, hcl8, hM8, hcc8, hfr8⟩ := Kd.R_elem HO_0.out z54 (x5_1 : Int) p8 q8; obtain rfl := k54_openM hM8; have hx8_0 : w16.cell? ⟨go5, (x5_1 : Int).toNat * 5, none⟩ = some (.int .i64 ((rd_T54 y258 x5_1).f0)) := hcc8 0 _ rfl; have hx8_1 : w16.cell? ⟨go5, (x5_1 : Int).toNat * 5 + 1, none⟩ = some (.int .i64 ((rd_T54 y258 x5_1).f1)) := hcc8 1 _ rfl; have hx8_2 : w16.cell? ⟨go5, (x5_1 : Int).toNat * 5 + 2, none⟩ = some (.int .i64 ((rd_T54 y258 x5_1).f2)) := hcc8 2 _ rfl; have hx8_3 : w16.cell? ⟨go5, (x5_1 : Int).toNat * 5 + 3, none⟩ = some (.int .i64 ((rd_T54 y258 x5_1).f3)) := hcc8 3 _ rfl; have hx8_4 : w16.cell? ⟨go5, (x5_1 : Int).toNat * 5 + 4, none⟩ = some (.int .i64 ((rd_T54 y258 x5_1).f4)) := hcc8 4 _ rfl; have hf8_0 : w16.frozen? ⟨go5, (x5_1 : Int).toNat * 5, none⟩ = false := hfr8 0; have hf8_1 : w16.frozen? ⟨go5, (x5_1 : Int).toNat * 5 + 1, none⟩ = false := hfr8 1; have hf8_2 : w16.frozen? ⟨go5, (x5_1 : Int).toNat * 5 + 2, none⟩ = false := hfr8 2; have hf8_3 : w16.frozen? ⟨go5, (x5_1 : Int).toNat * 5 + 3, none⟩ = false := hfr8 3; have hf8_4 : w16.frozen? ⟨go5, (x5_1 : Int).toNat * 5 + 4, none⟩ = false := hfr8 4; clear hcl8 hcc8 hfr8 hM8; replace p8 := eq_true p8; replace q8 := eq_true q8; have HX17 := Aside0.mk (show Kd.R k54 54 w16 w0.heap.size (fun k_ => (P0_ k_ ∨ w.heap.size ≤ k_)) (.slice (some ⟨go5, 0, none⟩) x0_1.length co10) y258 from (zR12 HO_0.out)); obtain ⟨ce17, hcl17, hM17, hcc17, hfr17⟩ := Kd.R_elem HX17.out z54 (x5_1 : Int) (zA12) (by have h_ : (x5_1 : Int) < ((x0_1.length : Int) : Int) := zA12; first | exact h_ | (have e_ := (Kd.R_reads' HO_0.out).1; omega) | simpa using h_); obtain rfl := k54_openM hM17; have HP17 := Kd.R_seg HX17.out (x5_1 : Int) (zA12) (by have h_ : (x5_1 : Int) < ((x0_1.length : Int) : Int) := zA12; first | exact h_ | (have e_ := (Kd.R_reads' HO_0.out).1; omega) | simpa using h_) (seg := [.int .i64 (wrap64 ((wrap64 ((wrap64 (x1_1 + 1)) + 1)) + 1))]) (j := 3) hcl17 hcc17 (show 4 ≤ 5 from by decide) (x' := (⟨(rd_T54 y258 x5_1).f0, (rd_T54 y258 x5_1).f1, (rd_T54 y258 x5_1).f2, wrap64 ((wrap64 ((wrap64 (x1_1 + 1)) + 1)) + 1), (rd_T54 y258 x5_1).f4⟩ : S54)) (k54_mkM _ _ _ (⟨(rd_T54 y258 x5_1).f0, (rd_T54 y258 x5_1).f1, (rd_T54 y258 x5_1).f2, wrap64 ((wrap64 ((wrap64 (x1_1 + 1)) + 1)) + 1), (rd_T54 y258 x5_1).f4⟩ : S54) ) (fun _ hk => hk); have hx17_3 := hcc17 3 _ rfl; (try simp only [show (k54).sz = 5 from rfl, Nat.mul_one, Nat.add_zero] at hx17_3); have hf17_3 := hfr17 3; (try simp only [show (k54).sz = 5 from rfl, Nat.mul_one, Nat.add_zero] at hf17_3); clear hcl17 hcc17 hfr17 hM17) | ((with_reducible refine gate_store (t := 3) (p := 37) rfl ?_); refine store_event (t := 3) (p := 37) (v := ?vo_w18) (w1 := (w16.setCell ⟨go5, (x5_1 : Int).toNat * 5 + 3, none⟩ (.int .i64 (wrap64 ((wrap64 ((wrap64 (x1_1 + 1)) + 1)) + 1))))) ?hg ?ho ?hn ?hr ?_; (case ho => rfl); (case hg => rfl); (case hn => rfl); (case hr => first | (go_simp; done) | (go_simp; rfl)); intro w18 hw; have hg : w16.grownBy w18 (some go5) := (by rw [hw]; exact HP17.2); have hp_ : Kd.R k54 54 w18 w0.heap.size (fun k_ => (P0_ k_ ∨ w.heap.size ≤ k_)) (.slice (some ⟨go5, 0, none⟩) x0_1.length co10) y259 := (by rw [hw, Ny259.out]; exact HP17.1); clear HP17; have n0_ := Aside0.mk (hp_); have n1_ := Aside0.mk ((by rw [hw]; exact below_set (HB.out) GB5.out : Below w0.heap.size w0 w18)); have n2_ := Aside0.mk (Kept.of_grown (S := (fun k_ => P0_ k_)) hg (zB12_5) (fun k_ e_ => (HO_0.out.1 k_ e_))); clear HO_0; clear HB; clear HK; have HO_0 := n0_; have HB := n1_; have HK := n2_; clear n0_ n1_ n2_; clear hg hw hp_; have p9 : 0 ≤ (x5_1 : Int) := zA12; have q9 : (x5_1 : Int) < ((x0_1.length : Int) : Int) := zA12; obtain ⟨ce9, hcl9, hM9, hcc9, hfr9⟩ := Kd.R_elem HO_0.out z54 (x5_1 : Int) p9 q9; obtain rfl := k54_openM hM9; have hx9_0 : w18.cell? ⟨go5, (x5_1 : Int).toNat * 5, none⟩ = some (.int .i64 ((rd_T54 y259 x5_1).f0)) := hcc9 0 _ rfl; have hx9_1 : w18.cell? ⟨go5, (x5_1 : Int).toNat * 5 + 1, none⟩ = some (.int .i64 ((rd_T54 y259 x5_1).f1)) := hcc9 1 _ rfl; have hx9_2 : w18.cell? ⟨go5, (x5_1 : Int).toNat * 5 + 2, none⟩ = some (.int .i64 ((rd_T54 y259 x5_1).f2)) := hcc9 2 _ rfl; have hx9_3 : w18.cell? ⟨go5, (x5_1 : Int).toNat * 5 + 3, none⟩ = some (.int .i64 ((rd_T54 y259 x5_1).f3)) := hcc9 3 _ rfl; have hx9_4 : w18.cell? ⟨go5, (x5_1 : Int).toNat * 5 + 4, none⟩ = some (.int .i64 ((rd_T54 y259 x5_1).f4)) := hcc9 4 _ rfl; have hf9_0 : w18.frozen? ⟨go5, (x5_1 : Int).toNat * 5, none⟩ = false := hfr9 0; have hf9_1 : w18.frozen? ⟨go5, (x5_1 : Int).toNat * 5 + 1, none⟩ = false := hfr9 1; have hf9_2 : w18.frozen? ⟨go5, (x5_1 : Int).toNat * 5 + 2, none⟩ = false := hfr9 2; have hf9_3 : w18.frozen? ⟨go5, (x5_1 : Int).toNat * 5 + 3, none⟩ = false := hfr9 3; have hf9_4 : w18.frozen? ⟨go5, (x5_1 : Int).toNat * 5 + 4, none⟩ = false := hfr9 4; clear hcl9 hcc9 hfr9 hM9; replace p9 := eq_true p9; replace q9 := eq_true q9; have HX19 := Aside0.mk (show Kd.R k54 54 w18 w0.heap.size (fun k_ => (P0_ k_ ∨ w.heap.size ≤ k_)) (.slice (some ⟨go5, 0, none⟩) x0_1.length co10) y259 from (zR12 HO_0.out)); obtain ⟨ce19, hcl19, hM19, hcc19, hfr19⟩ := Kd.R_elem HX19.out z54 (x5_1 : Int) (zA12) (by have h_ : (x5_1 : Int) < ((x0_1.length : Int) : Int) := zA12; first | exact h_ | (have e_ := (Kd.R_reads' HO_0.out).1; omega) | simpa using h_); obtain rfl := k54_openM hM19; have HP19 := Kd.R_seg HX19.out (x5_1 : Int) (zA12) (by have h_ : (x5_1 : Int) < ((x0_1.length : Int) : Int) := zA12; first | exact h_ | (have e_ := (Kd.R_reads' HO_0.out).1; omega) | simpa using h_) (seg := [.int .i64 (wrap64 ((wrap64 ((wrap64 ((wrap64 (x1_1 + 1)) + 1)) + 1)) + 1))]) (j := 4) hcl19 hcc19 (show 5 ≤ 5 from by decide) (x' := (⟨(rd_T54 y259 x5_1).f0, (rd_T54 y259 x5_1).f1, (rd_T54 y259 x5_1).f2, (rd_T54 y259 x5_1).f3, wrap64 ((wrap64 ((wrap64 ((wrap64 (x1_1 + 1)) + 1)) + 1)) + 1)⟩ : S54)) (k54_mkM _ _ _ (⟨(rd_T54 y259 x5_1).f0, (rd_T54 y259 x5_1).f1, (rd_T54 y259 x5_1).f2, (rd_T54 y259 x5_1).f3, wrap64 ((wrap64 ((wrap64 ((wrap64 (x1_1 + 1)) + 1)) + 1)) + 1)⟩ : S54) ) (fun _ hk => hk); have hx19_4 := hcc19 4 _ rfl; (try simp only [show (k54).sz = 5 from rfl, Nat.mul_one, Nat.add_zero] at hx19_4); have hf19_4 := hfr19 4; (try simp only [show (k54).sz = 5 from rfl, Nat.mul_one, Nat.add_zero] at hf19_4); clear hcl19 hcc19 hfr19 hM19) | ((with_reducible refine gate_store (t := 3) (p := 44) rfl ?_); refine store_event (t := 3) (p := 44) (v := ?vo_w20) (w1 := (w18.setCell ⟨go5, (x5_1 : Int).toNat * 5 + 4, none⟩ (.int .i64 (wrap64 ((wrap64 ((wrap64 ((wrap64 (x1_1 + 1)) + 1)) + 1)) + 1))))) ?hg ?ho ?hn ?hr ?_; (case ho => rfl); (case hg => rfl); (case hn => rfl); (case hr => first | (go_simp; done) | (go_simp; rfl)); intro w20 hw; have hg : w18.grownBy w20 (some go5) := (by rw [hw]; exact HP19.2); have hp_ : Kd.R k54 54 w20 w0.heap.size (fun k_ => (P0_ k_ ∨ w.heap.size ≤ k_)) (.slice (some ⟨go5, 0, none⟩) x0_1.length co10) y260 := (by rw [hw, Ny260.out]; exact HP19.1); clear HP19; have n0_ := Aside0.mk (hp_); have n1_ := Aside0.mk ((by rw [hw]; exact below_set (HB.out) GB5.out : Below w0.heap.size w0 w20)); have n2_ := Aside0.mk (Kept.of_grown (S := (fun k_ => P0_ k_)) hg (zB12_5) (fun k_ e_ => (HO_0.out.1 k_ e_))); clear HO_0; clear HB; clear HK; have HO_0 := n0_; have HB := n1_; have HK := n2_; clear n0_ n1_ n2_; clear hg hw hp_))
   go_roundg k1
   case measure => have := HK1.out; omega
   case rel => exact ⟨(y260), (wrap64 ((wrap64 ((wrap64 ((wrap64 ((wrap64 (x1_1 + 1)) + 1)) + 1)) + 1)) + 1)), (wrap64 (x5_1 + 1)), (by first | rfl | (simp; done) | (simp [*]; done)), (by first | rfl | (simp; done) | (simp [*]; done)), H', ⟨by have := HK1.out; omega⟩, ⟨zR12 HO_0.out⟩, ⟨zB12_5⟩, ⟨zB12_0⟩⟩

/-! ### laws_markText: function 177 -/
def laws_markText.l0 : Nat → Int → ByteArray → Option (ByteArray)
 | 0, _, _ => none
 | k + 1, x0, x3 => if x0 > 0 then ((some (([(wrap64 (48 + (Int.tmod x0 10))) % 256] : List Int) : List Int)).bind fun y261 => (if (strOfNums y261).size + x3.size ≤ 9223372036854775807 then (laws_markText.l0 k (wrap64 (Int.tdiv x0 10)) ((strOfNums y261) ++ x3)) else (none))) else (if 1 + x3.size ≤ 9223372036854775807 then (some ((⟨#[109]⟩ : ByteArray) ++ x3)) else (none))
def laws_markText.f (k : Nat) (a0 : Int) : Option (ByteArray) := if a0 ≤ 0 then (some (⟨#[109, 48]⟩ : ByteArray)) else (laws_markText.l0 k a0 (⟨#[]⟩ : ByteArray))
theorem laws_markText.mono_l : ∀ k, (∀ y0 y1, LeO (laws_markText.l0 k y0 y1) (laws_markText.l0 (k + 1) y0 y1))
 | 0 => fun _ _ r h => by simp [laws_markText.l0] at h
 | k + 1 => by
  have ih0 := laws_markText.mono_l k
  ·intro y0 y1
   unfold laws_markText.l0
   repeat' first
   | (with_reducible exact ih0 _ _)
   | (with_reducible exact LeO.refl _)
   | (with_reducible exact LeO.none _)
   | (with_reducible refine LeO.ite ?_ ?_)
   | (with_reducible refine LeO.bind ?_ (fun _ => ?_))
   | exact ih0 _ _
   | exact LeO.none _
   | refine LeO.ite ?_ ?_
   | refine LeO.bind ?_ (fun _ => ?_)
theorem laws_markText.mono : ∀ a0 k, LeO (laws_markText.f k a0) (laws_markText.f (k + 1) a0) := by
 intro a0 k
 have ih0 := laws_markText.mono_l k
 unfold laws_markText.f
 repeat' first
   | (with_reducible exact ih0 _ _)
   | (with_reducible exact LeO.refl _)
   | (with_reducible exact LeO.none _)
   | (with_reducible refine LeO.ite ?_ ?_)
   | (with_reducible refine LeO.bind ?_ (fun _ => ?_))
   | exact ih0 _ _
   | exact LeO.none _
   | refine LeO.ite ?_ ?_
   | refine LeO.bind ?_ (fun _ => ?_)
set_option maxHeartbeats 8000000 in
set_option maxRecDepth 100000 in
theorem laws_markText.calls (k : Nat) (a0 : Int) (r : ByteArray) (w : World) (h : laws_markText.f k a0 = some r) :
  Calls Try.prog 177 #[.int .i64 a0] w fun e w' => e = .returned (.string r) ∧ Below w.heap.size w w' := by
 have HB := Aside0.mk (Below.refl w.heap.size w)
 have H : (if a0 ≤ 0 then (some (⟨#[109, 48]⟩ : ByteArray)) else (laws_markText.l0 k a0 (⟨#[]⟩ : ByteArray))) = some r := h
 clear h
 by_cases c2 : a0 ≤ 0
 ·rw [if_pos c2] at H
  have c2b0 : decide (a0 ≤ 0) = true := decide_eq_true c2
  clear c2
  obtain rfl := Option.some.inj H
  go_enter Try.func177, Try.ntmps177
  go_wp2
  go_ret
  exact ⟨zE12, zB12_0⟩
 rw [if_neg c2] at H
 have c2b0 : decide (a0 ≤ 0) = false := decide_eq_false c2
 clear c2
 have H' := Aside0.mk H
 clear H
 go_enter Try.func177, Try.ntmps177
 go_wp2
 go_loopg [0, 3] k (fun kq v0 v3 w' => ∃ (x0_1 : Int) (x3_1 : ByteArray), v0 = .int .i64 x0_1 ∧ v3 = .string x3_1 ∧ Aside0 (laws_markText.l0 kq x0_1 x3_1 = some r) ∧ Aside0 (kq ≤ k) ∧ Aside0 (Below w.heap.size w w'))
 case atStart => exact ⟨(a0), ((⟨#[]⟩ : ByteArray)), (by first | rfl | (simp; done) | (simp [*]; done)), (by first | rfl | (simp; done) | (simp [*]; done)), H', ⟨Nat.le_refl _⟩, ⟨zB12_0⟩⟩
 case round =>
  clear H'
  try clear c1
  try clear c2
  try clear c2b0
  try clear p2
  obtain ⟨x0_1, x3_1, rfl, rfl, HA, HK1, HB⟩ := hrel
  cases gk with
  | zero => exact absurd HA.out (by simp [laws_markText.l0])
  | succ k1 =>
   have H := HA.out
   clear HA
   simp only [laws_markText.l0] at H
   by_cases c3 : x0_1 > 0
   rotate_left
   ·rw [if_neg c3] at H
    have c3b0 : decide (0 < x0_1) = false := decide_eq_false c3
    clear c3
    by_cases c8 : 1 + x3_1.size ≤ 9223372036854775807
    rotate_left
    ·rw [if_neg c8] at H
     exact absurd H (by simp)
    rw [if_pos c8] at H
    have c8b0 := eq_true c8
    have c8b1 : decide (1 + x3_1.size ≤ 9223372036854775807) = true := decide_eq_true c8
    try have c8b2 : (9223372036854775807 < 1 + x3_1.size) = False := eq_false (Nat.not_lt.2 c8)
    obtain rfl := Option.some.inj H
    go_wp2
    go_ret
    exact ⟨zE12, zB12_0⟩
   rw [if_pos c3] at H
   have c3b0 : decide (0 < x0_1) = true := decide_eq_true c3
   clear c3
   obtain ⟨y261, hy261⟩ : ∃ y_ : List Int, y_ = (([(wrap64 (48 + (Int.tmod x0_1 10))) % 256] : List Int)) := ⟨_, rfl⟩
   replace H : (if (strOfNums y261).size + x3_1.size ≤ 9223372036854775807 then (laws_markText.l0 k1 (wrap64 (Int.tdiv x0_1 10)) ((strOfNums y261) ++ x3_1)) else (none)) = some r := by first | (rw [hy261]; with_reducible exact H) | (have H2_ := (Option.bind_some _ _).symm.trans H; rw [hy261]; with_reducible exact H2_) | (have H2_ := (Option.bind_some _ _).symm.trans H; with_reducible exact H2_) | with_reducible exact H | (rw [hy261]; exact H) | exact H
   have Ny261 := Aside0.mk hy261
   clear hy261
   by_cases c4 : (strOfNums y261).size + x3_1.size ≤ 9223372036854775807
   rotate_left
   ·rw [if_neg c4] at H
    exact absurd H (by simp)
   rw [if_pos c4] at H
   have c4b0 := eq_true c4
   have c4b1 : decide ((strOfNums y261).size + x3_1.size ≤ 9223372036854775807) = true := decide_eq_true c4
   try have c4b2 : (9223372036854775807 < (strOfNums y261).size + x3_1.size) = False := eq_false (Nat.not_lt.2 c4)
   have H' := Aside0.mk H
   clear H
   go_wp2_with (first | ((with_reducible refine gate_dst (N := 12) rfl ?_); refine Kd.R_lit (Kd.int .u8) _ 5 ?hg (N := 12) ?hd (xs := ([(wrap64 (48 + (Int.tmod x0_1 10))) % 256] : List Int)) (inner := [.int .u8 ((wrap64 (48 + (Int.tmod x0_1 10))) % 256)]) (ok := fun _ => True) (okp := fun _ => True) ?hr ?hp (fun _ hk => hk) trivial (Below.refl _ _) (Nat.le_refl _) (by simp) ?_; (case hd => rfl); (case hg => rfl); (case hr => first | (go_simp; done) | (go_simp; rfl)); (case hp => exact (Reps.one (show Kd.M (Kd.int .u8) _ _ _ ((wrap64 (48 + (Int.tmod x0_1 10))) % 256) [.int .u8 ((wrap64 (48 + (Int.tmod x0_1 10))) % 256)] from rfl) (Reps.none _ _))); intro v262 w5 ho6 hb hg_ hnew_; clear hg_ hnew_; (first | rw [← Ny261.out] at ho6 | (simp only [Int.reduceToNat] at ho6; rw [← Ny261.out] at ho6)); have n0_ := Aside0.mk (Kd.R_lower ho6 (below_size (zB12_0))); have n1_ := Aside0.mk (below_step (zB12_0) hb); clear HB; have HO263 := n0_; have HB := n1_; clear n0_ n1_; clear hb ho6; have hcv7 := own_string (P := Try.prog) Try.underlying22 Try.underlying5 Try.underlying9 (Kd.own_of_R HO263.out)))
   go_roundg k1
   case measure => have := HK1.out; omega
   case rel => exact ⟨(wrap64 (Int.tdiv x0_1 10)), ((strOfNums y261) ++ x3_1), (by first | rfl | (simp; done) | (simp [*]; done)), (by first | rfl | (simp; done) | (simp [*]; done)), H', ⟨by have := HK1.out; omega⟩, ⟨zB12_0⟩⟩

end Go.Proofs.Ytddncenhddiemaa.PFnExactMoved
