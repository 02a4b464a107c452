-- made by wip/tools/myprint.py out of the seat's translation
import Derived.Test.YtnekcbajadnldaaPFnMovedx0
import Derived.Test.YtnekcbajadnldaaPFnMovedx3
import Derived.Test.YtnekcbajadnldaaPFnMovedx11
import Derived.Test.YtnekcbajadnldaaPFnMovedx12
import Derived.Test.YtnekcbajadnldaaPFnMovedx13
namespace Go.Proofs.Ytnekcbajadnldaa.PFnMoved
open Go.RowKit Go.Proofs.YtnekcbajadnldaaW.PrintWords Go.Proofs.YtnekcbajadnldaaW.PrintLast Go.Proofs.YtnekcbajadnldaaW.PrintMore
attribute [local go_sem] max2_int min2_int max_two min_two max_three min_three max_four min_four   -- for this text's walks alone
set_option linter.unusedVariables false
set_option linter.unusedSimpArgs false
theorem zc14_3 {w : World} {g : Nat} {a0 a1 a2 : Value} {t : TypeId} (h : w.heap[g]? = some (.cells #[a0, a1, a2] t (0, 0))) : w.cell? ⟨g, 0, none⟩ = some a0 ∧ w.cell? ⟨g, 1, none⟩ = some a1 ∧ w.cell? ⟨g, 2, none⟩ = some a2 ∧ w.frozen? ⟨g, 0, none⟩ = false ∧ w.frozen? ⟨g, 1, none⟩ = false ∧ w.frozen? ⟨g, 2, none⟩ = false := ⟨(blk_cell h 0).trans rfl, (blk_cell h 1).trans rfl, (blk_cell h 2).trans rfl, blk_frozen h 0, blk_frozen h 1, blk_frozen h 2⟩
theorem zR14 {p q : Prop} (x : q) (h : q → p := by intro h; (with_reducible repeat (first | apply Kd.R_alloc | apply Kd.R_drewN | apply Kd.R_drew)); exact h) : p := h x
theorem zK14 {p q : Prop} (x : q) (h : q → p := by intro h; (with_reducible repeat (first | refine blk_drewN ?_ _ | refine blk_drew ?_ | refine blk_alloc ?_ _)); exact h) : p := h x
theorem zA14 {p : Prop} [Decidable p] (h : decide p = true := by first | (with_reducible assumption) | assumption) : p := of_decide_eq_true h
theorem zT14 {p : Prop} (h : p := by (try simp only [List.map_toArray, List.map_cons, List.map_nil]); first | done | rfl | (simp only [List.length_drop, List.length_take]; rfl)) : p := h
theorem zC14 {p q : Prop} (x : q) (h : q → p := by intro h; repeat (first | exact h | (with_reducible refine Kd.C_alloc ?_ _) | (with_reducible refine Kd.C_drewN ?_ _) | (with_reducible refine Kd.C_drew ?_))) : p := h x
theorem zb14 {W w w1 : World} {g : Nat} {o : Obj} (x : W.heap[g]? = some o) (hb : Below w.heap.size w w1) (h : W.heap[g]? = some o → w.heap[g]? = some o := by intro h; (with_reducible repeat (first | refine blk_drewN ?_ _ | refine blk_drew ?_ | refine blk_alloc ?_ _)); exact h) : w1.heap[g]? = some o := blk_below (h x) hb
theorem zn14 {W w : World} {g g' : Nat} {o : Obj} (x : W.heap[g]? = some o) (hg : g' = w.heap.size) (h : W.heap[g]? = some o → w.heap[g]? = some o := by intro h; (with_reducible repeat (first | refine blk_drewN ?_ _ | refine blk_drew ?_ | refine blk_alloc ?_ _)); exact h) : g ≠ g' := by rw [hg]; exact Nat.ne_of_lt (blk_lt (h x))
theorem zm14 {W w : World} {g g' : Nat} {o : Obj} (x : W.heap[g]? = some o) (hg : g' = w.heap.size) (h : W.heap[g]? = some o → w.heap[g]? = some o := by intro h; (with_reducible repeat (first | refine blk_drewN ?_ _ | refine blk_drew ?_ | refine blk_alloc ?_ _)); exact h) : g' ≠ g := by rw [hg]; exact Nat.ne_of_gt (blk_lt (h x))
theorem zP14 {p q : Prop} (x : q) (h : q → p := by intro h; (with_reducible repeat (first | refine blk_drewN ?_ _ | refine blk_drew ?_ | refine blk_alloc ?_ _)); exact h) : p := h x
theorem zV14 {a b : Act} (h : a = b := by simp only [Act.put, List.setIfInBounds_toArray, List.set_cons_zero, List.set_cons_succ, i64_w, i32_w]; rfl) : a = b := h
theorem zE14 {p : Prop} (h : p := by first | rfl | (simp [errW_none, errW_some] <;> rfl) | (simp [*, errW_none, errW_some] <;> rfl)) : p := h
theorem zB14_0 {p : Prop} (h : p := by repeat (first | (with_reducible first | exact HB.out | apply below_alloc | apply pw_below_drewN | apply below_drew1) | exact HB.out)) : p := h
theorem zB14_1 {p : Prop} (h : p := by repeat (first | (with_reducible first | exact HB.out | apply below_alloc | apply pw_below_drewN | apply below_drew1 | refine below_set ?_ GE363.out) | exact HB.out)) : p := h
theorem zB14_2 {p : Prop} (h : p := by repeat (first | (with_reducible first | exact HB.out | apply below_alloc | apply pw_below_drewN | apply below_drew1 | refine below_set ?_ GE363.out | refine below_set ?_ GE364.out) | exact HB.out)) : p := h
theorem zB14_3 {p : Prop} (h : p := by repeat (first | (with_reducible first | exact HB.out | apply below_alloc | apply pw_below_drewN | apply below_drew1 | refine below_set ?_ GE363.out | refine below_set ?_ GE364.out | refine below_set ?_ GE372.out) | exact HB.out)) : p := h
theorem zB14_4 {p : Prop} (h : p := by repeat (first | (with_reducible first | exact HB.out | apply below_alloc | apply pw_below_drewN | apply below_drew1 | refine below_set ?_ GB37.out | refine below_set ?_ GE363.out | refine below_set ?_ GE364.out | refine below_set ?_ GE372.out) | exact HB.out)) : p := h

/-! ### spec_Moved: function 51 -/
mutual
def spec_Moved.j0 : Nat → Int → Bool → ByteArray → List (S52) → List (S56) → ByteArray → List (S52) → List (S56) → Option (ByteArray × (List (S52)) × (List (S56)) × Bool)
 | 0, _, _, _, _, _, _, _, _ => none
 | k + 1, x1, x17, x364000, x364001, x364002, x373000, x373001, x373002 => if x17 = true then (some ((⟨#[]⟩ : ByteArray), ([] : List (S52)), ([] : List (S56)), false)) else (spec_Moved.l0 k x1 0 x364000 x364001 x364002 x373000 x373001 x373002)
def spec_Moved.l0 : Nat → Int → Int → ByteArray → List (S52) → List (S56) → ByteArray → List (S52) → List (S56) → Option (ByteArray × (List (S52)) × (List (S56)) × Bool)
 | 0, _, _, _, _, _, _, _, _ => none
 | k + 1, x1, x7, x364000, x364001, x364002, x373000, x373001, x373002 => if x7 < (x373001.length : Int) then (if 0 ≤ x7 then ((spec_l27Goes.f ((rd_T52 x373001 x7).f0) ((rd_T52 x373001 x7).f1) ((rd_T52 x373001 x7).f2) ((rd_T52 x373001 x7).f3) ((rd_T52 x373001 x7).f4)).bind fun t377 => (if t377 = true then ((spec_l27Ref.f k x364000 x364001 x364002 x7).bind fun t378 => (if t378 < 0 then (spec_Moved.l0 k x1 (wrap64 (x7 + 1)) x364000 x364001 x364002 x373000 (x373001.set (x7 : Int).toNat (⟨(rd_T52 x373001 x7).f0, (rd_T52 x373001 x7).f1, (rd_T52 x373001 x7).f2, (rd_T52 x373001 x7).f3, wrap64 (((rd_T52 x373001 x7).f4) + x1)⟩ : S52)) x373002) else (spec_Moved.l0 k x1 (wrap64 (x7 + 1)) x364000 x364001 x364002 x373000 x373001 x373002))) else (spec_Moved.l0 k x1 (wrap64 (x7 + 1)) x364000 x364001 x364002 x373000 x373001 x373002))) else (none)) else ((spec_PartOk.f k x373000 x373001 x373002).bind fun t375 => (if t375 = true then (some (x373000, x373001, x373002, true)) else (some ((⟨#[]⟩ : ByteArray), ([] : List (S52)), ([] : List (S56)), false))))
end
def spec_Moved.f (k : Nat) (a0_0 : ByteArray) (l0_1 : List (S52)) (l0_2 : List (S56)) (a1 : Int) : Option (ByteArray × (List (S52)) × (List (S56)) × Bool) := (spec_l27Copy.f a0_0 l0_1 l0_2).bind fun bt365 => ((spec_PartOk.f k a0_0 l0_1 l0_2).bind fun t373 => (if t373 = true then ((spec_l1In.f a1 (-63) 63).bind fun t374 => (spec_Moved.j0 k a1 (!t374) a0_0 l0_1 l0_2 bt365.1 bt365.2.1 bt365.2.2)) else (spec_Moved.j0 k a1 true a0_0 l0_1 l0_2 bt365.1 bt365.2.1 bt365.2.2)))
theorem spec_Moved.mono_l : ∀ k, (∀ y0 y1 y2 y3 y4 y5 y6 y7, LeO (spec_Moved.j0 k y0 y1 y2 y3 y4 y5 y6 y7) (spec_Moved.j0 (k + 1) y0 y1 y2 y3 y4 y5 y6 y7)) ∧ (∀ y0 y1 y2 y3 y4 y5 y6 y7, LeO (spec_Moved.l0 k y0 y1 y2 y3 y4 y5 y6 y7) (spec_Moved.l0 (k + 1) y0 y1 y2 y3 y4 y5 y6 y7))
 | 0 => ⟨fun _ _ _ _ _ _ _ _ r h => by simp [spec_Moved.j0] at h, fun _ _ _ _ _ _ _ _ r h => by simp [spec_Moved.l0] at h⟩
 | k + 1 => by
  obtain ⟨ih0, ih1⟩ := spec_Moved.mono_l k
  refine ⟨?_, ?_⟩
  ·intro y0 y1 y2 y3 y4 y5 y6 y7
   unfold spec_Moved.j0
   repeat' first
   | (with_reducible exact ih0 _ _ _ _ _ _ _ _)
   | (with_reducible exact ih1 _ _ _ _ _ _ _ _)
   | (with_reducible exact spec_PartOk.mono _ _ _ _)
   | (with_reducible exact spec_l27Ref.mono _ _ _ _ _)
   | (with_reducible exact LeO.refl _)
   | (with_reducible exact LeO.none _)
   | (with_reducible refine LeO.ite ?_ ?_)
   | (with_reducible refine LeO.bind ?_ (fun _ => ?_))
   | exact ih0 _ _ _ _ _ _ _ _
   | exact ih1 _ _ _ _ _ _ _ _
   | exact spec_PartOk.mono _ _ _ _
   | exact spec_l27Ref.mono _ _ _ _ _
   | exact LeO.none _
   | refine LeO.ite ?_ ?_
   | refine LeO.bind ?_ (fun _ => ?_)
  ·intro y0 y1 y2 y3 y4 y5 y6 y7
   unfold spec_Moved.l0
   repeat' first
   | (with_reducible exact ih0 _ _ _ _ _ _ _ _)
   | (with_reducible exact ih1 _ _ _ _ _ _ _ _)
   | (with_reducible exact spec_PartOk.mono _ _ _ _)
   | (with_reducible exact spec_l27Ref.mono _ _ _ _ _)
   | (with_reducible exact LeO.refl _)
   | (with_reducible exact LeO.none _)
   | (with_reducible refine LeO.ite ?_ ?_)
   | (with_reducible refine LeO.bind ?_ (fun _ => ?_))
   | exact ih0 _ _ _ _ _ _ _ _
   | exact ih1 _ _ _ _ _ _ _ _
   | exact spec_PartOk.mono _ _ _ _
   | exact spec_l27Ref.mono _ _ _ _ _
   | exact LeO.none _
   | refine LeO.ite ?_ ?_
   | refine LeO.bind ?_ (fun _ => ?_)
theorem spec_Moved.mono : ∀ a0 a1 a2 a3 k, LeO (spec_Moved.f k a0 a1 a2 a3) (spec_Moved.f (k + 1) a0 a1 a2 a3) := by
 intro a0 a1 a2 a3 k
 obtain ⟨ih0, ih1⟩ := spec_Moved.mono_l k
 unfold spec_Moved.f
 repeat' first
   | (with_reducible exact ih0 _ _ _ _ _ _ _ _)
   | (with_reducible exact ih1 _ _ _ _ _ _ _ _)
   | (with_reducible exact spec_PartOk.mono _ _ _ _)
   | (with_reducible exact spec_l27Ref.mono _ _ _ _ _)
   | (with_reducible exact LeO.refl _)
   | (with_reducible exact LeO.none _)
   | (with_reducible refine LeO.ite ?_ ?_)
   | (with_reducible refine LeO.bind ?_ (fun _ => ?_))
   | exact ih0 _ _ _ _ _ _ _ _
   | exact ih1 _ _ _ _ _ _ _ _
   | exact spec_PartOk.mono _ _ _ _
   | exact spec_l27Ref.mono _ _ _ _ _
   | exact LeO.none _
   | refine LeO.ite ?_ ?_
   | refine LeO.bind ?_ (fun _ => ?_)
def spec_Moved.T8 : Bool × List (List Nat × List Nat) := (true, [([], []), ([0], [0]), ([], []), ([], []), ([3], [3]), ([], []), ([4, 5], [4, 5]), ([6], [6]), ([7], [7]), ([], []), ([8, 9], [8, 9]), ([1, 2, 0, 1, 2, 3, 4, 5, 6, 7, 8, 9, 10], [1, 2]), ([11, 0, 1, 2, 3, 4, 5, 6, 7, 8, 9, 10], [11]), ([12, 10, 0, 1, 2, 3, 4, 5, 6, 7, 8, 9, 10], [10, 12])])
def spec_Moved.B8 : List Nat := [0, 1, 0, 0, 8, 0, 56, 120, 248, 0, 1016, 2047, 4095, 8191]
theorem spec_Moved.tab8 : rtab .any (opsOf Try.f51 8) = spec_Moved.T8 := by kernel_rfl
theorem spec_Moved.bits8 : waitsOk spec_Moved.T8.2 spec_Moved.B8 = true := by kernel_rfl
set_option maxHeartbeats 8000000 in
set_option maxRecDepth 100000 in
theorem spec_Moved.calls (k : Nat) (a0_0 : ByteArray) (A0_1 : Option Addr) (c0_1 : Nat) (l0_1 : List (S52)) (A0_2 : Option Addr) (c0_2 : Nat) (l0_2 : List (S56)) (a1 : Int) (r1 : ByteArray) (r2 : List (S52)) (r3 : List (S56)) (r4 : Bool) (w : World) (hr0_1 : Kd.C k52 w A0_1 l0_1.length l0_1) (hc0_1 : l0_1.length ≤ c0_1) (hr0_2 : Kd.C k56 w A0_2 l0_2.length l0_2) (hc0_2 : l0_2.length ≤ c0_2) (h : spec_Moved.f k a0_0 l0_1 l0_2 a1 = some (r1, r2, r3, r4)) :
  Calls Try.prog 51 #[.agg #[.string a0_0, .slice A0_1 l0_1.length c0_1, .slice A0_2 l0_2.length c0_2], .int .i64 a1] w fun e w' => ∃ v1_ v2_ : Value, e = .returned (.tuple #[.agg #[.string r1, v1_, v2_], .bool r4]) ∧ Kd.R k52 52 w' w.heap.size (fun _ => True) v1_ r2 ∧ Kd.R k56 56 w' w.heap.size (fun _ => True) v2_ r3 ∧ Below w.heap.size w w' := by
 have hu45 := Try.underlying45
 have hu52 := Try.underlying52
 have HR0_1 := Aside0.mk hr0_1
 have HC0_1 := Aside0.mk hc0_1
 clear hr0_1 hc0_1
 have HR0_2 := Aside0.mk hr0_2
 have HC0_2 := Aside0.mk hc0_2
 clear hr0_2 hc0_2
 have HB := Aside0.mk (Below.refl w.heap.size w)
 have H : ((spec_l27Copy.f a0_0 l0_1 l0_2).bind fun bt365 => ((spec_PartOk.f k a0_0 l0_1 l0_2).bind fun t373 => (if t373 = true then ((spec_l1In.f a1 (-63) 63).bind fun t374 => (spec_Moved.j0 k a1 (!t374) a0_0 l0_1 l0_2 bt365.1 bt365.2.1 bt365.2.2)) else (spec_Moved.j0 k a1 true a0_0 l0_1 l0_2 bt365.1 bt365.2.1 bt365.2.2)))) = some (r1, r2, r3, r4) := h
 clear h
 replace H := Option.bind_eq_some_iff.mp H
 obtain ⟨⟨t365, t366, t369⟩, A30, H⟩ := H
 replace H : ((spec_PartOk.f k a0_0 l0_1 l0_2).bind fun t373 => (if t373 = true then ((spec_l1In.f a1 (-63) 63).bind fun t374 => (spec_Moved.j0 k a1 (!t374) a0_0 l0_1 l0_2 t365 t366 t369)) else (spec_Moved.j0 k a1 true a0_0 l0_1 l0_2 t365 t366 t369))) = some (r1, r2, r3, r4) := H
 have A3 := Aside0.mk A30
 clear A30
 have HC4 := Aside0.mk H
 clear H
 go_enter Try.func51, Try.ntmps51
 go_upto_region 2 with (first | ((with_reducible refine gate_dst (N := 2) rfl ?_); refine box_event ?hg (N := 2) ?hd (cs := #[.string a0_0, .slice A0_1 l0_1.length c0_1, .slice A0_2 l0_2.length c0_2]) (t := 45) ?hr ?_; (case hd => rfl); (case hg => rfl); (case hr => first | (go_simp; done) | (go_simp; rfl)); intro gb363 hg w5 hbox hb; have n0_ := Aside0.mk (below_step (zB14_0) hb); have n1_ := Aside0.mk (hbox); have n2_ := Aside0.mk ((by rw [hg]; exact (below_size (zB14_0)) : w.heap.size ≤ gb363)); have n3_ := Aside0.mk ((by rw [hg]; exact (below_size (zB14_0)) : w.heap.size ≤ gb363)); clear HB; have HB := n0_; have BK363 := n1_; have GW363 := n2_; have GE363 := n3_; clear n0_ n1_ n2_ n3_; clear hb hbox hg) | ((with_reducible refine gate_dst (N := 4) rfl ?_); refine box_event ?hg (N := 4) ?hd (cs := #[.string (⟨#[]⟩ : ByteArray), .slice none 0 0, .slice none 0 0]) (t := 45) ?hr ?_; (case hd => rfl); (case hg => rfl); (case hr => first | (go_simp; done) | (go_simp; rfl)); intro gb364 hg w6 hbox hb; have n0_ := Aside0.mk (zb14 BK363.out hb); have n1_ := Aside0.mk (below_step (zB14_1) hb); have n2_ := Aside0.mk (hbox); have n3_ := Aside0.mk ((by rw [hg]; exact (below_size (zB14_1)) : w.heap.size ≤ gb364)); have n4_ := Aside0.mk ((by rw [hg]; exact (below_size (zB14_1)) : w.heap.size ≤ gb364)); have n5_ := Aside0.mk ((zn14 BK363.out hg : gb363 ≠ gb364)); have n6_ := Aside0.mk ((zm14 BK363.out hg : gb364 ≠ gb363)); clear BK363; clear HB; have BK363 := n0_; have HB := n1_; have BK364 := n2_; have GW364 := n3_; have GE364 := n4_; have NB363_364 := n5_; have NB364_363 := n6_; clear n0_ n1_ n2_ n3_ n4_ n5_ n6_; clear hb hbox hg; have hnb7 := NB363_364.out; have hnc7 := NB364_363.out; obtain ⟨hcz8_0, hcz8_1, hcz8_2, hfz8_0, hfz8_1, hfz8_2⟩ := zc14_3 (w := w6) BK363.out) | ((with_reducible refine gate_callee (f := 119) rfl ?_); refine goesL_ (some 9) rfl rfl Try.func119 (by kernel_rfl) rfl #[.agg #[.string a0_0, .slice A0_1 l0_1.length c0_1, .slice A0_2 l0_2.length c0_2]] rfl zT14 ?_; (with_reducible refine (spec_l27Copy.calls a0_0 _ _ l0_1 _ _ l0_2 t365 t366 t369 _ ?side1 ?side2 ?side3 ?side4 A3.out).mono ?_); (case side1 => exact zC14 (Kd.C_below HR0_1.out HB.out)); (case side2 => exact HC0_1.out); (case side3 => exact zC14 (Kd.C_below HR0_2.out HB.out)); (case side4 => exact HC0_2.out); rintro e w9 ⟨v367, v370, rfl, ho0, ho1, hb⟩; refine ⟨_, rfl, ?_⟩; have n0_ := Aside0.mk (Kd.R_lower ho0 (below_size (zB14_2))); have n1_ := Aside0.mk (Kd.R_lower ho1 (below_size (zB14_2))); have n2_ := Aside0.mk (zb14 BK363.out hb); have n3_ := Aside0.mk (zb14 BK364.out hb); have n4_ := Aside0.mk (below_step (zB14_2) hb); clear BK363; clear BK364; clear HB; have HO368 := n0_; have HO371 := n1_; have BK363 := n2_; have BK364 := n3_; have HB := n4_; clear n0_ n1_ n2_ n3_ n4_; (try clear hb); (try clear hb2); (try clear hk); (try clear hi); (try clear ho0); (try clear ho1)) | ((with_reducible refine gate_dst (N := 6) rfl ?_); refine box_event ?hg (N := 6) ?hd (cs := #[.string (⟨#[]⟩ : ByteArray), .slice none 0 0, .slice none 0 0]) (t := 45) ?hr ?_; (case hd => rfl); (case hg => rfl); (case hr => first | (go_simp; done) | (go_simp; rfl)); intro gb372 hg w10 hbox hb; have n0_ := Aside0.mk (Kd.R_below (zR14 HO368.out) hb); have n1_ := Aside0.mk (Kd.R_below (zR14 HO371.out) hb); have n2_ := Aside0.mk (zb14 BK363.out hb); have n3_ := Aside0.mk (zb14 BK364.out hb); have n4_ := Aside0.mk (below_step (zB14_2) hb); have n5_ := Aside0.mk (hbox); have n6_ := Aside0.mk ((by rw [hg]; exact (below_size (zB14_2)) : w.heap.size ≤ gb372)); have n7_ := Aside0.mk ((by rw [hg]; exact (below_size (zB14_2)) : w.heap.size ≤ gb372)); have n8_ := Aside0.mk ((zn14 BK363.out hg : gb363 ≠ gb372)); have n9_ := Aside0.mk ((zm14 BK363.out hg : gb372 ≠ gb363)); have n10_ := Aside0.mk ((zn14 BK364.out hg : gb364 ≠ gb372)); have n11_ := Aside0.mk ((zm14 BK364.out hg : gb372 ≠ gb364)); clear HO368; clear HO371; clear BK363; clear BK364; clear HB; have HO368 := n0_; have HO371 := n1_; have BK363 := n2_; have BK364 := n3_; have HB := n4_; have BK372 := n5_; have GW372 := n6_; have GE372 := n7_; have NB363_372 := n8_; have NB372_363 := n9_; have NB364_372 := n10_; have NB372_364 := n11_; clear n0_ n1_ n2_ n3_ n4_ n5_ n6_ n7_ n8_ n9_ n10_ n11_; clear hb hbox hg; have hnb11 := NB372_363.out; have hnc11 := NB363_372.out; have hnb12 := NB372_364.out; have hnc12 := NB364_372.out; obtain ⟨hcz13_0, hcz13_1, hcz13_2, hfz13_0, hfz13_1, hfz13_2⟩ := zc14_3 (w := w10) BK372.out; obtain ⟨Ao14, co14, eo14⟩ := Kd.R_slice HO368.out; subst eo14; obtain ⟨Ao15, co15, eo15⟩ := Kd.R_slice HO371.out; subst eo15))
 (try simp only [Act.put, List.setIfInBounds_toArray, List.set_cons_zero, List.set_cons_succ])
 go_cut [17] (fun v17 wc => ∃ (kq : Nat) (x17_3 : Bool), v17 = .bool x17_3 ∧ Aside0 (spec_Moved.j0 kq a1 x17_3 a0_0 l0_1 l0_2 t365 t366 t369 = some (r1, r2, r3, r4)) ∧ Aside0 (kq ≤ k) ∧ Aside0 (Kd.R k52 52 wc w.heap.size (fun _ => True) (.slice Ao14 t366.length co14) t366) ∧ Aside0 (Kd.R k56 56 wc w.heap.size (fun _ => True) (.slice Ao15 t369.length co15) t369) ∧ Aside0 (wc.heap[gb363]? = some (.cells #[.string a0_0, (.slice A0_1 l0_1.length c0_1), (.slice A0_2 l0_2.length c0_2)] 45 (0, 0))) ∧ Aside0 (wc.heap[gb364]? = some (.cells #[.string (⟨#[]⟩ : ByteArray), (.slice none 0 0), (.slice none 0 0)] 45 (0, 0))) ∧ Aside0 (wc.heap[gb372]? = some (.cells #[.string t365, (.slice Ao14 t366.length co14), (.slice Ao15 t369.length co15)] 45 (0, 0))) ∧ Aside0 (Below w.heap.size w wc))
 case first =>
  have H := HC4.out
  clear HC4
  replace H := Option.bind_eq_some_iff.mp H
  obtain ⟨t373, A160, H⟩ := H
  replace H : (if t373 = true then ((spec_l1In.f a1 (-63) 63).bind fun t374 => (spec_Moved.j0 k a1 (!t374) a0_0 l0_1 l0_2 t365 t366 t369)) else (spec_Moved.j0 k a1 true a0_0 l0_1 l0_2 t365 t366 t369)) = some (r1, r2, r3, r4) := H
  have A16 := Aside0.mk A160
  clear A160
  by_cases c17 : t373 = true
  rotate_left
  ·replace c17 := Bool.eq_false_iff.mpr c17
   subst c17
   have H1 : (spec_Moved.j0 k a1 true a0_0 l0_1 l0_2 t365 t366 t369) = some (r1, r2, r3, r4) := by rw [if_neg (show ¬ (false = true) by decide)] at H; exact H
   clear H
   have H := H1
   clear H1
   have H' := Aside0.mk H
   clear H
   have hnb23 := NB363_364.out
   have hnc23 := NB364_363.out
   have hnb24 := NB363_372.out
   have hnc24 := NB372_363.out
   obtain ⟨hcz25_0, hcz25_1, hcz25_2, hfz25_0, hfz25_1, hfz25_2⟩ := zc14_3 (w := w10) BK363.out
   go_wp2_with (first | ((with_reducible refine gate_callee (f := 46) rfl ?_); refine goesL_ (some 11) rfl rfl Try.func46 (by kernel_rfl) rfl #[.agg #[.string a0_0, .slice A0_1 l0_1.length c0_1, .slice A0_2 l0_2.length c0_2]] rfl zT14 ?_; (with_reducible refine (spec_PartOk.calls k a0_0 _ _ l0_1 _ _ l0_2 false _ ?side1 ?side2 ?side3 ?side4 A16.out).mono ?_); (case side1 => exact Kd.C_below HR0_1.out (zB14_3)); (case side2 => exact HC0_1.out); (case side3 => exact Kd.C_below HR0_2.out (zB14_3)); (case side4 => exact HC0_2.out); rintro e w26 ⟨rfl, hb⟩; refine ⟨_, rfl, ?_⟩; have n0_ := Aside0.mk (Kd.R_below (by (with_reducible repeat (first | apply Kd.R_alloc | apply Kd.R_drewN | apply Kd.R_drew)); exact (Kd.R_mono (Kd.R_far (p := ⟨gb372, 2, none⟩) (Kd.R_far (p := ⟨gb372, 1, none⟩) (Kd.R_far (p := ⟨gb372, 0, none⟩) (Kd.R_types HO368.out BK372.out (by decide)) (fun _ hk => hk.2) (.string t365)) (fun _ hk => hk.2) (.slice Ao14 t366.length co14)) (fun _ hk => hk.2) (.slice Ao15 t369.length co15)) (fun _ h_ => h_.1))) hb); have n1_ := Aside0.mk (Kd.R_below (by (with_reducible repeat (first | apply Kd.R_alloc | apply Kd.R_drewN | apply Kd.R_drew)); exact (Kd.R_mono (Kd.R_far (p := ⟨gb372, 2, none⟩) (Kd.R_far (p := ⟨gb372, 1, none⟩) (Kd.R_far (p := ⟨gb372, 0, none⟩) (Kd.R_types HO371.out BK372.out (by decide)) (fun _ hk => hk.2) (.string t365)) (fun _ hk => hk.2) (.slice Ao14 t366.length co14)) (fun _ hk => hk.2) (.slice Ao15 t369.length co15)) (fun _ h_ => h_.1))) hb); have n2_ := Aside0.mk (blk_below (g := gb363) (o := .cells #[.string a0_0, .slice A0_1 l0_1.length c0_1, .slice A0_2 l0_2.length c0_2] 45 (0, 0)) (by refine zP14 ?_; refine blk_far ?_ NB363_372.out _; refine zP14 ?_; refine blk_far ?_ NB363_372.out _; refine zP14 ?_; refine blk_far ?_ NB363_372.out _; refine zP14 ?_; exact BK363.out) hb); have n3_ := Aside0.mk (blk_below (g := gb364) (o := .cells #[.string (⟨#[]⟩ : ByteArray), .slice none 0 0, .slice none 0 0] 45 (0, 0)) (by refine zP14 ?_; refine blk_far ?_ NB364_372.out _; refine zP14 ?_; refine blk_far ?_ NB364_372.out _; refine zP14 ?_; refine blk_far ?_ NB364_372.out _; refine zP14 ?_; exact BK364.out) hb); have n4_ := Aside0.mk (blk_below (g := gb372) (o := .cells #[.string t365, .slice Ao14 t366.length co14, .slice Ao15 t369.length co15] 45 (0, 0)) (by refine zP14 ?_; refine blk_put (cs := #[.string t365, .slice Ao14 t366.length co14, .slice none 0 0]) ?_ 2 _ rfl; refine zP14 ?_; refine blk_put (cs := #[.string t365, .slice none 0 0, .slice none 0 0]) ?_ 1 _ rfl; refine zP14 ?_; refine blk_put (cs := #[.string (⟨#[]⟩ : ByteArray), .slice none 0 0, .slice none 0 0]) ?_ 0 _ rfl; refine zP14 ?_; exact BK372.out) hb); have n5_ := Aside0.mk (below_step (zB14_3) hb); clear HO368; clear HO371; clear BK363; clear BK364; clear BK372; clear HB; have HO368 := n0_; have HO371 := n1_; have BK363 := n2_; have BK364 := n3_; have BK372 := n4_; have HB := n5_; clear n0_ n1_ n2_ n3_ n4_ n5_; (try clear hb); (try clear hb2); (try clear hk); (try clear hi)))
   go_meet
   case rel => exact ⟨_, (true), (by first | rfl | (simp; done) | (simp [*]; done)), H', ⟨by first | omega | exact Nat.le_refl _⟩, ⟨zR14 HO368.out⟩, ⟨zR14 HO371.out⟩, ⟨zK14 BK363.out⟩, ⟨zK14 BK364.out⟩, ⟨zK14 BK372.out⟩, ⟨zB14_3⟩⟩
  subst c17
  have H1 : ((spec_l1In.f a1 (-63) 63).bind fun t374 => (spec_Moved.j0 k a1 (!t374) a0_0 l0_1 l0_2 t365 t366 t369)) = some (r1, r2, r3, r4) := by rw [if_pos rfl] at H; exact H
  clear H
  have H := H1
  clear H1
  replace H := Option.bind_eq_some_iff.mp H
  obtain ⟨t374, A180, H⟩ := H
  replace H : (spec_Moved.j0 k a1 (!t374) a0_0 l0_1 l0_2 t365 t366 t369) = some (r1, r2, r3, r4) := H
  have A18 := Aside0.mk A180
  clear A180
  have H' := Aside0.mk H
  clear H
  have hnb19 := NB363_364.out
  have hnc19 := NB364_363.out
  have hnb20 := NB363_372.out
  have hnc20 := NB372_363.out
  obtain ⟨hcz21_0, hcz21_1, hcz21_2, hfz21_0, hfz21_1, hfz21_2⟩ := zc14_3 (w := w10) BK363.out
  go_wp2_with (first | ((with_reducible refine gate_callee (f := 46) rfl ?_); refine goesL_ (some 11) rfl rfl Try.func46 (by kernel_rfl) rfl #[.agg #[.string a0_0, .slice A0_1 l0_1.length c0_1, .slice A0_2 l0_2.length c0_2]] rfl zT14 ?_; (with_reducible refine (spec_PartOk.calls k a0_0 _ _ l0_1 _ _ l0_2 true _ ?side1 ?side2 ?side3 ?side4 A16.out).mono ?_); (case side1 => exact Kd.C_below HR0_1.out (zB14_3)); (case side2 => exact HC0_1.out); (case side3 => exact Kd.C_below HR0_2.out (zB14_3)); (case side4 => exact HC0_2.out); rintro e w22 ⟨rfl, hb⟩; refine ⟨_, rfl, ?_⟩; have n0_ := Aside0.mk (Kd.R_below (by (with_reducible repeat (first | apply Kd.R_alloc | apply Kd.R_drewN | apply Kd.R_drew)); exact (Kd.R_mono (Kd.R_far (p := ⟨gb372, 2, none⟩) (Kd.R_far (p := ⟨gb372, 1, none⟩) (Kd.R_far (p := ⟨gb372, 0, none⟩) (Kd.R_types HO368.out BK372.out (by decide)) (fun _ hk => hk.2) (.string t365)) (fun _ hk => hk.2) (.slice Ao14 t366.length co14)) (fun _ hk => hk.2) (.slice Ao15 t369.length co15)) (fun _ h_ => h_.1))) hb); have n1_ := Aside0.mk (Kd.R_below (by (with_reducible repeat (first | apply Kd.R_alloc | apply Kd.R_drewN | apply Kd.R_drew)); exact (Kd.R_mono (Kd.R_far (p := ⟨gb372, 2, none⟩) (Kd.R_far (p := ⟨gb372, 1, none⟩) (Kd.R_far (p := ⟨gb372, 0, none⟩) (Kd.R_types HO371.out BK372.out (by decide)) (fun _ hk => hk.2) (.string t365)) (fun _ hk => hk.2) (.slice Ao14 t366.length co14)) (fun _ hk => hk.2) (.slice Ao15 t369.length co15)) (fun _ h_ => h_.1))) hb); have n2_ := Aside0.mk (blk_below (g := gb363) (o := .cells #[.string a0_0, .slice A0_1 l0_1.length c0_1, .slice A0_2 l0_2.length c0_2] 45 (0, 0)) (by refine zP14 ?_; refine blk_far ?_ NB363_372.out _; refine zP14 ?_; refine blk_far ?_ NB363_372.out _; refine zP14 ?_; refine blk_far ?_ NB363_372.out _; refine zP14 ?_; exact BK363.out) hb); have n3_ := Aside0.mk (blk_below (g := gb364) (o := .cells #[.string (⟨#[]⟩ : ByteArray), .slice none 0 0, .slice none 0 0] 45 (0, 0)) (by refine zP14 ?_; refine blk_far ?_ NB364_372.out _; refine zP14 ?_; refine blk_far ?_ NB364_372.out _; refine zP14 ?_; refine blk_far ?_ NB364_372.out _; refine zP14 ?_; exact BK364.out) hb); have n4_ := Aside0.mk (blk_below (g := gb372) (o := .cells #[.string t365, .slice Ao14 t366.length co14, .slice Ao15 t369.length co15] 45 (0, 0)) (by refine zP14 ?_; refine blk_put (cs := #[.string t365, .slice Ao14 t366.length co14, .slice none 0 0]) ?_ 2 _ rfl; refine zP14 ?_; refine blk_put (cs := #[.string t365, .slice none 0 0, .slice none 0 0]) ?_ 1 _ rfl; refine zP14 ?_; refine blk_put (cs := #[.string (⟨#[]⟩ : ByteArray), .slice none 0 0, .slice none 0 0]) ?_ 0 _ rfl; refine zP14 ?_; exact BK372.out) hb); have n5_ := Aside0.mk (below_step (zB14_3) hb); clear HO368; clear HO371; clear BK363; clear BK364; clear BK372; clear HB; have HO368 := n0_; have HO371 := n1_; have BK363 := n2_; have BK364 := n3_; have BK372 := n4_; have HB := n5_; clear n0_ n1_ n2_ n3_ n4_ n5_; (try clear hb); (try clear hb2); (try clear hk); (try clear hi)) | (go_at_call 77; (with_reducible refine (spec_l1In.calls a1 (-63) 63 t374 _ A18.out).mono ?_); rintro e w' ⟨rfl, ⟨nd, rfl⟩⟩))
  go_meet
  case rel => exact ⟨_, (!t374), (by first | rfl | (simp; done) | (simp [*]; done)), H', ⟨by first | omega | exact Nat.le_refl _⟩, ⟨zR14 HO368.out⟩, ⟨zR14 HO371.out⟩, ⟨zK14 BK363.out⟩, ⟨zK14 BK364.out⟩, ⟨zK14 BK372.out⟩, ⟨zB14_3⟩⟩
 case rest =>
  clear HC4
  try clear c1
  try clear c2
  try clear p2
  try clear c4
  try clear c5
  try clear c7
  try clear c11
  try clear c12
  try clear c17
  try clear c19
  try clear c20
  try clear c23
  try clear c24
  try clear hcz13_0
  try clear hcz13_1
  try clear hcz13_2
  try clear hcz21_0
  try clear hcz21_1
  try clear hcz21_2
  try clear hcz25_0
  try clear hcz25_1
  try clear hcz25_2
  try clear hcz8_0
  try clear hcz8_1
  try clear hcz8_2
  try clear hfz13_0
  try clear hfz13_1
  try clear hfz13_2
  try clear hfz21_0
  try clear hfz21_1
  try clear hfz21_2
  try clear hfz25_0
  try clear hfz25_1
  try clear hfz25_2
  try clear hfz8_0
  try clear hfz8_1
  try clear hfz8_2
  obtain ⟨kq, x17_3, rfl, HA, HJ3, HO_373001, HO_373002, BK363, BK364, BK372, HB⟩ := hcut
  cases kq with
  | zero => exact absurd HA.out (by simp [spec_Moved.j0])
  | succ kj3 =>
   have H := HA.out
   clear HA
   simp only [spec_Moved.j0] at H
   by_cases c27 : x17_3 = true
   ·subst c27
    have H1 : (some ((⟨#[]⟩ : ByteArray), ([] : List (S52)), ([] : List (S56)), false)) = some (r1, r2, r3, r4) := by rw [if_pos rfl] at H; exact H
    clear H
    have H := H1
    clear H1
    simp only [Option.some.injEq, Prod.mk.injEq] at H
    obtain ⟨rfl, rfl, rfl, rfl⟩ := H
    have hnb28 := NB364_363.out
    have hnc28 := NB363_364.out
    have hnb29 := NB364_372.out
    have hnc29 := NB372_364.out
    obtain ⟨hcz30_0, hcz30_1, hcz30_2, hfz30_0, hfz30_1, hfz30_2⟩ := zc14_3 (w := wc) BK364.out
    go_wp2
    refine bodyPost_ret (results_ct rfl _ _ gb364 45 #[.string (⟨#[]⟩ : ByteArray), .slice none 0 0, .slice none 0 0] (0, 0) _ rfl (by refine zP14 ?_; refine blk_put (cs := #[.string (⟨#[]⟩ : ByteArray), .slice none 0 0, .slice none 0 0]) ?_ 2 _ rfl; refine zP14 ?_; refine blk_put (cs := #[.string (⟨#[]⟩ : ByteArray), .slice none 0 0, .slice none 0 0]) ?_ 1 _ rfl; refine zP14 ?_; refine blk_put (cs := #[.string (⟨#[]⟩ : ByteArray), .slice none 0 0, .slice none 0 0]) ?_ 0 _ rfl; refine zP14 ?_; exact BK364.out) Try.underlying45 rfl (by kernel_rfl)) rfl ?_
    exact ⟨_, _, zE14, by first | exact Kd.R_nil _ _ _ _ _ | exact Kd.N_nil _ _ _ _ _ | exact Kd.V_nil _ _ _ _ _ | exact Kd.Q_nil _ _ _ _ _ | exact Kd.S_nil _ _ _ _ _, by first | exact Kd.R_nil _ _ _ _ _ | exact Kd.N_nil _ _ _ _ _ | exact Kd.V_nil _ _ _ _ _ | exact Kd.Q_nil _ _ _ _ _ | exact Kd.S_nil _ _ _ _ _, zB14_3⟩
   replace c27 := Bool.eq_false_iff.mpr c27
   subst c27
   have H1 : (spec_Moved.l0 kj3 a1 0 a0_0 l0_1 l0_2 t365 t366 t369) = some (r1, r2, r3, r4) := by rw [if_neg (show ¬ (false = true) by decide)] at H; exact H
   clear H
   have H := H1
   clear H1
   have H' := Aside0.mk H
   clear H
   go_wp2
   go_loopg [7] kj3 (fun kq v7 w' => ∃ (x7_2 : Int) (x373001_2 : List (S52)) (u373001 : Value), v7 = .int .i64 x7_2 ∧ Aside0 (spec_Moved.l0 kq a1 x7_2 a0_0 l0_1 l0_2 t365 x373001_2 t369 = some (r1, r2, r3, r4)) ∧ Aside0 (kq ≤ kj3) ∧ Aside0 (Kd.R k52 52 w' w.heap.size (fun _ => True) u373001 x373001_2) ∧ Aside0 (Kd.R k56 56 w' w.heap.size (fun _ => True) (.slice Ao15 t369.length co15) t369) ∧ Aside0 (w'.heap[gb363]? = some (.cells #[.string a0_0, (.slice A0_1 l0_1.length c0_1), (.slice A0_2 l0_2.length c0_2)] 45 (0, 0))) ∧ Aside0 (w'.heap[gb364]? = some (.cells #[.string (⟨#[]⟩ : ByteArray), (.slice none 0 0), (.slice none 0 0)] 45 (0, 0))) ∧ Aside0 (w'.heap[gb372]? = some (.cells #[.string t365, u373001, (.slice Ao15 t369.length co15)] 45 (0, 0))) ∧ Aside0 (Below w.heap.size w w'))
   case atStart => exact ⟨(0), (t366), (.slice Ao14 t366.length co14), (by first | rfl | (simp; done) | (simp [*]; done)), H', ⟨Nat.le_refl _⟩, ⟨zR14 HO_373001.out⟩, ⟨zR14 HO_373002.out⟩, ⟨zK14 BK363.out⟩, ⟨zK14 BK364.out⟩, ⟨zK14 BK372.out⟩, ⟨zB14_3⟩⟩
   case round =>
    clear H'
    try clear c1
    try clear c2
    try clear p2
    try clear c4
    try clear c5
    try clear c7
    try clear c11
    try clear c12
    try clear c17
    try clear c19
    try clear c20
    try clear c23
    try clear c24
    try clear c27
    try clear c28
    try clear c29
    try clear hcz13_0
    try clear hcz13_1
    try clear hcz13_2
    try clear hcz21_0
    try clear hcz21_1
    try clear hcz21_2
    try clear hcz25_0
    try clear hcz25_1
    try clear hcz25_2
    try clear hcz30_0
    try clear hcz30_1
    try clear hcz30_2
    try clear hcz8_0
    try clear hcz8_1
    try clear hcz8_2
    try clear hfz13_0
    try clear hfz13_1
    try clear hfz13_2
    try clear hfz21_0
    try clear hfz21_1
    try clear hfz21_2
    try clear hfz25_0
    try clear hfz25_1
    try clear hfz25_2
    try clear hfz30_0
    try clear hfz30_1
    try clear hfz30_2
    try clear hfz8_0
    try clear hfz8_1
    try clear hfz8_2
    try clear p2
    obtain ⟨x7_2, x373001_2, u373001, rfl, HA, HK2, HO_373001, HO_373002, BK363, BK364, BK372, HB⟩ := hrel
    cases gk with
    | zero => exact absurd HA.out (by simp [spec_Moved.l0])
    | succ k2 =>
     have H := HA.out
     clear HA
     simp only [spec_Moved.l0] at H
     by_cases c31 : x7_2 < (x373001_2.length : Int)
     rotate_left
     ·rw [if_neg c31] at H
      have c31b0 : decide (x7_2 < (x373001_2.length : Int)) = false := decide_eq_false c31
      clear c31
      replace H := Option.bind_eq_some_iff.mp H
      obtain ⟨t375, A610, H⟩ := H
      replace H : (if t375 = true then (some (t365, x373001_2, t369, true)) else (some ((⟨#[]⟩ : ByteArray), ([] : List (S52)), ([] : List (S56)), false))) = some (r1, r2, r3, r4) := H
      have A61 := Aside0.mk A610
      clear A610
      by_cases c62 : t375 = true
      rotate_left
      ·replace c62 := Bool.eq_false_iff.mpr c62
       subst c62
       have H1 : (some ((⟨#[]⟩ : ByteArray), ([] : List (S52)), ([] : List (S56)), false)) = some (r1, r2, r3, r4) := by rw [if_neg (show ¬ (false = true) by decide)] at H; exact H
       clear H
       have H := H1
       clear H1
       simp only [Option.some.injEq, Prod.mk.injEq] at H
       obtain ⟨rfl, rfl, rfl, rfl⟩ := H
       have hnb71 := NB372_363.out
       have hnc71 := NB363_372.out
       have hnb72 := NB372_364.out
       have hnc72 := NB364_372.out
       obtain ⟨hcz73_0, hcz73_1, hcz73_2, hfz73_0, hfz73_1, hfz73_2⟩ := zc14_3 (w := wr) BK372.out
       obtain ⟨Ao74, co74, eo74⟩ := Kd.R_slice HO_373001.out
       subst eo74
       go_wp2_with (first | ((with_reducible refine gate_callee (f := 46) rfl ?_); refine goesL_ (some 52) rfl rfl Try.func46 (by kernel_rfl) rfl #[.agg #[.string t365, .slice Ao74 x373001_2.length co74, .slice Ao15 t369.length co15]] rfl zT14 ?_; (with_reducible refine (spec_PartOk.calls k2 t365 _ _ x373001_2 _ _ t369 false _ ?side1 ?side2 ?side3 ?side4 A61.out).mono ?_); (case side1 => exact zC14 (Kd.R_reads' HO_373001.out).2.2); (case side2 => exact (Kd.R_reads' HO_373001.out).2.1); (case side3 => exact zC14 (Kd.R_reads' HO_373002.out).2.2); (case side4 => exact (Kd.R_reads' HO_373002.out).2.1); rintro e w75 ⟨rfl, hb⟩; refine ⟨_, rfl, ?_⟩; have n0_ := Aside0.mk (Kd.R_below (zR14 HO_373001.out) hb); have n1_ := Aside0.mk (Kd.R_below (zR14 HO_373002.out) hb); have n2_ := Aside0.mk (zb14 BK363.out hb); have n3_ := Aside0.mk (zb14 BK364.out hb); have n4_ := Aside0.mk (zb14 BK372.out hb); have n5_ := Aside0.mk (below_step (zB14_3) hb); clear HO_373001; clear HO_373002; clear BK363; clear BK364; clear BK372; clear HB; have HO_373001 := n0_; have HO_373002 := n1_; have BK363 := n2_; have BK364 := n3_; have BK372 := n4_; have HB := n5_; clear n0_ n1_ n2_ n3_ n4_ n5_; (try clear hb); (try clear hb2); (try clear hk); (try clear hi); have hnb76 := NB364_363.out; have hnc76 := NB363_364.out; obtain ⟨hcz77_0, hcz77_1, hcz77_2, hfz77_0, hfz77_1, hfz77_2⟩ := zc14_3 (w := w75) BK364.out))
       refine bodyPost_ret (results_ct rfl _ _ gb364 45 #[.string (⟨#[]⟩ : ByteArray), .slice none 0 0, .slice none 0 0] (0, 0) _ rfl (by refine zP14 ?_; refine blk_put (cs := #[.string (⟨#[]⟩ : ByteArray), .slice none 0 0, .slice none 0 0]) ?_ 2 _ rfl; refine zP14 ?_; refine blk_put (cs := #[.string (⟨#[]⟩ : ByteArray), .slice none 0 0, .slice none 0 0]) ?_ 1 _ rfl; refine zP14 ?_; refine blk_put (cs := #[.string (⟨#[]⟩ : ByteArray), .slice none 0 0, .slice none 0 0]) ?_ 0 _ rfl; refine zP14 ?_; exact BK364.out) Try.underlying45 rfl (by kernel_rfl)) rfl ?_
       exact ⟨_, _, zE14, by first | exact Kd.R_nil _ _ _ _ _ | exact Kd.N_nil _ _ _ _ _ | exact Kd.V_nil _ _ _ _ _ | exact Kd.Q_nil _ _ _ _ _ | exact Kd.S_nil _ _ _ _ _, by first | exact Kd.R_nil _ _ _ _ _ | exact Kd.N_nil _ _ _ _ _ | exact Kd.V_nil _ _ _ _ _ | exact Kd.Q_nil _ _ _ _ _ | exact Kd.S_nil _ _ _ _ _, zB14_3⟩
      subst c62
      have H1 : (some (t365, x373001_2, t369, true)) = some (r1, r2, r3, r4) := by rw [if_pos rfl] at H; exact H
      clear H
      have H := H1
      clear H1
      simp only [Option.some.injEq, Prod.mk.injEq] at H
      obtain ⟨rfl, rfl, rfl, rfl⟩ := H
      have hnb63 := NB372_363.out
      have hnc63 := NB363_372.out
      have hnb64 := NB372_364.out
      have hnc64 := NB364_372.out
      obtain ⟨hcz65_0, hcz65_1, hcz65_2, hfz65_0, hfz65_1, hfz65_2⟩ := zc14_3 (w := wr) BK372.out
      obtain ⟨Ao66, co66, eo66⟩ := Kd.R_slice HO_373001.out
      subst eo66
      go_wp2_with (first | ((with_reducible refine gate_callee (f := 46) rfl ?_); refine goesL_ (some 52) rfl rfl Try.func46 (by kernel_rfl) rfl #[.agg #[.string t365, .slice Ao66 x373001_2.length co66, .slice Ao15 t369.length co15]] rfl zT14 ?_; (with_reducible refine (spec_PartOk.calls k2 t365 _ _ x373001_2 _ _ t369 true _ ?side1 ?side2 ?side3 ?side4 A61.out).mono ?_); (case side1 => exact zC14 (Kd.R_reads' HO_373001.out).2.2); (case side2 => exact (Kd.R_reads' HO_373001.out).2.1); (case side3 => exact zC14 (Kd.R_reads' HO_373002.out).2.2); (case side4 => exact (Kd.R_reads' HO_373002.out).2.1); rintro e w67 ⟨rfl, hb⟩; refine ⟨_, rfl, ?_⟩; have n0_ := Aside0.mk (Kd.R_below (zR14 HO_373001.out) hb); have n1_ := Aside0.mk (Kd.R_below (zR14 HO_373002.out) hb); have n2_ := Aside0.mk (zb14 BK363.out hb); have n3_ := Aside0.mk (zb14 BK364.out hb); have n4_ := Aside0.mk (zb14 BK372.out hb); have n5_ := Aside0.mk (below_step (zB14_3) hb); clear HO_373001; clear HO_373002; clear BK363; clear BK364; clear BK372; clear HB; have HO_373001 := n0_; have HO_373002 := n1_; have BK363 := n2_; have BK364 := n3_; have BK372 := n4_; have HB := n5_; clear n0_ n1_ n2_ n3_ n4_ n5_; (try clear hb); (try clear hb2); (try clear hk); (try clear hi); obtain ⟨hcz68_0, hcz68_1, hcz68_2, hfz68_0, hfz68_1, hfz68_2⟩ := zc14_3 (w := w67) BK372.out; have hnb69 := NB364_363.out; have hnc69 := NB363_364.out; obtain ⟨hcz70_0, hcz70_1, hcz70_2, hfz70_0, hfz70_1, hfz70_2⟩ := zc14_3 (w := w67) BK364.out))
      refine bodyPost_ret (results_ct rfl _ _ gb364 45 #[.string t365, .slice Ao66 x373001_2.length co66, .slice Ao15 t369.length co15] (0, 0) _ rfl (by refine zP14 ?_; refine blk_put (cs := #[.string t365, .slice Ao66 x373001_2.length co66, .slice none 0 0]) ?_ 2 _ rfl; refine zP14 ?_; refine blk_put (cs := #[.string t365, .slice none 0 0, .slice none 0 0]) ?_ 1 _ rfl; refine zP14 ?_; refine blk_put (cs := #[.string (⟨#[]⟩ : ByteArray), .slice none 0 0, .slice none 0 0]) ?_ 0 _ rfl; refine zP14 ?_; exact BK364.out) Try.underlying45 rfl (by kernel_rfl)) rfl ?_
      exact ⟨_, _, zE14, by (with_reducible repeat (first | apply Kd.R_alloc | apply Kd.R_drewN | apply Kd.R_drew)); exact Kd.R_mono (Kd.R_far (p := ⟨gb364, 2, none⟩) (Kd.R_far (p := ⟨gb364, 1, none⟩) (Kd.R_far (p := ⟨gb364, 0, none⟩) (Kd.R_types HO_373001.out BK364.out (by decide)) (fun _ hk => hk.2) (.string t365)) (fun _ hk => hk.2) (.slice Ao66 x373001_2.length co66)) (fun _ hk => hk.2) (.slice Ao15 t369.length co15)) (fun _ hk => trivial), by (with_reducible repeat (first | apply Kd.R_alloc | apply Kd.R_drewN | apply Kd.R_drew)); exact Kd.R_mono (Kd.R_far (p := ⟨gb364, 2, none⟩) (Kd.R_far (p := ⟨gb364, 1, none⟩) (Kd.R_far (p := ⟨gb364, 0, none⟩) (Kd.R_types HO_373002.out BK364.out (by decide)) (fun _ hk => hk.2) (.string t365)) (fun _ hk => hk.2) (.slice Ao66 x373001_2.length co66)) (fun _ hk => hk.2) (.slice Ao15 t369.length co15)) (fun _ hk => trivial), zB14_3⟩
     rw [if_pos c31] at H
     have c31b0 : decide (x7_2 < (x373001_2.length : Int)) = true := decide_eq_true c31
     clear c31
     by_cases c32 : 0 ≤ x7_2
     rotate_left
     ·rw [if_neg c32] at H
      exact absurd H (by simp)
     rw [if_pos c32] at H
     have c32b0 : decide (0 ≤ x7_2) = true := decide_eq_true c32
     clear c32
     replace H := Option.bind_eq_some_iff.mp H
     obtain ⟨t377, A330, H⟩ := H
     replace H : (if t377 = true then ((spec_l27Ref.f k2 a0_0 l0_1 l0_2 x7_2).bind fun t378 => (if t378 < 0 then (spec_Moved.l0 k2 a1 (wrap64 (x7_2 + 1)) a0_0 l0_1 l0_2 t365 (x373001_2.set (x7_2 : Int).toNat (⟨(rd_T52 x373001_2 x7_2).f0, (rd_T52 x373001_2 x7_2).f1, (rd_T52 x373001_2 x7_2).f2, (rd_T52 x373001_2 x7_2).f3, wrap64 (((rd_T52 x373001_2 x7_2).f4) + a1)⟩ : S52)) t369) else (spec_Moved.l0 k2 a1 (wrap64 (x7_2 + 1)) a0_0 l0_1 l0_2 t365 x373001_2 t369))) else (spec_Moved.l0 k2 a1 (wrap64 (x7_2 + 1)) a0_0 l0_1 l0_2 t365 x373001_2 t369)) = some (r1, r2, r3, r4) := H
     have A33 := Aside0.mk A330
     clear A330
     by_cases c34 : t377 = true
     rotate_left
     ·replace c34 := Bool.eq_false_iff.mpr c34
      subst c34
      have H1 : (spec_Moved.l0 k2 a1 (wrap64 (x7_2 + 1)) a0_0 l0_1 l0_2 t365 x373001_2 t369) = some (r1, r2, r3, r4) := by rw [if_neg (show ¬ (false = true) by decide)] at H; exact H
      clear H
      have H := H1
      clear H1
      have H' := Aside0.mk H
      clear H
      have hnb56 := NB372_363.out
      have hnc56 := NB363_372.out
      have hnb57 := NB372_364.out
      have hnc57 := NB364_372.out
      obtain ⟨hcz58_0, hcz58_1, hcz58_2, hfz58_0, hfz58_1, hfz58_2⟩ := zc14_3 (w := wr) BK372.out
      obtain ⟨Ao59, co59, eo59⟩ := Kd.R_slice HO_373001.out
      subst eo59
      have p376 : 0 ≤ (x7_2 : Int) := zA14
      have q376 : x7_2 < (x373001_2.length : Int) := zA14
      obtain ⟨ad376, e376, hx376_0, hx376_1, hx376_2, hx376_3, hx376_4⟩ := at_T52 (Kd.R_reads' HO_373001.out).2.2 x7_2 p376 q376
      cases e376
      replace p376 := eq_true p376
      replace q376 := eq_true q376
      go_wp2_with (first | ((with_reducible refine gate_callee (f := 115) rfl ?_); refine goesL_ (some 31) rfl rfl Try.func115 (by kernel_rfl) rfl #[.agg #[.int .i64 ((rd_T52 x373001_2 x7_2).f0), .int .i64 ((rd_T52 x373001_2 x7_2).f1), .int .i64 ((rd_T52 x373001_2 x7_2).f2), .int .i64 ((rd_T52 x373001_2 x7_2).f3), .int .i64 ((rd_T52 x373001_2 x7_2).f4)]] rfl zT14 ?_; (with_reducible refine (spec_l27Goes.calls ((rd_T52 x373001_2 x7_2).f0) ((rd_T52 x373001_2 x7_2).f1) ((rd_T52 x373001_2 x7_2).f2) ((rd_T52 x373001_2 x7_2).f3) ((rd_T52 x373001_2 x7_2).f4) false _ A33.out).mono ?_); rintro e w60 ⟨rfl, hb⟩; refine ⟨_, rfl, ?_⟩; have n0_ := Aside0.mk (Kd.R_below (zR14 HO_373001.out) hb); have n1_ := Aside0.mk (Kd.R_below (zR14 HO_373002.out) hb); have n2_ := Aside0.mk (zb14 BK363.out hb); have n3_ := Aside0.mk (zb14 BK364.out hb); have n4_ := Aside0.mk (zb14 BK372.out hb); have n5_ := Aside0.mk (below_step (zB14_3) hb); clear HO_373001; clear HO_373002; clear BK363; clear BK364; clear BK372; clear HB; have HO_373001 := n0_; have HO_373002 := n1_; have BK363 := n2_; have BK364 := n3_; have BK372 := n4_; have HB := n5_; clear n0_ n1_ n2_ n3_ n4_ n5_; (try clear hb); (try clear hb2); (try clear hk); (try clear hi)))
      go_roundg k2
      case measure => have := HJ3.out; have := HK2.out; omega
      case rel => exact ⟨(wrap64 (x7_2 + 1)), (x373001_2), (.slice (some ad376) x373001_2.length co59), (by first | rfl | (simp; done) | (simp [*]; done)), H', ⟨by have := HJ3.out; have := HK2.out; omega⟩, ⟨zR14 HO_373001.out⟩, ⟨zR14 HO_373002.out⟩, ⟨zK14 BK363.out⟩, ⟨zK14 BK364.out⟩, ⟨zK14 BK372.out⟩, ⟨zB14_3⟩⟩
     subst c34
     have H1 : ((spec_l27Ref.f k2 a0_0 l0_1 l0_2 x7_2).bind fun t378 => (if t378 < 0 then (spec_Moved.l0 k2 a1 (wrap64 (x7_2 + 1)) a0_0 l0_1 l0_2 t365 (x373001_2.set (x7_2 : Int).toNat (⟨(rd_T52 x373001_2 x7_2).f0, (rd_T52 x373001_2 x7_2).f1, (rd_T52 x373001_2 x7_2).f2, (rd_T52 x373001_2 x7_2).f3, wrap64 (((rd_T52 x373001_2 x7_2).f4) + a1)⟩ : S52)) t369) else (spec_Moved.l0 k2 a1 (wrap64 (x7_2 + 1)) a0_0 l0_1 l0_2 t365 x373001_2 t369))) = some (r1, r2, r3, r4) := by rw [if_pos rfl] at H; exact H
     clear H
     have H := H1
     clear H1
     replace H := Option.bind_eq_some_iff.mp H
     obtain ⟨t378, A350, H⟩ := H
     replace H : (if t378 < 0 then (spec_Moved.l0 k2 a1 (wrap64 (x7_2 + 1)) a0_0 l0_1 l0_2 t365 (x373001_2.set (x7_2 : Int).toNat (⟨(rd_T52 x373001_2 x7_2).f0, (rd_T52 x373001_2 x7_2).f1, (rd_T52 x373001_2 x7_2).f2, (rd_T52 x373001_2 x7_2).f3, wrap64 (((rd_T52 x373001_2 x7_2).f4) + a1)⟩ : S52)) t369) else (spec_Moved.l0 k2 a1 (wrap64 (x7_2 + 1)) a0_0 l0_1 l0_2 t365 x373001_2 t369)) = some (r1, r2, r3, r4) := H
     have A35 := Aside0.mk A350
     clear A350
     by_cases c36 : t378 < 0
     rotate_left
     ·rw [if_neg c36] at H
      have c36b0 : decide (t378 < 0) = false := decide_eq_false c36
      clear c36
      have H' := Aside0.mk H
      clear H
      have hnb48 := NB372_363.out
      have hnc48 := NB363_372.out
      have hnb49 := NB372_364.out
      have hnc49 := NB364_372.out
      obtain ⟨hcz50_0, hcz50_1, hcz50_2, hfz50_0, hfz50_1, hfz50_2⟩ := zc14_3 (w := wr) BK372.out
      obtain ⟨Ao51, co51, eo51⟩ := Kd.R_slice HO_373001.out
      subst eo51
      have p376 : 0 ≤ (x7_2 : Int) := zA14
      have q376 : x7_2 < (x373001_2.length : Int) := zA14
      obtain ⟨ad376, e376, hx376_0, hx376_1, hx376_2, hx376_3, hx376_4⟩ := at_T52 (Kd.R_reads' HO_373001.out).2.2 x7_2 p376 q376
      cases e376
      replace p376 := eq_true p376
      replace q376 := eq_true q376
      go_wp2_with (first | ((with_reducible refine gate_callee (f := 115) rfl ?_); refine goesL_ (some 31) rfl rfl Try.func115 (by kernel_rfl) rfl #[.agg #[.int .i64 ((rd_T52 x373001_2 x7_2).f0), .int .i64 ((rd_T52 x373001_2 x7_2).f1), .int .i64 ((rd_T52 x373001_2 x7_2).f2), .int .i64 ((rd_T52 x373001_2 x7_2).f3), .int .i64 ((rd_T52 x373001_2 x7_2).f4)]] rfl zT14 ?_; (with_reducible refine (spec_l27Goes.calls ((rd_T52 x373001_2 x7_2).f0) ((rd_T52 x373001_2 x7_2).f1) ((rd_T52 x373001_2 x7_2).f2) ((rd_T52 x373001_2 x7_2).f3) ((rd_T52 x373001_2 x7_2).f4) true _ A33.out).mono ?_); rintro e w52 ⟨rfl, hb⟩; refine ⟨_, rfl, ?_⟩; have n0_ := Aside0.mk (Kd.R_below (zR14 HO_373001.out) hb); have n1_ := Aside0.mk (Kd.R_below (zR14 HO_373002.out) hb); have n2_ := Aside0.mk (zb14 BK363.out hb); have n3_ := Aside0.mk (zb14 BK364.out hb); have n4_ := Aside0.mk (zb14 BK372.out hb); have n5_ := Aside0.mk (below_step (zB14_3) hb); clear HO_373001; clear HO_373002; clear BK363; clear BK364; clear BK372; clear HB; have HO_373001 := n0_; have HO_373002 := n1_; have BK363 := n2_; have BK364 := n3_; have BK372 := n4_; have HB := n5_; clear n0_ n1_ n2_ n3_ n4_ n5_; (try clear hb); (try clear hb2); (try clear hk); (try clear hi); have hnb53 := NB363_364.out; have hnc53 := NB364_363.out; obtain ⟨hcz54_0, hcz54_1, hcz54_2, hfz54_0, hfz54_1, hfz54_2⟩ := zc14_3 (w := w52) BK363.out) | (go_at_call 102; (with_reducible refine (spec_l27Ref.calls k2 a0_0 _ _ l0_1 _ _ l0_2 x7_2 t378 _ ?side1 ?side2 ?side3 ?side4 A35.out).mono ?_); (case side1 => exact zC14 (Kd.C_below HR0_1.out HB.out)); (case side2 => exact HC0_1.out); (case side3 => exact zC14 (Kd.C_below HR0_2.out HB.out)); (case side4 => exact HC0_2.out); rintro e w55 ⟨rfl, hb⟩; have n0_ := Aside0.mk (Kd.R_below (zR14 HO_373001.out) hb); have n1_ := Aside0.mk (Kd.R_below (zR14 HO_373002.out) hb); have n2_ := Aside0.mk (zb14 BK363.out hb); have n3_ := Aside0.mk (zb14 BK364.out hb); have n4_ := Aside0.mk (zb14 BK372.out hb); have n5_ := Aside0.mk (below_step (zB14_3) hb); clear HO_373001; clear HO_373002; clear BK363; clear BK364; clear BK372; clear HB; have HO_373001 := n0_; have HO_373002 := n1_; have BK363 := n2_; have BK364 := n3_; have BK372 := n4_; have HB := n5_; clear n0_ n1_ n2_ n3_ n4_ n5_; (try clear hb); (try clear hb2); (try clear hk); (try clear hi)))
      go_roundg k2
      case measure => have := HJ3.out; have := HK2.out; omega
      case rel => exact ⟨(wrap64 (x7_2 + 1)), (x373001_2), (.slice (some ad376) x373001_2.length co51), (by first | rfl | (simp; done) | (simp [*]; done)), H', ⟨by have := HJ3.out; have := HK2.out; omega⟩, ⟨zR14 HO_373001.out⟩, ⟨zR14 HO_373002.out⟩, ⟨zK14 BK363.out⟩, ⟨zK14 BK364.out⟩, ⟨zK14 BK372.out⟩, ⟨zB14_3⟩⟩
     rw [if_pos c36] at H
     have c36b0 : decide (t378 < 0) = true := decide_eq_true c36
     clear c36
     obtain ⟨y380, hy380⟩ : ∃ y_ : List (S52), y_ = (x373001_2.set (x7_2 : Int).toNat (⟨(rd_T52 x373001_2 x7_2).f0, (rd_T52 x373001_2 x7_2).f1, (rd_T52 x373001_2 x7_2).f2, (rd_T52 x373001_2 x7_2).f3, wrap64 (((rd_T52 x373001_2 x7_2).f4) + a1)⟩ : S52)) := ⟨_, rfl⟩
     replace H : (spec_Moved.l0 k2 a1 (wrap64 (x7_2 + 1)) a0_0 l0_1 l0_2 t365 y380 t369) = some (r1, r2, r3, r4) := by first | (rw [hy380]; with_reducible exact H) | (have H2_ := (Option.bind_some _ _).symm.trans H; rw [hy380]; with_reducible exact H2_) | (have H2_ := (Option.bind_some _ _).symm.trans H; with_reducible exact H2_) | with_reducible exact H | (rw [hy380]; exact H) | exact H
     have Ny380 := Aside0.mk hy380
     clear hy380
     have H' := Aside0.mk H
     clear H
     have hnb38 := NB372_363.out
     have hnc38 := NB363_372.out
     have hnb39 := NB372_364.out
     have hnc39 := NB364_372.out
     obtain ⟨hcz40_0, hcz40_1, hcz40_2, hfz40_0, hfz40_1, hfz40_2⟩ := zc14_3 (w := wr) BK372.out
     obtain ⟨Ao41, co41, eo41⟩ := Kd.R_slice HO_373001.out
     subst eo41
     have p376 : 0 ≤ (x7_2 : Int) := zA14
     have q376 : x7_2 < (x373001_2.length : Int) := zA14
     obtain ⟨ad376, e376, hx376_0, hx376_1, hx376_2, hx376_3, hx376_4⟩ := at_T52 (Kd.R_reads' HO_373001.out).2.2 x7_2 p376 q376
     cases e376
     replace p376 := eq_true p376
     replace q376 := eq_true q376
     try go_wp2_with (first | ((with_reducible refine gate_callee (f := 115) rfl ?_); refine goesL_ (some 31) rfl rfl Try.func115 (by kernel_rfl) rfl #[.agg #[.int .i64 ((rd_T52 x373001_2 x7_2).f0), .int .i64 ((rd_T52 x373001_2 x7_2).f1), .int .i64 ((rd_T52 x373001_2 x7_2).f2), .int .i64 ((rd_T52 x373001_2 x7_2).f3), .int .i64 ((rd_T52 x373001_2 x7_2).f4)]] rfl zT14 ?_; (with_reducible refine (spec_l27Goes.calls ((rd_T52 x373001_2 x7_2).f0) ((rd_T52 x373001_2 x7_2).f1) ((rd_T52 x373001_2 x7_2).f2) ((rd_T52 x373001_2 x7_2).f3) ((rd_T52 x373001_2 x7_2).f4) true _ A33.out).mono ?_); rintro e w42 ⟨rfl, hb⟩; refine ⟨_, rfl, ?_⟩; have n0_ := Aside0.mk (Kd.R_below (zR14 HO_373001.out) hb); have n1_ := Aside0.mk (Kd.R_below (zR14 HO_373002.out) hb); have n2_ := Aside0.mk (zb14 BK363.out hb); have n3_ := Aside0.mk (zb14 BK364.out hb); have n4_ := Aside0.mk (zb14 BK372.out hb); have n5_ := Aside0.mk (below_step (zB14_3) hb); clear HO_373001; clear HO_373002; clear BK363; clear BK364; clear BK372; clear HB; have HO_373001 := n0_; have HO_373002 := n1_; have BK363 := n2_; have BK364 := n3_; have BK372 := n4_; have HB := n5_; clear n0_ n1_ n2_ n3_ n4_ n5_; (try clear hb); (try clear hb2); (try clear hk); (try clear hi); have hnb43 := NB363_364.out; have hnc43 := NB364_363.out; obtain ⟨hcz44_0, hcz44_1, hcz44_2, hfz44_0, hfz44_1, hfz44_2⟩ := zc14_3 (w := w42) BK363.out) | (go_at_call 102; (with_reducible refine (spec_l27Ref.calls k2 a0_0 _ _ l0_1 _ _ l0_2 x7_2 t378 _ ?side1 ?side2 ?side3 ?side4 A35.out).mono ?_); (case side1 => exact zC14 (Kd.C_below HR0_1.out HB.out)); (case side2 => exact HC0_1.out); (case side3 => exact zC14 (Kd.C_below HR0_2.out HB.out)); (case side4 => exact HC0_2.out); rintro e w45 ⟨rfl, hb⟩; have n0_ := Aside0.mk (Kd.R_below (zR14 HO_373001.out) hb); have n1_ := Aside0.mk (Kd.R_below (zR14 HO_373002.out) hb); have n2_ := Aside0.mk (zb14 BK363.out hb); have n3_ := Aside0.mk (zb14 BK364.out hb); have n4_ := Aside0.mk (zb14 BK372.out hb); have n5_ := Aside0.mk (below_step (zB14_3) hb); clear HO_373001; clear HO_373002; clear BK363; clear BK364; clear BK372; clear HB; have HO_373001 := n0_; have HO_373002 := n1_; have BK363 := n2_; have BK364 := n3_; have BK372 := n4_; have HB := n5_; clear n0_ n1_ n2_ n3_ n4_ n5_; (try clear hb); (try clear hb2); (try clear hk); (try clear hi)))
     have n0_ := Aside0.mk (Kd.R_drew HO_373001.out)
     have n1_ := Aside0.mk (Kd.R_drew HO_373002.out)
     have n2_ := Aside0.mk (blk_drew BK363.out)
     have n3_ := Aside0.mk (blk_drew BK364.out)
     have n4_ := Aside0.mk (blk_drew BK372.out)
     have n5_ := Aside0.mk (below_drew1 HB.out)
     clear HO_373001 HO_373002 BK363 BK364 BK372 HB
     have HO_373001 := n0_
     have HO_373002 := n1_
     have BK363 := n2_
     have BK364 := n3_
     have BK372 := n4_
     have HB := n5_
     clear n0_ n1_ n2_ n3_ n4_ n5_
     have p379 : 0 ≤ (x7_2 : Int) := zA14
     have q379 : x7_2 < (x373001_2.length : Int) := zA14
     obtain ⟨ad379, e379, hx379_0, hx379_1, hx379_2, hx379_3, hx379_4⟩ := at_T52 (Kd.R_reads' HO_373001.out).2.2 x7_2 p379 q379
     obtain rfl : ad376 = ad379 := (by injection e379)
     replace p379 := eq_true p379
     replace q379 := eq_true q379
     have p37 : 0 ≤ (x7_2 : Int) := zA14
     have q37 : (x7_2 : Int) < ((x373001_2.length : Int) : Int) := zA14
     obtain ⟨go37, co37, eo37, gb37, gl37, cl37, HG37⟩ := Kd.R_form HO_373001.out (by omega)
     (first | cases eo37 | (injection eo37 with ea_ en_ ec_; (first | subst ea_ | (injection ea_ with ea_; subst ea_)); subst ec_; clear en_))
     have GB37 := Aside0.mk gb37
     have GG37 := Aside0.mk HG37
     clear gb37 gl37 HG37
     (first | simp only [add_plain] at hx376_0 | skip)
     (first | simp only [add_plain] at hx376_1 | skip)
     (first | simp only [add_plain] at hx376_2 | skip)
     (first | simp only [add_plain] at hx376_3 | skip)
     (first | simp only [add_plain] at hx376_4 | skip)
     (first | simp only [add_plain] at hx379_0 | skip)
     (first | simp only [add_plain] at hx379_1 | skip)
     (first | simp only [add_plain] at hx379_2 | skip)
     (first | simp only [add_plain] at hx379_3 | skip)
     (first | simp only [add_plain] at hx379_4 | skip)
     obtain ⟨ce37, hcl37, hM37, hcc37, hfr37⟩ := Kd.R_elem HO_373001.out z52 (x7_2 : Int) p37 q37
     obtain rfl := k52_openM hM37
     have hx37_0 : World.cell? _ ⟨go37, (x7_2 : Int).toNat * 5, none⟩ = some (.int .i64 ((rd_T52 x373001_2 x7_2).f0)) := hcc37 0 _ rfl
     have hx37_1 : World.cell? _ ⟨go37, (x7_2 : Int).toNat * 5 + 1, none⟩ = some (.int .i64 ((rd_T52 x373001_2 x7_2).f1)) := hcc37 1 _ rfl
     have hx37_2 : World.cell? _ ⟨go37, (x7_2 : Int).toNat * 5 + 2, none⟩ = some (.int .i64 ((rd_T52 x373001_2 x7_2).f2)) := hcc37 2 _ rfl
     have hx37_3 : World.cell? _ ⟨go37, (x7_2 : Int).toNat * 5 + 3, none⟩ = some (.int .i64 ((rd_T52 x373001_2 x7_2).f3)) := hcc37 3 _ rfl
     have hx37_4 : World.cell? _ ⟨go37, (x7_2 : Int).toNat * 5 + 4, none⟩ = some (.int .i64 ((rd_T52 x373001_2 x7_2).f4)) := hcc37 4 _ rfl
     have hf37_0 : World.frozen? _ ⟨go37, (x7_2 : Int).toNat * 5, none⟩ = false := hfr37 0
     have hf37_1 : World.frozen? _ ⟨go37, (x7_2 : Int).toNat * 5 + 1, none⟩ = false := hfr37 1
     have hf37_2 : World.frozen? _ ⟨go37, (x7_2 : Int).toNat * 5 + 2, none⟩ = false := hfr37 2
     have hf37_3 : World.frozen? _ ⟨go37, (x7_2 : Int).toNat * 5 + 3, none⟩ = false := hfr37 3
     have hf37_4 : World.frozen? _ ⟨go37, (x7_2 : Int).toNat * 5 + 4, none⟩ = false := hfr37 4
     clear hcl37 hcc37 hfr37 hM37
     replace p37 := eq_true p37
     replace q37 := eq_true q37
     obtain ⟨ce47, hcl47, hM47, hcc47, hfr47⟩ := Kd.R_elem HO_373001.out z52 (x7_2 : Int) (zA14) (by have h_ : (x7_2 : Int) < ((x373001_2.length : Int) : Int) := zA14; first | exact h_ | (have e_ := (Kd.R_reads' HO_373001.out).1; omega) | simpa using h_)
     obtain rfl := k52_openM hM47
     have HP47 := (Kd.R_seg HO_373001.out (x7_2 : Int) (zA14) (by have h_ : (x7_2 : Int) < ((x373001_2.length : Int) : Int) := zA14; first | exact h_ | (have e_ := (Kd.R_reads' HO_373001.out).1; omega) | simpa using h_) (seg := [.int .i64 (wrap64 (((rd_T52 x373001_2 x7_2).f4) + a1))]) (j := 4) hcl47 hcc47 (show 5 ≤ 5 from by decide) (x' := (⟨(rd_T52 x373001_2 x7_2).f0, (rd_T52 x373001_2 x7_2).f1, (rd_T52 x373001_2 x7_2).f2, (rd_T52 x373001_2 x7_2).f3, wrap64 (((rd_T52 x373001_2 x7_2).f4) + a1)⟩ : S52)) (k52_mkM _ _ _ (⟨(rd_T52 x373001_2 x7_2).f0, (rd_T52 x373001_2 x7_2).f1, (rd_T52 x373001_2 x7_2).f2, (rd_T52 x373001_2 x7_2).f3, wrap64 (((rd_T52 x373001_2 x7_2).f4) + a1)⟩ : S52) ) (fun _ hk => hk)).1
     rw [← Ny380.out] at HP47
     have HQ47 := Aside0.mk HP47
     clear hcl47 hcc47 hfr47 hM47 HP47
     refine start_ (n := 14) (S := fun w' => w'.cell? ⟨gb372, 0, none⟩ = some (.string t365) ∧ w'.cell? ⟨gb372, 1, none⟩ = some (.slice (some ⟨go37, 0, none⟩) x373001_2.length co41) ∧ w'.cell? ⟨gb372, 2, none⟩ = some (.slice Ao15 t369.length co15) ∧ w'.cell? ⟨go37, ((x7_2).toNat * 5), none⟩ = some (.int .i64 ((rd_T52 x373001_2 x7_2).f0)) ∧ w'.cell? ⟨go37, ((x7_2).toNat * 5) + 1, none⟩ = some (.int .i64 ((rd_T52 x373001_2 x7_2).f1)) ∧ w'.cell? ⟨go37, ((x7_2).toNat * 5) + 2, none⟩ = some (.int .i64 ((rd_T52 x373001_2 x7_2).f2)) ∧ w'.cell? ⟨go37, ((x7_2).toNat * 5) + 3, none⟩ = some (.int .i64 ((rd_T52 x373001_2 x7_2).f3)) ∧ w'.cell? ⟨go37, ((x7_2).toNat * 5) + 4, none⟩ = some (.int .i64 ((rd_T52 x373001_2 x7_2).f4))) (ds := [13]) #[false, false, false, false, false, false, false, false, false, false, false, false, false, false] (by kernel_rfl) rfl rfl ⟨(blk_cell BK372.out 0).trans rfl, (blk_cell BK372.out 1).trans rfl, (blk_cell BK372.out 2).trans rfl, hx379_0, hx379_1, hx379_2, hx379_3, hx379_4⟩ (fun hHeld => ?_); refine with_tabW spec_Moved.tab8 spec_Moved.bits8 (fun HT_ HW_ => ?_)
     generalize w45.drew = w46 at HO_373001 HO_373002 BK363 BK364 BK372 HB GG37 HQ47 hf37_0 hf37_1 hf37_2 hf37_3 hf37_4 hx376_0 hx376_1 hx376_2 hx376_3 hx376_4 hx379_0 hx379_1 hx379_2 hx379_3 hx379_4 hx37_0 hx37_1 hx37_2 hx37_3 hx37_4 hHeld ⊢
     refine pure_ (i := 0) (N := some 38) (v := ?_) (a' := ?_) #[true, false, false, false, false, false, false, false, false, false, false, false, false, false] rfl rfl (any_of HT_.out (by kernel_rfl)) (fun _ _ _ h => h) (Or.inl ⟨by rfl, ?_⟩) ?_ ?_
     rotate_left
     ·intro w'
      go_simp
      with_reducible rfl
     rotate_left
     ·exact zV14
     refine pure_ (i := 2) (N := some 40) (v := ?_) (a' := ?_) #[true, false, true, false, false, false, false, false, false, false, false, false, false, false] rfl rfl (any_of HT_.out (by kernel_rfl)) (fun _ _ _ h => h) (Or.inl ⟨by rfl, ?_⟩) ?_ ?_
     rotate_left
     ·intro w'
      go_simp
      with_reducible rfl
     rotate_left
     ·exact zV14
     refine pure_ (i := 3) (N := some 41) (v := ?_) (a' := ?_) #[true, false, true, true, false, false, false, false, false, false, false, false, false, false] rfl rfl (any_of HT_.out (by kernel_rfl)) (fun _ _ _ h => h) (Or.inl ⟨by rfl, ?_⟩) ?_ ?_
     rotate_left
     ·intro w'
      go_simp
      with_reducible rfl
     rotate_left
     ·exact zV14
     refine pure_ (i := 5) (N := some 43) (v := ?_) (a' := ?_) #[true, false, true, true, false, true, false, false, false, false, false, false, false, false] rfl rfl (any_of HT_.out (by kernel_rfl)) (fun _ _ _ h => h) (Or.inl ⟨by rfl, ?_⟩) ?_ ?_
     rotate_left
     ·intro w'
      go_simp
      with_reducible rfl
     rotate_left
     ·exact zV14
     refine pure_ (i := 9) (N := some 47) (v := ?_) (a' := ?_) #[true, false, true, true, false, true, false, false, false, true, false, false, false, false] rfl rfl (any_of HT_.out (by kernel_rfl)) (fun _ _ _ h => h) (Or.inl ⟨by rfl, ?_⟩) ?_ ?_
     rotate_left
     ·intro w'
      go_simp
      with_reducible rfl
     rotate_left
     ·exact zV14
     refine take_ (i := 1) (N := some 39) (v := ?_) (a' := ?_) #[true, true, true, true, false, true, false, false, false, true, false, false, false, false] rfl rfl (take_ofW HT_.out HW_.out (by kernel_rfl)) (fun _ _ _ h => h) (Or.inl ⟨by rfl, ?_⟩) hHeld ?_ ?_
     rotate_left
     ·rintro w' ⟨s0, s1, s2, s3, s4, s5, s6, s7⟩
      go_simp
      with_reducible rfl
     rotate_left
     ·exact zV14
     refine take_ (i := 4) (N := some 42) (v := ?_) (a' := ?_) #[true, true, true, true, true, true, false, false, false, true, false, false, false, false] rfl rfl (take_ofW HT_.out HW_.out (by kernel_rfl)) (fun _ _ _ h => h) (Or.inl ⟨by rfl, ?_⟩) hHeld ?_ ?_
     rotate_left
     ·rintro w' ⟨s0, s1, s2, s3, s4, s5, s6, s7⟩
      go_simp
      with_reducible rfl
     rotate_left
     ·exact zV14
     refine pure_ (i := 6) (N := some 44) (v := ?_) (a' := ?_) #[true, true, true, true, true, true, true, false, false, true, false, false, false, false] rfl rfl (any_of HT_.out (by kernel_rfl)) (fun _ _ _ h => h) (Or.inl ⟨by rfl, ?_⟩) ?_ ?_
     rotate_left
     ·intro w'
      go_simp
      with_reducible rfl
     rotate_left
     ·exact zV14
     refine pure_ (i := 7) (N := some 45) (v := ?_) (a' := ?_) #[true, true, true, true, true, true, true, true, false, true, false, false, false, false] rfl rfl (any_of HT_.out (by kernel_rfl)) (fun _ _ _ h => h) (Or.inl ⟨by rfl, ?_⟩) ?_ ?_
     rotate_left
     ·intro w'
      go_simp
      with_reducible rfl
     rotate_left
     ·exact zV14
     refine take_ (i := 8) (N := some 46) (v := ?_) (a' := ?_) #[true, true, true, true, true, true, true, true, true, true, false, false, false, false] rfl rfl (take_ofW HT_.out HW_.out (by kernel_rfl)) (fun _ _ _ h => h) (Or.inl ⟨by rfl, ?_⟩) hHeld ?_ ?_
     rotate_left
     ·rintro w' ⟨s0, s1, s2, s3, s4, s5, s6, s7⟩
      go_simp
      with_reducible rfl
     rotate_left
     ·exact zV14
     refine pure_ (i := 10) (N := some 48) (v := ?_) (a' := ?_) #[true, true, true, true, true, true, true, true, true, true, true, false, false, false] rfl rfl (any_of HT_.out (by kernel_rfl)) (fun _ _ _ h => h) (Or.inl ⟨by rfl, ?_⟩) ?_ ?_
     rotate_left
     ·intro w'
      go_simp
      with_reducible rfl
     rotate_left
     ·exact zV14
     refine pure_ (i := 11) (N := some 49) (v := ?_) (a' := ?_) #[true, true, true, true, true, true, true, true, true, true, true, true, false, false] rfl rfl (any_of HT_.out (by kernel_rfl)) (fun _ _ _ h => h) (Or.inl ⟨by rfl, ?_⟩) ?_ ?_
     rotate_left
     ·intro w'
      go_simp
      with_reducible rfl
     rotate_left
     ·exact zV14
     refine pure_ (i := 12) (N := some 50) (v := ?_) (a' := ?_) #[true, true, true, true, true, true, true, true, true, true, true, true, true, false] rfl rfl (any_of HT_.out (by kernel_rfl)) (fun _ _ _ h => h) (Or.inl ⟨by rfl, ?_⟩) ?_ ?_
     rotate_left
     ·intro w'
      go_simp
      with_reducible rfl
     rotate_left
     ·exact zV14
     refine last_ (i := 13) (N := none) #[true, true, true, true, true, true, true, true, true, true, true, true, true, true] rfl rfl (one_of HT_.out (by kernel_rfl)) (by decide) (fun K hK => ?_)
     refine skip_ (w1 := ?_) (by rfl) rfl ?_ ?_
     rotate_left
     ·go_simp
      rfl
     refine hK.out _ _ ?_
     clear hK K
     refine done_ (done_of HT_.out (by kernel_rfl)) ?_
     try go_wp2
     go_roundg k2
     case measure => have := HJ3.out; have := HK2.out; omega
     case rel => exact ⟨(wrap64 (x7_2 + 1)), (y380), (.slice (some ⟨go37, 0, none⟩) x373001_2.length co41), (by first | rfl | (simp; done) | (simp [*]; done)), H', ⟨by have := HJ3.out; have := HK2.out; omega⟩, ⟨zR14 HQ47.out⟩, ⟨by (with_reducible repeat (first | apply Kd.R_alloc | apply Kd.R_drewN | apply Kd.R_drew)); exact Kd.R_mono (Kd.R_far (p := ⟨go37, (x7_2 : Int).toNat * 5 + 4, none⟩) (Kd.R_types HO_373002.out GG37.out (by decide)) (fun _ hk => hk.2) (.int .i64 (wrap64 (((rd_T52 x373001_2 x7_2).f4) + a1)))) (fun _ hk => trivial)⟩, ⟨by refine zP14 ?_; refine blk_far ?_ (by have h_ := Kd.R_ne HO_373001.out BK363.out (by decide); intro e_; exact h_ (by rw [e_]; rfl)) _; refine zP14 ?_; exact BK363.out⟩, ⟨by refine zP14 ?_; refine blk_far ?_ (by have h_ := Kd.R_ne HO_373001.out BK364.out (by decide); intro e_; exact h_ (by rw [e_]; rfl)) _; refine zP14 ?_; exact BK364.out⟩, ⟨by refine zP14 ?_; refine blk_far ?_ (by have h_ := Kd.R_ne HO_373001.out BK372.out (by decide); intro e_; exact h_ (by rw [e_]; rfl)) _; refine zP14 ?_; exact BK372.out⟩, ⟨zB14_4⟩⟩

end Go.Proofs.Ytnekcbajadnldaa.PFnMoved
