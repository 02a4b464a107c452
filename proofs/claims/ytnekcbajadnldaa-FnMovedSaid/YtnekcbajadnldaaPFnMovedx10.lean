-- made by wip/tools/myprint.py out of the seat's translation
import Derived.Test.YtnekcbajadnldaaPFnMovedx0
import Derived.Test.YtnekcbajadnldaaPFnMovedx6
import Derived.Test.YtnekcbajadnldaaPFnMovedx7
import Derived.Test.YtnekcbajadnldaaPFnMovedx8
import Derived.Test.YtnekcbajadnldaaPFnMovedx9
namespace Go.Proofs.Ytnekcbajadnldaa.PFnMoved
open Go.RowKit Go.Proofs.YtnekcbajadnldaaW.PrintWords Go.Proofs.YtnekcbajadnldaaW.PrintLast Go.Proofs.YtnekcbajadnldaaW.PrintMore
attribute [local go_sem] max2_int min2_int max_two min_two max_three min_three max_four min_four   -- for this text's walks alone
set_option linter.unusedVariables false
set_option linter.unusedSimpArgs false
theorem zc10_3 {w : World} {g : Nat} {a0 a1 a2 : Value} {t : TypeId} (h : w.heap[g]? = some (.cells #[a0, a1, a2] t (0, 0))) : w.cell? ⟨g, 0, none⟩ = some a0 ∧ w.cell? ⟨g, 1, none⟩ = some a1 ∧ w.cell? ⟨g, 2, none⟩ = some a2 ∧ w.frozen? ⟨g, 0, none⟩ = false ∧ w.frozen? ⟨g, 1, none⟩ = false ∧ w.frozen? ⟨g, 2, none⟩ = false := ⟨(blk_cell h 0).trans rfl, (blk_cell h 1).trans rfl, (blk_cell h 2).trans rfl, blk_frozen h 0, blk_frozen h 1, blk_frozen h 2⟩
theorem zc10_5 {w : World} {g : Nat} {a0 a1 a2 a3 a4 : Value} {t : TypeId} (h : w.heap[g]? = some (.cells #[a0, a1, a2, a3, a4] t (0, 0))) : w.cell? ⟨g, 0, none⟩ = some a0 ∧ w.cell? ⟨g, 1, none⟩ = some a1 ∧ w.cell? ⟨g, 2, none⟩ = some a2 ∧ w.cell? ⟨g, 3, none⟩ = some a3 ∧ w.cell? ⟨g, 4, none⟩ = some a4 ∧ w.frozen? ⟨g, 0, none⟩ = false ∧ w.frozen? ⟨g, 1, none⟩ = false ∧ w.frozen? ⟨g, 2, none⟩ = false ∧ w.frozen? ⟨g, 3, none⟩ = false ∧ w.frozen? ⟨g, 4, none⟩ = false := ⟨(blk_cell h 0).trans rfl, (blk_cell h 1).trans rfl, (blk_cell h 2).trans rfl, (blk_cell h 3).trans rfl, (blk_cell h 4).trans rfl, blk_frozen h 0, blk_frozen h 1, blk_frozen h 2, blk_frozen h 3, blk_frozen h 4⟩
abbrev zq10_0 : Array Bool := #[true, true, true, true, true, true, true, true, true, true, false]
abbrev zq10_1 : Array Bool := #[true, true, true, true, true, true, true, false, false, true, false]
abbrev zq10_2 : Array Bool := #[true, true, true, true, true, true, true, true, false, true, false]
theorem zR10 {p q : Prop} (x : q) (h : q → p := by intro h; (with_reducible repeat (first | apply Kd.R_alloc | apply Kd.R_drewN | apply Kd.R_drew)); exact h) : p := h x
theorem zK10 {p q : Prop} (x : q) (h : q → p := by intro h; (with_reducible repeat (first | refine blk_drewN ?_ _ | refine blk_drew ?_ | refine blk_alloc ?_ _)); exact h) : p := h x
theorem zA10 {p : Prop} [Decidable p] (h : decide p = true := by first | (with_reducible assumption) | assumption) : p := of_decide_eq_true h
theorem zT10 {p : Prop} (h : p := by (try simp only [List.map_toArray, List.map_cons, List.map_nil]); first | done | rfl | (simp only [List.length_drop, List.length_take]; rfl)) : p := h
theorem zC10 {p q : Prop} (x : q) (h : q → p := by intro h; repeat (first | exact h | (with_reducible refine Kd.C_alloc ?_ _) | (with_reducible refine Kd.C_drewN ?_ _) | (with_reducible refine Kd.C_drew ?_))) : p := h x
theorem zb10 {W w w1 : World} {g : Nat} {o : Obj} (x : W.heap[g]? = some o) (hb : Below w.heap.size w w1) (h : W.heap[g]? = some o → w.heap[g]? = some o := by intro h; (with_reducible repeat (first | refine blk_drewN ?_ _ | refine blk_drew ?_ | refine blk_alloc ?_ _)); exact h) : w1.heap[g]? = some o := blk_below (h x) hb
theorem zg10 {W w w1 : World} {g : Nat} {o : Obj} {row : Option Nat} (x : W.heap[g]? = some o) (hg : w.grownBy w1 row) (hne : some g ≠ row) (h : W.heap[g]? = some o → w.heap[g]? = some o := by intro h; (with_reducible repeat (first | refine blk_drewN ?_ _ | refine blk_drew ?_ | refine blk_alloc ?_ _)); exact h) : w1.heap[g]? = some o := blk_grown (h x) hg hne
theorem zn10 {W w : World} {g g' : Nat} {o : Obj} (x : W.heap[g]? = some o) (hg : g' = w.heap.size) (h : W.heap[g]? = some o → w.heap[g]? = some o := by intro h; (with_reducible repeat (first | refine blk_drewN ?_ _ | refine blk_drew ?_ | refine blk_alloc ?_ _)); exact h) : g ≠ g' := by rw [hg]; exact Nat.ne_of_lt (blk_lt (h x))
theorem zm10 {W w : World} {g g' : Nat} {o : Obj} (x : W.heap[g]? = some o) (hg : g' = w.heap.size) (h : W.heap[g]? = some o → w.heap[g]? = some o := by intro h; (with_reducible repeat (first | refine blk_drewN ?_ _ | refine blk_drew ?_ | refine blk_alloc ?_ _)); exact h) : g' ≠ g := by rw [hg]; exact Nat.ne_of_gt (blk_lt (h x))
theorem zP10 {p q : Prop} (x : q) (h : q → p := by intro h; (with_reducible repeat (first | refine blk_drewN ?_ _ | refine blk_drew ?_ | refine blk_alloc ?_ _)); exact h) : p := h x
theorem zV10 {a b : Act} (h : a = b := by simp only [Act.put, List.setIfInBounds_toArray, List.set_cons_zero, List.set_cons_succ, i64_w, i32_w]; rfl) : a = b := h
theorem zE10 {p : Prop} (h : p := by first | rfl | (simp [errW_none, errW_some] <;> rfl) | (simp [*, errW_none, errW_some] <;> rfl)) : p := h
theorem zB10_0 {p : Prop} (h : p := by repeat (first | (with_reducible first | exact HB.out | apply below_alloc | apply pw_below_drewN | apply below_drew1) | exact HB.out)) : p := h
theorem zB10_1 {p : Prop} (h : p := by repeat (first | (with_reducible first | exact HB.out | apply below_alloc | apply pw_below_drewN | apply below_drew1 | refine below_set ?_ GE307.out) | exact HB.out)) : p := h
theorem zB10_2 {p : Prop} (h : p := by repeat (first | (with_reducible first | exact HB.out | apply below_alloc | apply pw_below_drewN | apply below_drew1 | refine below_set ?_ GE307.out | refine below_set ?_ GE308.out) | exact HB.out)) : p := h
theorem zB10_3 {p : Prop} (h : p := by repeat (first | (with_reducible first | exact HB.out | apply below_alloc | apply pw_below_drewN | apply below_drew1 | refine below_set ?_ GE307.out | refine below_set ?_ GE308.out | refine below_set ?_ GE317.out) | exact HB.out)) : p := h
theorem zB10_4 {p : Prop} (h : p := by repeat (first | (with_reducible first | exact HB.out | apply below_alloc | apply pw_below_drewN | apply below_drew1 | refine below_set ?_ GE307.out | refine below_set ?_ GE308.out | refine below_set ?_ GE317.out | refine below_set ?_ GE319.out) | exact HB.out)) : p := h

/-! ### impl_Moved: function 50 -/
mutual
def impl_Moved.j0 : Nat → Int → Bool → ByteArray → List (S52) → List (S56) → Option (ByteArray × (List (S52)) × (List (S56)) × Bool)
 | 0, _, _, _, _, _ => none
 | k + 1, x1, x16, x308000, x308001, x308002 => if x16 = true then (some ((⟨#[]⟩ : ByteArray), ([] : List (S52)), ([] : List (S56)), false)) else ((impl_Ins_100.f x308001).bind fun t311 => ((impl_Ref_118.f x308002).bind fun t314 => (impl_Moved.l0 k x1 x308001 (x308001.length : Int) 0 x308000 x308001 x308002 x308000 t311 t314)))
def impl_Moved.l0 : Nat → Int → List (S52) → Int → Int → ByteArray → List (S52) → List (S56) → ByteArray → List (S52) → List (S56) → Option (ByteArray × (List (S52)) × (List (S56)) × Bool)
 | 0, _, _, _, _, _, _, _, _, _, _ => none
 | k + 1, x1, x28, x29, x30, x308000, x308001, x308002, x318000, x318001, x318002 => if x30 < x29 then (if 0 ≤ x30 then (if x30 < (x28.length : Int) then ((impl_goesTo.f ((rd_T52 x28 x30).f0) ((rd_T52 x28 x30).f1) ((rd_T52 x28 x30).f2) ((rd_T52 x28 x30).f3) ((rd_T52 x28 x30).f4)).bind fun t320 => (if t320 = true then ((impl_isRef.f x308002 x30).bind fun t321 => (impl_Moved.j2 k x1 x30 x28 x29 x30 t321 x308000 x308001 x308002 x318000 x318001 x318002)) else (impl_Moved.j2 k x1 x30 x28 x29 x30 true x308000 x308001 x308002 x318000 x318001 x318002))) else (none)) else (none)) else (some (x318000, x318001, x318002, true))
def impl_Moved.j2 : Nat → Int → Int → List (S52) → Int → Int → Bool → ByteArray → List (S52) → List (S56) → ByteArray → List (S52) → List (S56) → Option (ByteArray × (List (S52)) × (List (S56)) × Bool)
 | 0, _, _, _, _, _, _, _, _, _, _, _, _ => none
 | k + 1, x1, x7, x28, x29, x30, x43, x308000, x308001, x308002, x318000, x318001, x318002 => if x43 = true then (impl_Moved.l0 k x1 x28 x29 (wrap64 (x30 + 1)) x308000 x308001 x308002 x318000 x318001 x318002) else (if 0 ≤ x7 then (if x7 < (x318001.length : Int) then ((some (x318001.set (x7 : Int).toNat (⟨(rd_T52 x318001 x7).f0, (rd_T52 x318001 x7).f1, (rd_T52 x318001 x7).f2, (rd_T52 x318001 x7).f3, wrap64 (((rd_T52 x318001 x7).f4) + x1)⟩ : S52) : List (S52))).bind fun y323 => ((impl_InsOk.f ((rd_T52 y323 x7).f0) ((rd_T52 y323 x7).f1) ((rd_T52 y323 x7).f2) ((rd_T52 y323 x7).f3) ((rd_T52 y323 x7).f4)).bind fun t325 => (if t325 = true then (impl_Moved.l0 k x1 x28 x29 (wrap64 (x30 + 1)) x308000 x308001 x308002 x318000 y323 x318002) else (some ((⟨#[]⟩ : ByteArray), ([] : List (S52)), ([] : List (S56)), false))))) else (none)) else (none))
end
def impl_Moved.f (k : Nat) (a0_0 : ByteArray) (l0_1 : List (S52)) (l0_2 : List (S56)) (a1 : Int) : Option (ByteArray × (List (S52)) × (List (S56)) × Bool) := (impl_PartOk.f k a0_0 l0_1 l0_2).bind fun t309 => (if t309 = true then ((impl_from.f a1 (-63) 63).bind fun t310 => (impl_Moved.j0 k a1 (!t310) a0_0 l0_1 l0_2)) else (impl_Moved.j0 k a1 true a0_0 l0_1 l0_2))
theorem impl_Moved.mono_l : ∀ k, (∀ y0 y1 y2 y3 y4, LeO (impl_Moved.j0 k y0 y1 y2 y3 y4) (impl_Moved.j0 (k + 1) y0 y1 y2 y3 y4)) ∧ (∀ y0 y1 y2 y3 y4 y5 y6 y7 y8 y9, LeO (impl_Moved.l0 k y0 y1 y2 y3 y4 y5 y6 y7 y8 y9) (impl_Moved.l0 (k + 1) y0 y1 y2 y3 y4 y5 y6 y7 y8 y9)) ∧ (∀ y0 y1 y2 y3 y4 y5 y6 y7 y8 y9 y10 y11, LeO (impl_Moved.j2 k y0 y1 y2 y3 y4 y5 y6 y7 y8 y9 y10 y11) (impl_Moved.j2 (k + 1) y0 y1 y2 y3 y4 y5 y6 y7 y8 y9 y10 y11))
 | 0 => ⟨fun _ _ _ _ _ r h => by simp [impl_Moved.j0] at h, fun _ _ _ _ _ _ _ _ _ _ r h => by simp [impl_Moved.l0] at h, fun _ _ _ _ _ _ _ _ _ _ _ _ r h => by simp [impl_Moved.j2] at h⟩
 | k + 1 => by
  obtain ⟨ih0, ih1, ih2⟩ := impl_Moved.mono_l k
  refine ⟨?_, ?_, ?_⟩
  ·intro y0 y1 y2 y3 y4
   unfold impl_Moved.j0
   repeat' first
   | (with_reducible exact ih0 _ _ _ _ _)
   | (with_reducible exact ih1 _ _ _ _ _ _ _ _ _ _)
   | (with_reducible exact ih2 _ _ _ _ _ _ _ _ _ _ _ _)
   | (with_reducible exact impl_PartOk.mono _ _ _ _)
   | (with_reducible exact LeO.refl _)
   | (with_reducible exact LeO.none _)
   | (with_reducible refine LeO.ite ?_ ?_)
   | (with_reducible refine LeO.bind ?_ (fun _ => ?_))
   | exact ih0 _ _ _ _ _
   | exact ih1 _ _ _ _ _ _ _ _ _ _
   | exact ih2 _ _ _ _ _ _ _ _ _ _ _ _
   | exact impl_PartOk.mono _ _ _ _
   | exact LeO.none _
   | refine LeO.ite ?_ ?_
   | refine LeO.bind ?_ (fun _ => ?_)
  ·intro y0 y1 y2 y3 y4 y5 y6 y7 y8 y9
   unfold impl_Moved.l0
   repeat' first
   | (with_reducible exact ih0 _ _ _ _ _)
   | (with_reducible exact ih1 _ _ _ _ _ _ _ _ _ _)
   | (with_reducible exact ih2 _ _ _ _ _ _ _ _ _ _ _ _)
   | (with_reducible exact impl_PartOk.mono _ _ _ _)
   | (with_reducible exact LeO.refl _)
   | (with_reducible exact LeO.none _)
   | (with_reducible refine LeO.ite ?_ ?_)
   | (with_reducible refine LeO.bind ?_ (fun _ => ?_))
   | exact ih0 _ _ _ _ _
   | exact ih1 _ _ _ _ _ _ _ _ _ _
   | exact ih2 _ _ _ _ _ _ _ _ _ _ _ _
   | exact impl_PartOk.mono _ _ _ _
   | exact LeO.none _
   | refine LeO.ite ?_ ?_
   | refine LeO.bind ?_ (fun _ => ?_)
  ·intro y0 y1 y2 y3 y4 y5 y6 y7 y8 y9 y10 y11
   unfold impl_Moved.j2
   repeat' first
   | (with_reducible exact ih0 _ _ _ _ _)
   | (with_reducible exact ih1 _ _ _ _ _ _ _ _ _ _)
   | (with_reducible exact ih2 _ _ _ _ _ _ _ _ _ _ _ _)
   | (with_reducible exact impl_PartOk.mono _ _ _ _)
   | (with_reducible exact LeO.refl _)
   | (with_reducible exact LeO.none _)
   | (with_reducible refine LeO.ite ?_ ?_)
   | (with_reducible refine LeO.bind ?_ (fun _ => ?_))
   | exact ih0 _ _ _ _ _
   | exact ih1 _ _ _ _ _ _ _ _ _ _
   | exact ih2 _ _ _ _ _ _ _ _ _ _ _ _
   | exact impl_PartOk.mono _ _ _ _
   | exact LeO.none _
   | refine LeO.ite ?_ ?_
   | refine LeO.bind ?_ (fun _ => ?_)
theorem impl_Moved.mono : ∀ a0 a1 a2 a3 k, LeO (impl_Moved.f k a0 a1 a2 a3) (impl_Moved.f (k + 1) a0 a1 a2 a3) := by
 intro a0 a1 a2 a3 k
 obtain ⟨ih0, ih1, ih2⟩ := impl_Moved.mono_l k
 unfold impl_Moved.f
 repeat' first
   | (with_reducible exact ih0 _ _ _ _ _)
   | (with_reducible exact ih1 _ _ _ _ _ _ _ _ _ _)
   | (with_reducible exact ih2 _ _ _ _ _ _ _ _ _ _ _ _)
   | (with_reducible exact impl_PartOk.mono _ _ _ _)
   | (with_reducible exact LeO.refl _)
   | (with_reducible exact LeO.none _)
   | (with_reducible refine LeO.ite ?_ ?_)
   | (with_reducible refine LeO.bind ?_ (fun _ => ?_))
   | exact ih0 _ _ _ _ _
   | exact ih1 _ _ _ _ _ _ _ _ _ _
   | exact ih2 _ _ _ _ _ _ _ _ _ _ _ _
   | exact impl_PartOk.mono _ _ _ _
   | exact LeO.none _
   | refine LeO.ite ?_ ?_
   | refine LeO.bind ?_ (fun _ => ?_)
def impl_Moved.T3 : Bool × List (List Nat × List Nat) := (true, [([], []), ([0], [0]), ([], []), ([2], [2]), ([3], [3]), ([], []), ([5], [5]), ([6, 4], [6]), ([1, 4, 7], [1, 4, 7]), ([], []), ([9, 8, 7, 0, 1, 2, 3, 4, 5, 6, 7, 8, 9], [8, 9])])
def impl_Moved.B3 : List Nat := [0, 1, 0, 4, 12, 0, 32, 124, 255, 0, 1023]
theorem impl_Moved.tab3 : rtab .any (opsOf Try.f50 3) = impl_Moved.T3 := by kernel_rfl
theorem impl_Moved.bits3 : waitsOk impl_Moved.T3.2 impl_Moved.B3 = true := by kernel_rfl
set_option maxHeartbeats 8000000 in
set_option maxRecDepth 100000 in
theorem impl_Moved.calls (k : Nat) (a0_0 : ByteArray) (A0_1 : Option Addr) (c0_1 : Nat) (l0_1 : List (S52)) (A0_2 : Option Addr) (c0_2 : Nat) (l0_2 : List (S56)) (a1 : Int) (r1 : ByteArray) (r2 : List (S52)) (r3 : List (S56)) (r4 : Bool) (w : World) (hr0_1 : Kd.C k52 w A0_1 l0_1.length l0_1) (hc0_1 : l0_1.length ≤ c0_1) (hr0_2 : Kd.C k56 w A0_2 l0_2.length l0_2) (hc0_2 : l0_2.length ≤ c0_2) (h : impl_Moved.f k a0_0 l0_1 l0_2 a1 = some (r1, r2, r3, r4)) :
  Calls Try.prog 50 #[.agg #[.string a0_0, .slice A0_1 l0_1.length c0_1, .slice A0_2 l0_2.length c0_2], .int .i64 a1] w fun e w' => ∃ v1_ v2_ : Value, e = .returned (.tuple #[.agg #[.string r1, v1_, v2_], .bool r4]) ∧ Kd.R k52 52 w' w.heap.size (fun _ => True) v1_ r2 ∧ Kd.R k56 56 w' w.heap.size (fun _ => True) v2_ r3 ∧ Below w.heap.size w w' := by
 have hu45 := Try.underlying45
 have hu52 := Try.underlying52
 have HR0_1 := Aside0.mk hr0_1
 have HC0_1 := Aside0.mk hc0_1
 clear hr0_1 hc0_1
 have HR0_2 := Aside0.mk hr0_2
 have HC0_2 := Aside0.mk hc0_2
 clear hr0_2 hc0_2
 have HB := Aside0.mk (Below.refl w.heap.size w)
 have H : ((impl_PartOk.f k a0_0 l0_1 l0_2).bind fun t309 => (if t309 = true then ((impl_from.f a1 (-63) 63).bind fun t310 => (impl_Moved.j0 k a1 (!t310) a0_0 l0_1 l0_2)) else (impl_Moved.j0 k a1 true a0_0 l0_1 l0_2))) = some (r1, r2, r3, r4) := h
 clear h
 have HC3 := Aside0.mk H
 clear H
 go_enter Try.func50, Try.ntmps50
 go_upto_region 1 with (first | ((with_reducible refine gate_dst (N := 2) rfl ?_); refine box_event ?hg (N := 2) ?hd (cs := #[.string a0_0, .slice A0_1 l0_1.length c0_1, .slice A0_2 l0_2.length c0_2]) (t := 45) ?hr ?_; (case hd => rfl); (case hg => rfl); (case hr => first | (go_simp; done) | (go_simp; rfl)); intro gb307 hg w4 hbox hb; have n0_ := Aside0.mk (below_step (zB10_0) hb); have n1_ := Aside0.mk (hbox); have n2_ := Aside0.mk ((by rw [hg]; exact (below_size (zB10_0)) : w.heap.size ≤ gb307)); have n3_ := Aside0.mk ((by rw [hg]; exact (below_size (zB10_0)) : w.heap.size ≤ gb307)); clear HB; have HB := n0_; have BK307 := n1_; have GW307 := n2_; have GE307 := n3_; clear n0_ n1_ n2_ n3_; clear hb hbox hg) | ((with_reducible refine gate_dst (N := 4) rfl ?_); refine box_event ?hg (N := 4) ?hd (cs := #[.string (⟨#[]⟩ : ByteArray), .slice none 0 0, .slice none 0 0]) (t := 45) ?hr ?_; (case hd => rfl); (case hg => rfl); (case hr => first | (go_simp; done) | (go_simp; rfl)); intro gb308 hg w5 hbox hb; have n0_ := Aside0.mk (zb10 BK307.out hb); have n1_ := Aside0.mk (below_step (zB10_1) hb); have n2_ := Aside0.mk (hbox); have n3_ := Aside0.mk ((by rw [hg]; exact (below_size (zB10_1)) : w.heap.size ≤ gb308)); have n4_ := Aside0.mk ((by rw [hg]; exact (below_size (zB10_1)) : w.heap.size ≤ gb308)); have n5_ := Aside0.mk ((zn10 BK307.out hg : gb307 ≠ gb308)); have n6_ := Aside0.mk ((zm10 BK307.out hg : gb308 ≠ gb307)); clear BK307; clear HB; have BK307 := n0_; have HB := n1_; have BK308 := n2_; have GW308 := n3_; have GE308 := n4_; have NB307_308 := n5_; have NB308_307 := n6_; clear n0_ n1_ n2_ n3_ n4_ n5_ n6_; clear hb hbox hg))
 (try simp only [Act.put, List.setIfInBounds_toArray, List.set_cons_zero, List.set_cons_succ])
 go_cut [16] (fun v16 wc => ∃ (kq : Nat) (x16_2 : Bool), v16 = .bool x16_2 ∧ Aside0 (impl_Moved.j0 kq a1 x16_2 a0_0 l0_1 l0_2 = some (r1, r2, r3, r4)) ∧ Aside0 (kq ≤ k) ∧ Aside0 (wc.heap[gb307]? = some (.cells #[.string a0_0, (.slice A0_1 l0_1.length c0_1), (.slice A0_2 l0_2.length c0_2)] 45 (0, 0))) ∧ Aside0 (wc.heap[gb308]? = some (.cells #[.string (⟨#[]⟩ : ByteArray), (.slice none 0 0), (.slice none 0 0)] 45 (0, 0))) ∧ Aside0 (Below w.heap.size w wc))
 case first =>
  have H := HC3.out
  clear HC3
  replace H := Option.bind_eq_some_iff.mp H
  obtain ⟨t309, A60, H⟩ := H
  replace H : (if t309 = true then ((impl_from.f a1 (-63) 63).bind fun t310 => (impl_Moved.j0 k a1 (!t310) a0_0 l0_1 l0_2)) else (impl_Moved.j0 k a1 true a0_0 l0_1 l0_2)) = some (r1, r2, r3, r4) := H
  have A6 := Aside0.mk A60
  clear A60
  by_cases c7 : t309 = true
  rotate_left
  ·replace c7 := Bool.eq_false_iff.mpr c7
   subst c7
   have H1 : (impl_Moved.j0 k a1 true a0_0 l0_1 l0_2) = some (r1, r2, r3, r4) := by rw [if_neg (show ¬ (false = true) by decide)] at H; exact H
   clear H
   have H := H1
   clear H1
   have H' := Aside0.mk H
   clear H
   have hnb12 := NB307_308.out
   have hnc12 := NB308_307.out
   obtain ⟨hcz13_0, hcz13_1, hcz13_2, hfz13_0, hfz13_1, hfz13_2⟩ := zc10_3 (w := w5) BK307.out
   go_wp2_with (first | ((with_reducible refine gate_callee (f := 45) rfl ?_); refine goesL_ (some 10) rfl rfl Try.func45 (by kernel_rfl) rfl #[.agg #[.string a0_0, .slice A0_1 l0_1.length c0_1, .slice A0_2 l0_2.length c0_2]] rfl zT10 ?_; (with_reducible refine (impl_PartOk.calls k a0_0 _ _ l0_1 _ _ l0_2 false _ ?side1 ?side2 ?side3 ?side4 A6.out).mono ?_); (case side1 => exact zC10 (Kd.C_below HR0_1.out HB.out)); (case side2 => exact HC0_1.out); (case side3 => exact zC10 (Kd.C_below HR0_2.out HB.out)); (case side4 => exact HC0_2.out); rintro e w14 ⟨rfl, hb⟩; refine ⟨_, rfl, ?_⟩; have n0_ := Aside0.mk (zb10 BK307.out hb); have n1_ := Aside0.mk (zb10 BK308.out hb); have n2_ := Aside0.mk (below_step (zB10_2) hb); clear BK307; clear BK308; clear HB; have BK307 := n0_; have BK308 := n1_; have HB := n2_; clear n0_ n1_ n2_; (try clear hb); (try clear hb2); (try clear hk); (try clear hi)))
   go_meet
   case rel => exact ⟨_, (true), (by first | rfl | (simp; done) | (simp [*]; done)), H', ⟨by first | omega | exact Nat.le_refl _⟩, ⟨zK10 BK307.out⟩, ⟨zK10 BK308.out⟩, ⟨zB10_2⟩⟩
  subst c7
  have H1 : ((impl_from.f a1 (-63) 63).bind fun t310 => (impl_Moved.j0 k a1 (!t310) a0_0 l0_1 l0_2)) = some (r1, r2, r3, r4) := by rw [if_pos rfl] at H; exact H
  clear H
  have H := H1
  clear H1
  replace H := Option.bind_eq_some_iff.mp H
  obtain ⟨t310, A80, H⟩ := H
  replace H : (impl_Moved.j0 k a1 (!t310) a0_0 l0_1 l0_2) = some (r1, r2, r3, r4) := H
  have A8 := Aside0.mk A80
  clear A80
  have H' := Aside0.mk H
  clear H
  have hnb9 := NB307_308.out
  have hnc9 := NB308_307.out
  obtain ⟨hcz10_0, hcz10_1, hcz10_2, hfz10_0, hfz10_1, hfz10_2⟩ := zc10_3 (w := w5) BK307.out
  go_wp2_with (first | ((with_reducible refine gate_callee (f := 45) rfl ?_); refine goesL_ (some 10) rfl rfl Try.func45 (by kernel_rfl) rfl #[.agg #[.string a0_0, .slice A0_1 l0_1.length c0_1, .slice A0_2 l0_2.length c0_2]] rfl zT10 ?_; (with_reducible refine (impl_PartOk.calls k a0_0 _ _ l0_1 _ _ l0_2 true _ ?side1 ?side2 ?side3 ?side4 A6.out).mono ?_); (case side1 => exact zC10 (Kd.C_below HR0_1.out HB.out)); (case side2 => exact HC0_1.out); (case side3 => exact zC10 (Kd.C_below HR0_2.out HB.out)); (case side4 => exact HC0_2.out); rintro e w11 ⟨rfl, hb⟩; refine ⟨_, rfl, ?_⟩; have n0_ := Aside0.mk (zb10 BK307.out hb); have n1_ := Aside0.mk (zb10 BK308.out hb); have n2_ := Aside0.mk (below_step (zB10_2) hb); clear BK307; clear BK308; clear HB; have BK307 := n0_; have BK308 := n1_; have HB := n2_; clear n0_ n1_ n2_; (try clear hb); (try clear hb2); (try clear hk); (try clear hi)) | (go_at_call 107; (with_reducible refine (impl_from.calls a1 (-63) 63 t310 _ A8.out).mono ?_); rintro e w' ⟨rfl, ⟨nd, rfl⟩⟩))
  go_meet
  case rel => exact ⟨_, (!t310), (by first | rfl | (simp; done) | (simp [*]; done)), H', ⟨by first | omega | exact Nat.le_refl _⟩, ⟨zK10 BK307.out⟩, ⟨zK10 BK308.out⟩, ⟨zB10_2⟩⟩
 case rest =>
  clear HC3
  try clear c1
  try clear p2
  try clear c4
  try clear c5
  try clear c7
  try clear c9
  try clear c12
  try clear hcz10_0
  try clear hcz10_1
  try clear hcz10_2
  try clear hcz13_0
  try clear hcz13_1
  try clear hcz13_2
  try clear hfz10_0
  try clear hfz10_1
  try clear hfz10_2
  try clear hfz13_0
  try clear hfz13_1
  try clear hfz13_2
  obtain ⟨kq, x16_2, rfl, HA, HJ2, BK307, BK308, HB⟩ := hcut
  cases kq with
  | zero => exact absurd HA.out (by simp [impl_Moved.j0])
  | succ kj2 =>
   have H := HA.out
   clear HA
   simp only [impl_Moved.j0] at H
   by_cases c15 : x16_2 = true
   ·subst c15
    have H1 : (some ((⟨#[]⟩ : ByteArray), ([] : List (S52)), ([] : List (S56)), false)) = some (r1, r2, r3, r4) := by rw [if_pos rfl] at H; exact H
    clear H
    have H := H1
    clear H1
    simp only [Option.some.injEq, Prod.mk.injEq] at H
    obtain ⟨rfl, rfl, rfl, rfl⟩ := H
    have hnb16 := NB308_307.out
    have hnc16 := NB307_308.out
    obtain ⟨hcz17_0, hcz17_1, hcz17_2, hfz17_0, hfz17_1, hfz17_2⟩ := zc10_3 (w := wc) BK308.out
    go_wp2
    refine bodyPost_ret (results_ct rfl _ _ gb308 45 #[.string (⟨#[]⟩ : ByteArray), .slice none 0 0, .slice none 0 0] (0, 0) _ rfl (by refine zP10 ?_; refine blk_put (cs := #[.string (⟨#[]⟩ : ByteArray), .slice none 0 0, .slice none 0 0]) ?_ 2 _ rfl; refine zP10 ?_; refine blk_put (cs := #[.string (⟨#[]⟩ : ByteArray), .slice none 0 0, .slice none 0 0]) ?_ 1 _ rfl; refine zP10 ?_; refine blk_put (cs := #[.string (⟨#[]⟩ : ByteArray), .slice none 0 0, .slice none 0 0]) ?_ 0 _ rfl; refine zP10 ?_; exact BK308.out) Try.underlying45 rfl (by kernel_rfl)) rfl ?_
    exact ⟨_, _, zE10, by first | exact Kd.R_nil _ _ _ _ _ | exact Kd.N_nil _ _ _ _ _ | exact Kd.V_nil _ _ _ _ _ | exact Kd.Q_nil _ _ _ _ _ | exact Kd.S_nil _ _ _ _ _, by first | exact Kd.R_nil _ _ _ _ _ | exact Kd.N_nil _ _ _ _ _ | exact Kd.V_nil _ _ _ _ _ | exact Kd.Q_nil _ _ _ _ _ | exact Kd.S_nil _ _ _ _ _, zB10_2⟩
   replace c15 := Bool.eq_false_iff.mpr c15
   subst c15
   have H1 : ((impl_Ins_100.f l0_1).bind fun t311 => ((impl_Ref_118.f l0_2).bind fun t314 => (impl_Moved.l0 kj2 a1 l0_1 (l0_1.length : Int) 0 a0_0 l0_1 l0_2 a0_0 t311 t314))) = some (r1, r2, r3, r4) := by rw [if_neg (show ¬ (false = true) by decide)] at H; exact H
   clear H
   have H := H1
   clear H1
   replace H := Option.bind_eq_some_iff.mp H
   obtain ⟨t311, A180, H⟩ := H
   replace H : ((impl_Ref_118.f l0_2).bind fun t314 => (impl_Moved.l0 kj2 a1 l0_1 (l0_1.length : Int) 0 a0_0 l0_1 l0_2 a0_0 t311 t314)) = some (r1, r2, r3, r4) := H
   have A18 := Aside0.mk A180
   clear A180
   replace H := Option.bind_eq_some_iff.mp H
   obtain ⟨t314, A190, H⟩ := H
   replace H : (impl_Moved.l0 kj2 a1 l0_1 (l0_1.length : Int) 0 a0_0 l0_1 l0_2 a0_0 t311 t314) = some (r1, r2, r3, r4) := H
   have A19 := Aside0.mk A190
   clear A190
   have H' := Aside0.mk H
   clear H
   try go_wp2
   have n0_ := Aside0.mk (blk_drew BK307.out)
   have n1_ := Aside0.mk (blk_drew BK308.out)
   have n2_ := Aside0.mk (below_drew1 HB.out)
   clear BK307 BK308 HB
   have BK307 := n0_
   have BK308 := n1_
   have HB := n2_
   clear n0_ n1_ n2_
   refine start_ (n := 11) (S := fun w' => w'.cell? ⟨gb307, 0, none⟩ = some (.string a0_0) ∧ w'.cell? ⟨gb307, 1, none⟩ = some (.slice A0_1 l0_1.length c0_1) ∧ w'.cell? ⟨gb307, 2, none⟩ = some (.slice A0_2 l0_2.length c0_2)) (ds := []) #[false, false, false, false, false, false, false, false, false, false, false] (by kernel_rfl) rfl rfl ⟨(blk_cell BK307.out 0).trans rfl, (blk_cell BK307.out 1).trans rfl, (blk_cell BK307.out 2).trans rfl⟩ (fun hHeld => ?_); refine with_tabW impl_Moved.tab3 impl_Moved.bits3 (fun HT_ HW_ => ?_)
   generalize wc.drew = w20 at BK307 BK308 HB hHeld ⊢
   refine pure_ (i := 0) (N := some 18) (v := ?_) (a' := ?_) #[true, false, false, false, false, false, false, false, false, false, false] rfl rfl (any_of HT_.out (by kernel_rfl)) (fun _ _ _ h => h) (Or.inl ⟨by rfl, ?_⟩) ?_ ?_
   rotate_left
   ·intro w'
    go_simp
    with_reducible rfl
   rotate_left
   ·exact zV10
   refine pure_ (i := 2) (N := some 20) (v := ?_) (a' := ?_) #[true, false, true, false, false, false, false, false, false, false, false] rfl rfl (any_of HT_.out (by kernel_rfl)) (fun _ _ _ h => h) (Or.inl ⟨by rfl, ?_⟩) ?_ ?_
   rotate_left
   ·intro w'
    go_simp
    with_reducible rfl
   rotate_left
   ·exact zV10
   refine pure_ (i := 5) (N := some 23) (v := ?_) (a' := ?_) #[true, false, true, false, false, true, false, false, false, false, false] rfl rfl (any_of HT_.out (by kernel_rfl)) (fun _ _ _ h => h) (Or.inl ⟨by rfl, ?_⟩) ?_ ?_
   rotate_left
   ·intro w'
    go_simp
    with_reducible rfl
   rotate_left
   ·exact zV10
   refine take_ (i := 1) (N := some 19) (v := ?_) (a' := ?_) #[true, true, true, false, false, true, false, false, false, false, false] rfl rfl (take_ofW HT_.out HW_.out (by kernel_rfl)) (fun _ _ _ h => h) (Or.inl ⟨by rfl, ?_⟩) hHeld ?_ ?_
   rotate_left
   ·rintro w' ⟨s0, s1, s2⟩
    go_simp
    with_reducible rfl
   rotate_left
   ·exact zV10
   refine take_ (i := 3) (N := some 21) (v := ?_) (a' := ?_) #[true, true, true, true, false, true, false, false, false, false, false] rfl rfl (take_ofW HT_.out HW_.out (by kernel_rfl)) (fun _ _ _ h => h) (Or.inl ⟨by rfl, ?_⟩) hHeld ?_ ?_
   rotate_left
   ·rintro w' ⟨s0, s1, s2⟩
    go_simp
    with_reducible rfl
   rotate_left
   ·exact zV10
   refine take_ (i := 6) (N := some 24) (v := ?_) (a' := ?_) #[true, true, true, true, false, true, true, false, false, false, false] rfl rfl (take_ofW HT_.out HW_.out (by kernel_rfl)) (fun _ _ _ h => h) (Or.inl ⟨by rfl, ?_⟩) hHeld ?_ ?_
   rotate_left
   ·rintro w' ⟨s0, s1, s2⟩
    go_simp
    with_reducible rfl
   rotate_left
   ·exact zV10
   refine join_ (σ := Value × Value × Nat) 1 zq10_0 (fun s_ => [(22, s_.1), (25, s_.2.1), (6, .pointer (some ⟨s_.2.2, 0, none⟩)), (26, .agg #[.string a0_0, s_.1, s_.2.1])]) (fun s_ w' => (w'.cell? ⟨gb307, 0, none⟩ = some (.string a0_0) ∧ w'.cell? ⟨gb307, 1, none⟩ = some (.slice A0_1 l0_1.length c0_1) ∧ w'.cell? ⟨gb307, 2, none⟩ = some (.slice A0_2 l0_2.length c0_2)) ∧ (Kd.R k52 52 w' w.heap.size (fun _ => True) s_.1 t311) ∧ (Kd.R k56 56 w' w.heap.size (fun _ => True) s_.2.1 t314) ∧ (w'.heap[gb307]? = some (.cells #[.string a0_0, .slice A0_1 l0_1.length c0_1, .slice A0_2 l0_2.length c0_2] 45 (0, 0))) ∧ (w'.heap[gb308]? = some (.cells #[.string (⟨#[]⟩ : ByteArray), .slice none 0 0, .slice none 0 0] 45 (0, 0))) ∧ (w'.heap[s_.2.2]? = some (.cells #[.string (⟨#[]⟩ : ByteArray), .slice none 0 0, .slice none 0 0] 45 (0, 0))) ∧ (w.heap.size ≤ s_.2.2) ∧ (w.heap.size ≤ s_.2.2) ∧ (gb307 ≠ s_.2.2) ∧ (s_.2.2 ≠ gb307) ∧ (gb308 ≠ s_.2.2) ∧ (s_.2.2 ≠ gb308) ∧ (Below w.heap.size w w')) ?_ ?_
   rotate_left
   ·intro hCont
    refine two_ (i := 4) (j := 9) (Ni := some 22) (Nj := some 6) #[true, true, true, true, true, true, true, false, false, false, false] #[true, true, true, true, false, true, true, false, false, true, false] rfl rfl rfl rfl (two_of HT_.out (by kernel_rfl)) (by decide) (by decide) (fun K hK => ?_) (fun K hK => ?_)
    ·skip
     refine goes_ Try.func100 (by kernel_rfl) rfl #[.slice A0_1 l0_1.length c0_1] (by rfl) rfl rfl zT10 ?_
     with_reducible refine (impl_Ins_100.calls _ _ l0_1 t311 _ ?side1 ?side2 A18.out).mono ?_
     (case side1 => exact zC10 (Kd.C_below HR0_1.out HB.out))
     (case side2 => exact HC0_1.out)
     rintro e w21 ⟨v312, rfl, ho0, hb⟩
     refine ⟨_, rfl, ?_⟩
     have n0_ := Aside0.mk (Kd.R_lower ho0 (below_size (zB10_2)))
     have n1_ := Aside0.mk (zb10 BK307.out hb)
     have n2_ := Aside0.mk (zb10 BK308.out hb)
     have n3_ := Aside0.mk (below_step (zB10_2) hb)
     clear BK307 BK308 HB
     have HO313 := n0_
     have BK307 := n1_
     have BK308 := n2_
     have HB := n3_
     clear n0_ n1_ n2_ n3_
     (try clear hb)
     (try clear hb2)
     (try clear hk)
     (try clear hi)
     (try clear ho0)
     refine hK.out _ _ ⟨(blk_cell BK307.out 0).trans rfl, (blk_cell BK307.out 1).trans rfl, (blk_cell BK307.out 2).trans rfl⟩ (fun hHeld => ?_)
     clear hK K
     refine norm_ (a' := ?_) ?_ ?_
     rotate_left
     ·show Act.put _ (some 22) _ = _
      simp only [Act.put, List.setIfInBounds_toArray, List.set_cons_zero, List.set_cons_succ, i64_w, i32_w]
      rfl
     refine two_ (i := 7) (j := 9) (Ni := some 25) (Nj := some 6) #[true, true, true, true, true, true, true, true, false, false, false] zq10_1 rfl rfl rfl rfl (two_of HT_.out (by kernel_rfl)) (by decide) (by decide) (fun K hK => ?_) (fun K hK => ?_)
     ·skip
      refine goes_ Try.func118 (by kernel_rfl) rfl #[.slice A0_2 l0_2.length c0_2] (by rfl) rfl rfl zT10 ?_
      with_reducible refine (impl_Ref_118.calls _ _ l0_2 t314 _ ?side1 ?side2 A19.out).mono ?_
      (case side1 => exact zC10 (Kd.C_below HR0_2.out HB.out))
      (case side2 => exact HC0_2.out)
      rintro e w22 ⟨v315, rfl, ho0, hb⟩
      refine ⟨_, rfl, ?_⟩
      have n0_ := Aside0.mk (Kd.R_below (zR10 HO313.out) hb)
      have n1_ := Aside0.mk (Kd.R_lower ho0 (below_size (zB10_2)))
      have n2_ := Aside0.mk (zb10 BK307.out hb)
      have n3_ := Aside0.mk (zb10 BK308.out hb)
      have n4_ := Aside0.mk (below_step (zB10_2) hb)
      clear HO313 BK307 BK308 HB
      have HO313 := n0_
      have HO316 := n1_
      have BK307 := n2_
      have BK308 := n3_
      have HB := n4_
      clear n0_ n1_ n2_ n3_ n4_
      (try clear hb)
      (try clear hb2)
      (try clear hk)
      (try clear hi)
      (try clear ho0)
      obtain ⟨Ao23, co23, eo23⟩ := Kd.R_slice HO316.out
      (first | subst eo23 | (injection eo23 with f1_ f2_ f3_; have f4_ := f1_.symm; have f5_ := f3_.symm; clear f1_ f2_ f3_; subst f4_; subst f5_))
      obtain ⟨Ao24, co24, eo24⟩ := Kd.R_slice HO313.out
      (first | subst eo24 | (injection eo24 with f1_ f2_ f3_; have f4_ := f1_.symm; have f5_ := f3_.symm; clear f1_ f2_ f3_; subst f4_; subst f5_))
      refine hK.out _ _ ⟨(blk_cell BK307.out 0).trans rfl, (blk_cell BK307.out 1).trans rfl, (blk_cell BK307.out 2).trans rfl⟩ (fun hHeld => ?_)
      clear hK K
      refine norm_ (a' := ?_) ?_ ?_
      rotate_left
      ·show Act.put _ (some 25) _ = _
       simp only [Act.put, List.setIfInBounds_toArray, List.set_cons_zero, List.set_cons_succ, i64_w, i32_w]
       rfl
      refine pure_ (i := 8) (N := some 26) (v := ?_) (a' := ?_) #[true, true, true, true, true, true, true, true, true, false, false] rfl rfl (any_of HT_.out (by kernel_rfl)) (fun _ _ _ h => h) (Or.inl ⟨by rfl, ?_⟩) ?_ ?_
      rotate_left
      ·intro w'
       go_simp
       with_reducible rfl
      rotate_left
      ·exact zV10
      refine one_ (i := 9) (N := some 6) zq10_0 rfl rfl (one_of HT_.out (by kernel_rfl)) (by decide) (fun K hK => ?_)
      refine box_step ?hg (N := 6) ?hd (cs := #[.string (⟨#[]⟩ : ByteArray), .slice none 0 0, .slice none 0 0]) (t := 45) ?hr ?_; (case hd => rfl); (case hg => rfl); (case hr => first | (go_simp; done) | (go_simp; rfl))
      intro gb317 hg w25 hbox hb
      have n0_ := Aside0.mk (Kd.R_below (zR10 HO313.out) hb)
      have n1_ := Aside0.mk (Kd.R_below (zR10 HO316.out) hb)
      have n2_ := Aside0.mk (zb10 BK307.out hb)
      have n3_ := Aside0.mk (zb10 BK308.out hb)
      have n4_ := Aside0.mk (below_step (zB10_2) hb)
      have n5_ := Aside0.mk (hbox)
      have n6_ := Aside0.mk ((by rw [hg]; exact (below_size (zB10_2)) : w.heap.size ≤ gb317))
      have n7_ := Aside0.mk ((by rw [hg]; exact (below_size (zB10_2)) : w.heap.size ≤ gb317))
      have n8_ := Aside0.mk ((zn10 BK307.out hg : gb307 ≠ gb317))
      have n9_ := Aside0.mk ((zm10 BK307.out hg : gb317 ≠ gb307))
      have n10_ := Aside0.mk ((zn10 BK308.out hg : gb308 ≠ gb317))
      have n11_ := Aside0.mk ((zm10 BK308.out hg : gb317 ≠ gb308))
      clear HO313 HO316 BK307 BK308 HB
      have HO313 := n0_
      have HO316 := n1_
      have BK307 := n2_
      have BK308 := n3_
      have HB := n4_
      have BK317 := n5_
      have GW317 := n6_
      have GE317 := n7_
      have NB307_317 := n8_
      have NB317_307 := n9_
      have NB308_317 := n10_
      have NB317_308 := n11_
      clear n0_ n1_ n2_ n3_ n4_ n5_ n6_ n7_ n8_ n9_ n10_ n11_ hb hbox hg
      refine hK.out _ _ ⟨(blk_cell BK307.out 0).trans rfl, (blk_cell BK307.out 1).trans rfl, (blk_cell BK307.out 2).trans rfl⟩ (fun hHeld => ?_)
      clear hK K
      refine norm_ (a' := ?_) ?_ ?_
      rotate_left
      ·show Act.put _ (some 6) _ = _
       simp only [Act.put, List.setIfInBounds_toArray, List.set_cons_zero, List.set_cons_succ, i64_w, i32_w]
       rfl
      exact norm_ (by simp only [putAll, Act.put, List.setIfInBounds_toArray, List.set_cons_zero, List.set_cons_succ]) (hCont (.slice Ao24 t311.length co24, .slice Ao23 t314.length co23, gb317) _ ⟨hHeld, (zR10 HO313.out), (zR10 HO316.out), (zK10 BK307.out), (zK10 BK308.out), (zK10 BK317.out), GW317.out, GE317.out, NB307_317.out, NB317_307.out, NB308_317.out, NB317_308.out, (zB10_3)⟩)
     ·skip
      refine box_step ?hg (N := 6) ?hd (cs := #[.string (⟨#[]⟩ : ByteArray), .slice none 0 0, .slice none 0 0]) (t := 45) ?hr ?_; (case hd => rfl); (case hg => rfl); (case hr => first | (go_simp; done) | (go_simp; rfl))
      intro gb317 hg w22 hbox hb
      have n0_ := Aside0.mk (Kd.R_below (zR10 HO313.out) hb)
      have n1_ := Aside0.mk (zb10 BK307.out hb)
      have n2_ := Aside0.mk (zb10 BK308.out hb)
      have n3_ := Aside0.mk (below_step (zB10_2) hb)
      have n4_ := Aside0.mk (hbox)
      have n5_ := Aside0.mk ((by rw [hg]; exact (below_size (zB10_2)) : w.heap.size ≤ gb317))
      have n6_ := Aside0.mk ((by rw [hg]; exact (below_size (zB10_2)) : w.heap.size ≤ gb317))
      have n7_ := Aside0.mk ((zn10 BK307.out hg : gb307 ≠ gb317))
      have n8_ := Aside0.mk ((zm10 BK307.out hg : gb317 ≠ gb307))
      have n9_ := Aside0.mk ((zn10 BK308.out hg : gb308 ≠ gb317))
      have n10_ := Aside0.mk ((zm10 BK308.out hg : gb317 ≠ gb308))
      clear HO313 BK307 BK308 HB
      have HO313 := n0_
      have BK307 := n1_
      have BK308 := n2_
      have HB := n3_
      have BK317 := n4_
      have GW317 := n5_
      have GE317 := n6_
      have NB307_317 := n7_
      have NB317_307 := n8_
      have NB308_317 := n9_
      have NB317_308 := n10_
      clear n0_ n1_ n2_ n3_ n4_ n5_ n6_ n7_ n8_ n9_ n10_ hb hbox hg
      refine hK.out _ _ ⟨(blk_cell BK307.out 0).trans rfl, (blk_cell BK307.out 1).trans rfl, (blk_cell BK307.out 2).trans rfl⟩ (fun hHeld => ?_)
      clear hK K
      refine norm_ (a' := ?_) ?_ ?_
      rotate_left
      ·show Act.put _ (some 6) _ = _
       simp only [Act.put, List.setIfInBounds_toArray, List.set_cons_zero, List.set_cons_succ, i64_w, i32_w]
       rfl
      refine one_ (i := 7) (N := some 25) zq10_2 rfl rfl (one_of HT_.out (by kernel_rfl)) (by decide) (fun K hK => ?_)
      refine goes_ Try.func118 (by kernel_rfl) rfl #[.slice A0_2 l0_2.length c0_2] (by rfl) rfl rfl zT10 ?_
      with_reducible refine (impl_Ref_118.calls _ _ l0_2 t314 _ ?side1 ?side2 A19.out).mono ?_
      (case side1 => exact zC10 (Kd.C_below HR0_2.out HB.out))
      (case side2 => exact HC0_2.out)
      rintro e w23 ⟨v315, rfl, ho0, hb⟩
      refine ⟨_, rfl, ?_⟩
      have n0_ := Aside0.mk (Kd.R_below (zR10 HO313.out) hb)
      have n1_ := Aside0.mk (Kd.R_lower ho0 (below_size (zB10_3)))
      have n2_ := Aside0.mk (zb10 BK307.out hb)
      have n3_ := Aside0.mk (zb10 BK308.out hb)
      have n4_ := Aside0.mk (zb10 BK317.out hb)
      have n5_ := Aside0.mk (below_step (zB10_3) hb)
      clear HO313 BK307 BK308 BK317 HB
      have HO313 := n0_
      have HO316 := n1_
      have BK307 := n2_
      have BK308 := n3_
      have BK317 := n4_
      have HB := n5_
      clear n0_ n1_ n2_ n3_ n4_ n5_
      (try clear hb)
      (try clear hb2)
      (try clear hk)
      (try clear hi)
      (try clear ho0)
      obtain ⟨Ao24, co24, eo24⟩ := Kd.R_slice HO316.out
      (first | subst eo24 | (injection eo24 with f1_ f2_ f3_; have f4_ := f1_.symm; have f5_ := f3_.symm; clear f1_ f2_ f3_; subst f4_; subst f5_))
      obtain ⟨Ao25, co25, eo25⟩ := Kd.R_slice HO313.out
      (first | subst eo25 | (injection eo25 with f1_ f2_ f3_; have f4_ := f1_.symm; have f5_ := f3_.symm; clear f1_ f2_ f3_; subst f4_; subst f5_))
      refine hK.out _ _ ⟨(blk_cell BK307.out 0).trans rfl, (blk_cell BK307.out 1).trans rfl, (blk_cell BK307.out 2).trans rfl⟩ (fun hHeld => ?_)
      clear hK K
      refine norm_ (a' := ?_) ?_ ?_
      rotate_left
      ·show Act.put _ (some 25) _ = _
       simp only [Act.put, List.setIfInBounds_toArray, List.set_cons_zero, List.set_cons_succ, i64_w, i32_w]
       rfl
      refine pure_ (i := 8) (N := some 26) (v := ?_) (a' := ?_) zq10_0 rfl rfl (any_of HT_.out (by kernel_rfl)) (fun _ _ _ h => h) (Or.inl ⟨by rfl, ?_⟩) ?_ ?_
      rotate_left
      ·intro w'
       go_simp
       with_reducible rfl
      rotate_left
      ·exact zV10
      exact norm_ (by simp only [putAll, Act.put, List.setIfInBounds_toArray, List.set_cons_zero, List.set_cons_succ]) (hCont (.slice Ao25 t311.length co25, .slice Ao24 t314.length co24, gb317) _ ⟨hHeld, (zR10 HO313.out), (zR10 HO316.out), (zK10 BK307.out), (zK10 BK308.out), (zK10 BK317.out), GW317.out, GE317.out, NB307_317.out, NB317_307.out, NB308_317.out, NB317_308.out, (zB10_3)⟩)
    ·skip
     refine box_step ?hg (N := 6) ?hd (cs := #[.string (⟨#[]⟩ : ByteArray), .slice none 0 0, .slice none 0 0]) (t := 45) ?hr ?_; (case hd => rfl); (case hg => rfl); (case hr => first | (go_simp; done) | (go_simp; rfl))
     intro gb317 hg w21 hbox hb
     have n0_ := Aside0.mk (zb10 BK307.out hb)
     have n1_ := Aside0.mk (zb10 BK308.out hb)
     have n2_ := Aside0.mk (below_step (zB10_2) hb)
     have n3_ := Aside0.mk (hbox)
     have n4_ := Aside0.mk ((by rw [hg]; exact (below_size (zB10_2)) : w.heap.size ≤ gb317))
     have n5_ := Aside0.mk ((by rw [hg]; exact (below_size (zB10_2)) : w.heap.size ≤ gb317))
     have n6_ := Aside0.mk ((zn10 BK307.out hg : gb307 ≠ gb317))
     have n7_ := Aside0.mk ((zm10 BK307.out hg : gb317 ≠ gb307))
     have n8_ := Aside0.mk ((zn10 BK308.out hg : gb308 ≠ gb317))
     have n9_ := Aside0.mk ((zm10 BK308.out hg : gb317 ≠ gb308))
     clear BK307 BK308 HB
     have BK307 := n0_
     have BK308 := n1_
     have HB := n2_
     have BK317 := n3_
     have GW317 := n4_
     have GE317 := n5_
     have NB307_317 := n6_
     have NB317_307 := n7_
     have NB308_317 := n8_
     have NB317_308 := n9_
     clear n0_ n1_ n2_ n3_ n4_ n5_ n6_ n7_ n8_ n9_ hb hbox hg
     refine hK.out _ _ ⟨(blk_cell BK307.out 0).trans rfl, (blk_cell BK307.out 1).trans rfl, (blk_cell BK307.out 2).trans rfl⟩ (fun hHeld => ?_)
     clear hK K
     refine norm_ (a' := ?_) ?_ ?_
     rotate_left
     ·show Act.put _ (some 6) _ = _
      simp only [Act.put, List.setIfInBounds_toArray, List.set_cons_zero, List.set_cons_succ, i64_w, i32_w]
      rfl
     refine one_ (i := 4) (N := some 22) zq10_1 rfl rfl (one_of HT_.out (by kernel_rfl)) (by decide) (fun K hK => ?_)
     refine goes_ Try.func100 (by kernel_rfl) rfl #[.slice A0_1 l0_1.length c0_1] (by rfl) rfl rfl zT10 ?_
     with_reducible refine (impl_Ins_100.calls _ _ l0_1 t311 _ ?side1 ?side2 A18.out).mono ?_
     (case side1 => exact zC10 (Kd.C_below HR0_1.out HB.out))
     (case side2 => exact HC0_1.out)
     rintro e w22 ⟨v312, rfl, ho0, hb⟩
     refine ⟨_, rfl, ?_⟩
     have n0_ := Aside0.mk (Kd.R_lower ho0 (below_size (zB10_3)))
     have n1_ := Aside0.mk (zb10 BK307.out hb)
     have n2_ := Aside0.mk (zb10 BK308.out hb)
     have n3_ := Aside0.mk (zb10 BK317.out hb)
     have n4_ := Aside0.mk (below_step (zB10_3) hb)
     clear BK307 BK308 BK317 HB
     have HO313 := n0_
     have BK307 := n1_
     have BK308 := n2_
     have BK317 := n3_
     have HB := n4_
     clear n0_ n1_ n2_ n3_ n4_
     (try clear hb)
     (try clear hb2)
     (try clear hk)
     (try clear hi)
     (try clear ho0)
     refine hK.out _ _ ⟨(blk_cell BK307.out 0).trans rfl, (blk_cell BK307.out 1).trans rfl, (blk_cell BK307.out 2).trans rfl⟩ (fun hHeld => ?_)
     clear hK K
     refine norm_ (a' := ?_) ?_ ?_
     rotate_left
     ·show Act.put _ (some 22) _ = _
      simp only [Act.put, List.setIfInBounds_toArray, List.set_cons_zero, List.set_cons_succ, i64_w, i32_w]
      rfl
     refine one_ (i := 7) (N := some 25) zq10_2 rfl rfl (one_of HT_.out (by kernel_rfl)) (by decide) (fun K hK => ?_)
     refine goes_ Try.func118 (by kernel_rfl) rfl #[.slice A0_2 l0_2.length c0_2] (by rfl) rfl rfl zT10 ?_
     with_reducible refine (impl_Ref_118.calls _ _ l0_2 t314 _ ?side1 ?side2 A19.out).mono ?_
     (case side1 => exact zC10 (Kd.C_below HR0_2.out HB.out))
     (case side2 => exact HC0_2.out)
     rintro e w23 ⟨v315, rfl, ho0, hb⟩
     refine ⟨_, rfl, ?_⟩
     have n0_ := Aside0.mk (Kd.R_below (zR10 HO313.out) hb)
     have n1_ := Aside0.mk (Kd.R_lower ho0 (below_size (zB10_3)))
     have n2_ := Aside0.mk (zb10 BK307.out hb)
     have n3_ := Aside0.mk (zb10 BK308.out hb)
     have n4_ := Aside0.mk (zb10 BK317.out hb)
     have n5_ := Aside0.mk (below_step (zB10_3) hb)
     clear HO313 BK307 BK308 BK317 HB
     have HO313 := n0_
     have HO316 := n1_
     have BK307 := n2_
     have BK308 := n3_
     have BK317 := n4_
     have HB := n5_
     clear n0_ n1_ n2_ n3_ n4_ n5_
     (try clear hb)
     (try clear hb2)
     (try clear hk)
     (try clear hi)
     (try clear ho0)
     obtain ⟨Ao24, co24, eo24⟩ := Kd.R_slice HO316.out
     (first | subst eo24 | (injection eo24 with f1_ f2_ f3_; have f4_ := f1_.symm; have f5_ := f3_.symm; clear f1_ f2_ f3_; subst f4_; subst f5_))
     obtain ⟨Ao25, co25, eo25⟩ := Kd.R_slice HO313.out
     (first | subst eo25 | (injection eo25 with f1_ f2_ f3_; have f4_ := f1_.symm; have f5_ := f3_.symm; clear f1_ f2_ f3_; subst f4_; subst f5_))
     refine hK.out _ _ ⟨(blk_cell BK307.out 0).trans rfl, (blk_cell BK307.out 1).trans rfl, (blk_cell BK307.out 2).trans rfl⟩ (fun hHeld => ?_)
     clear hK K
     refine norm_ (a' := ?_) ?_ ?_
     rotate_left
     ·show Act.put _ (some 25) _ = _
      simp only [Act.put, List.setIfInBounds_toArray, List.set_cons_zero, List.set_cons_succ, i64_w, i32_w]
      rfl
     refine pure_ (i := 8) (N := some 26) (v := ?_) (a' := ?_) zq10_0 rfl rfl (any_of HT_.out (by kernel_rfl)) (fun _ _ _ h => h) (Or.inl ⟨by rfl, ?_⟩) ?_ ?_
     rotate_left
     ·intro w'
      go_simp
      with_reducible rfl
     rotate_left
     ·exact zV10
     exact norm_ (by simp only [putAll, Act.put, List.setIfInBounds_toArray, List.set_cons_zero, List.set_cons_succ]) (hCont (.slice Ao25 t311.length co25, .slice Ao24 t314.length co24, gb317) _ ⟨hHeld, (zR10 HO313.out), (zR10 HO316.out), (zK10 BK307.out), (zK10 BK308.out), (zK10 BK317.out), GW317.out, GE317.out, NB307_317.out, NB317_307.out, NB308_317.out, NB317_308.out, (zB10_3)⟩)
   rintro ⟨v312, v315, gb317⟩ w26 ⟨hS_, h0_, h1_, h2_, h3_, h4_, h5_, h6_, h7_, h8_, h9_, h10_, h11_⟩
   have n0_ : Aside0 (Kd.R k52 52 w26 w.heap.size (fun _ => True) v312 t311) := ⟨h0_⟩
   have n1_ : Aside0 (Kd.R k56 56 w26 w.heap.size (fun _ => True) v315 t314) := ⟨h1_⟩
   have n2_ : Aside0 (w26.heap[gb307]? = some (.cells #[.string a0_0, .slice A0_1 l0_1.length c0_1, .slice A0_2 l0_2.length c0_2] 45 (0, 0))) := ⟨h2_⟩
   have n3_ : Aside0 (w26.heap[gb308]? = some (.cells #[.string (⟨#[]⟩ : ByteArray), .slice none 0 0, .slice none 0 0] 45 (0, 0))) := ⟨h3_⟩
   have n4_ : Aside0 (w26.heap[gb317]? = some (.cells #[.string (⟨#[]⟩ : ByteArray), .slice none 0 0, .slice none 0 0] 45 (0, 0))) := ⟨h4_⟩
   have n5_ : Aside0 (w.heap.size ≤ gb317) := ⟨h5_⟩
   have n6_ : Aside0 (w.heap.size ≤ gb317) := ⟨h6_⟩
   have n7_ : Aside0 (gb307 ≠ gb317) := ⟨h7_⟩
   have n8_ : Aside0 (gb317 ≠ gb307) := ⟨h8_⟩
   have n9_ : Aside0 (gb308 ≠ gb317) := ⟨h9_⟩
   have n10_ : Aside0 (gb317 ≠ gb308) := ⟨h10_⟩
   have n11_ : Aside0 (Below w.heap.size w w26) := ⟨h11_⟩
   clear BK307 BK308 HB h0_ h1_ h2_ h3_ h4_ h5_ h6_ h7_ h8_ h9_ h10_ h11_
   have HO313 := n0_
   have HO316 := n1_
   have BK307 := n2_
   have BK308 := n3_
   have BK317 := n4_
   have GW317 := n5_
   have GE317 := n6_
   have NB307_317 := n7_
   have NB317_307 := n8_
   have NB308_317 := n9_
   have NB317_308 := n10_
   have HB := n11_
   clear n0_ n1_ n2_ n3_ n4_ n5_ n6_ n7_ n8_ n9_ n10_ n11_
   have hHeld : w26.cell? ⟨gb307, 0, none⟩ = some (.string a0_0) ∧ w26.cell? ⟨gb307, 1, none⟩ = some (.slice A0_1 l0_1.length c0_1) ∧ w26.cell? ⟨gb307, 2, none⟩ = some (.slice A0_2 l0_2.length c0_2) := hS_
   obtain ⟨Ao27, co27, eo27⟩ := Kd.R_slice HO316.out
   (first | subst eo27 | (injection eo27 with f1_ f2_ f3_; have f4_ := f1_.symm; have f5_ := f3_.symm; clear f1_ f2_ f3_; subst f4_; subst f5_))
   obtain ⟨Ao28, co28, eo28⟩ := Kd.R_slice HO313.out
   (first | subst eo28 | (injection eo28 with f1_ f2_ f3_; have f4_ := f1_.symm; have f5_ := f3_.symm; clear f1_ f2_ f3_; subst f4_; subst f5_))
   refine norm_ (a' := ?_) ?_ ?_
   rotate_left
   ·simp only [putAll, Act.put, List.setIfInBounds_toArray, List.set_cons_zero, List.set_cons_succ]
    rfl
   refine one_ (i := 10) (N := none) #[true, true, true, true, true, true, true, true, true, true, true] rfl rfl (one_of HT_.out (by kernel_rfl)) (by decide) (fun K hK => ?_)
   have hs29 : w26.cell? ⟨gb317, 0, none⟩ = some (.string (⟨#[]⟩ : ByteArray)) := (blk_cell BK317.out 0).trans rfl
   have hfs29 := blk_frozen BK317.out 0
   have hns29_0 := NB307_317.out
   have hns29_1 := NB308_317.out
   have hms29_0 := NB317_307.out
   have hms29_1 := NB317_308.out
   have hs30 : w26.cell? ⟨gb317, 1, none⟩ = some (.slice none 0 0) := (blk_cell BK317.out 1).trans rfl
   have hfs30 := blk_frozen BK317.out 1
   have hns30_0 := NB307_317.out
   have hns30_1 := NB308_317.out
   have hms30_0 := NB317_307.out
   have hms30_1 := NB317_308.out
   have hs31 : w26.cell? ⟨gb317, 2, none⟩ = some (.slice none 0 0) := (blk_cell BK317.out 2).trans rfl
   have hfs31 := blk_frozen BK317.out 2
   have hns31_0 := NB307_317.out
   have hns31_1 := NB308_317.out
   have hms31_0 := NB317_307.out
   have hms31_1 := NB317_308.out
   refine skip_ (w1 := ?_) (by rfl) rfl ?_ ?_
   rotate_left
   ·go_simp
    rfl
   refine hK.out _ _ ⟨((cell_far (p := ⟨gb317, _, none⟩) NB307_317.out _).trans (((cell_far (p := ⟨gb317, _, none⟩) NB307_317.out _).trans (((cell_far (p := ⟨gb317, _, none⟩) NB307_317.out _).trans (hHeld.1)))))), ((cell_far (p := ⟨gb317, _, none⟩) NB307_317.out _).trans (((cell_far (p := ⟨gb317, _, none⟩) NB307_317.out _).trans (((cell_far (p := ⟨gb317, _, none⟩) NB307_317.out _).trans (hHeld.2.1)))))), ((cell_far (p := ⟨gb317, _, none⟩) NB307_317.out _).trans (((cell_far (p := ⟨gb317, _, none⟩) NB307_317.out _).trans (((cell_far (p := ⟨gb317, _, none⟩) NB307_317.out _).trans (hHeld.2.2))))))⟩ (fun hHeld => ?_)
   clear hK K
   refine done_ (done_of HT_.out (by kernel_rfl)) ?_
   have hnb32 := NB307_308.out
   have hnc32 := NB308_307.out
   have hnb33 := NB307_317.out
   have hnc33 := NB317_307.out
   obtain ⟨hcz34_0, hcz34_1, hcz34_2, hfz34_0, hfz34_1, hfz34_2⟩ := zc10_3 (w := w26) BK307.out
   try go_wp2
   go_loopg [30] kj2 (fun kq v30 w' => ∃ (x30_2 : Int) (x309000_2 : ByteArray) (x318001_2 : List (S52)) (u318001 : Value), v30 = .int .i64 x30_2 ∧ Aside0 (impl_Moved.l0 kq a1 l0_1 (l0_1.length : Int) x30_2 a0_0 l0_1 l0_2 a0_0 x318001_2 t314 = some (r1, r2, r3, r4)) ∧ Aside0 (kq ≤ kj2) ∧ Aside0 (Kd.R k52 52 w' w.heap.size (fun _ => True) u318001 x318001_2) ∧ Aside0 (Kd.R k56 56 w' w.heap.size (fun _ => True) (.slice Ao27 t314.length co27) t314) ∧ Aside0 (w'.heap[gb307]? = some (.cells #[.string a0_0, (.slice A0_1 l0_1.length c0_1), (.slice A0_2 l0_2.length c0_2)] 45 (0, 0))) ∧ Aside0 (w'.heap[gb308]? = some (.cells #[.string x309000_2, (.slice none 0 0), (.slice none 0 0)] 45 (0, 0))) ∧ Aside0 (w'.heap[gb317]? = some (.cells #[.string a0_0, u318001, (.slice Ao27 t314.length co27)] 45 (0, 0))) ∧ Aside0 (Below w.heap.size w w'))
   case atStart => exact ⟨(0), ((⟨#[]⟩ : ByteArray)), (t311), (.slice Ao28 t311.length co28), (by first | rfl | (simp; done) | (simp [*]; done)), H', ⟨Nat.le_refl _⟩, ⟨by (with_reducible repeat (first | apply Kd.R_alloc | apply Kd.R_drewN | apply Kd.R_drew)); exact Kd.R_mono (Kd.R_far (p := ⟨gb317, 2, none⟩) (Kd.R_far (p := ⟨gb317, 1, none⟩) (Kd.R_far (p := ⟨gb317, 0, none⟩) (Kd.R_types HO313.out BK317.out (by decide)) (fun _ hk => hk.2) (.string a0_0)) (fun _ hk => hk.2) (.slice Ao28 t311.length co28)) (fun _ hk => hk.2) (.slice Ao27 t314.length co27)) (fun _ hk => trivial)⟩, ⟨by (with_reducible repeat (first | apply Kd.R_alloc | apply Kd.R_drewN | apply Kd.R_drew)); exact Kd.R_mono (Kd.R_far (p := ⟨gb317, 2, none⟩) (Kd.R_far (p := ⟨gb317, 1, none⟩) (Kd.R_far (p := ⟨gb317, 0, none⟩) (Kd.R_types HO316.out BK317.out (by decide)) (fun _ hk => hk.2) (.string a0_0)) (fun _ hk => hk.2) (.slice Ao28 t311.length co28)) (fun _ hk => hk.2) (.slice Ao27 t314.length co27)) (fun _ hk => trivial)⟩, ⟨by refine zP10 ?_; refine blk_far ?_ NB307_317.out _; refine zP10 ?_; refine blk_far ?_ NB307_317.out _; refine zP10 ?_; refine blk_far ?_ NB307_317.out _; refine zP10 ?_; exact BK307.out⟩, ⟨by refine zP10 ?_; refine blk_far ?_ NB308_317.out _; refine zP10 ?_; refine blk_far ?_ NB308_317.out _; refine zP10 ?_; refine blk_far ?_ NB308_317.out _; refine zP10 ?_; exact BK308.out⟩, ⟨by refine zP10 ?_; refine blk_put (cs := #[.string a0_0, .slice Ao28 t311.length co28, .slice none 0 0]) ?_ 2 _ rfl; refine zP10 ?_; refine blk_put (cs := #[.string a0_0, .slice none 0 0, .slice none 0 0]) ?_ 1 _ rfl; refine zP10 ?_; refine blk_put (cs := #[.string (⟨#[]⟩ : ByteArray), .slice none 0 0, .slice none 0 0]) ?_ 0 _ rfl; refine zP10 ?_; exact BK317.out⟩, ⟨zB10_3⟩⟩
   case round =>
    clear H'
    try clear c1
    try clear p2
    try clear c3
    try clear c4
    try clear c5
    try clear c7
    try clear c9
    try clear c10
    try clear c11
    try clear c12
    try clear c15
    try clear c16
    try clear c32
    try clear c33
    try clear hcz10_0
    try clear hcz10_1
    try clear hcz10_2
    try clear hcz13_0
    try clear hcz13_1
    try clear hcz13_2
    try clear hcz17_0
    try clear hcz17_1
    try clear hcz17_2
    try clear hcz34_0
    try clear hcz34_1
    try clear hcz34_2
    try clear hfz10_0
    try clear hfz10_1
    try clear hfz10_2
    try clear hfz13_0
    try clear hfz13_1
    try clear hfz13_2
    try clear hfz17_0
    try clear hfz17_1
    try clear hfz17_2
    try clear hfz34_0
    try clear hfz34_1
    try clear hfz34_2
    try clear p2
    obtain ⟨x30_2, x309000_2, x318001_2, u318001, rfl, HA, HK2, HO_318001, HO_318002, BK307, BK308, BK317, HB⟩ := hrel
    cases gk with
    | zero => exact absurd HA.out (by simp [impl_Moved.l0])
    | succ k2 =>
     have H := HA.out
     clear HA
     simp only [impl_Moved.l0] at H
     by_cases c35 : x30_2 < (l0_1.length : Int)
     rotate_left
     ·rw [if_neg c35] at H
      have c35b0 : decide (x30_2 < (l0_1.length : Int)) = false := decide_eq_false c35
      clear c35
      simp only [Option.some.injEq, Prod.mk.injEq] at H
      obtain ⟨rfl, rfl, rfl, rfl⟩ := H
      have hnb88 := NB317_307.out
      have hnc88 := NB307_317.out
      have hnb89 := NB317_308.out
      have hnc89 := NB308_317.out
      obtain ⟨hcz90_0, hcz90_1, hcz90_2, hfz90_0, hfz90_1, hfz90_2⟩ := zc10_3 (w := wr) BK317.out
      have hnb91 := NB308_307.out
      have hnc91 := NB307_308.out
      obtain ⟨hcz92_0, hcz92_1, hcz92_2, hfz92_0, hfz92_1, hfz92_2⟩ := zc10_3 (w := wr) BK308.out
      obtain ⟨Ao93, co93, eo93⟩ := Kd.R_slice HO_318001.out
      subst eo93
      go_wp2
      refine bodyPost_ret (results_ct rfl _ _ gb308 45 #[.string a0_0, .slice Ao93 x318001_2.length co93, .slice Ao27 t314.length co27] (0, 0) _ rfl (by refine zP10 ?_; refine blk_put (cs := #[.string a0_0, .slice Ao93 x318001_2.length co93, .slice none 0 0]) ?_ 2 _ rfl; refine zP10 ?_; refine blk_put (cs := #[.string a0_0, .slice none 0 0, .slice none 0 0]) ?_ 1 _ rfl; refine zP10 ?_; refine blk_put (cs := #[.string x309000_2, .slice none 0 0, .slice none 0 0]) ?_ 0 _ rfl; refine zP10 ?_; exact BK308.out) Try.underlying45 rfl (by kernel_rfl)) rfl ?_
      exact ⟨_, _, zE10, by (with_reducible repeat (first | apply Kd.R_alloc | apply Kd.R_drewN | apply Kd.R_drew)); exact Kd.R_mono (Kd.R_far (p := ⟨gb308, 2, none⟩) (Kd.R_far (p := ⟨gb308, 1, none⟩) (Kd.R_far (p := ⟨gb308, 0, none⟩) (Kd.R_types HO_318001.out BK308.out (by decide)) (fun _ hk => hk.2) (.string a0_0)) (fun _ hk => hk.2) (.slice Ao93 x318001_2.length co93)) (fun _ hk => hk.2) (.slice Ao27 t314.length co27)) (fun _ hk => trivial), by (with_reducible repeat (first | apply Kd.R_alloc | apply Kd.R_drewN | apply Kd.R_drew)); exact Kd.R_mono (Kd.R_far (p := ⟨gb308, 2, none⟩) (Kd.R_far (p := ⟨gb308, 1, none⟩) (Kd.R_far (p := ⟨gb308, 0, none⟩) (Kd.R_types HO_318002.out BK308.out (by decide)) (fun _ hk => hk.2) (.string a0_0)) (fun _ hk => hk.2) (.slice Ao93 x318001_2.length co93)) (fun _ hk => hk.2) (.slice Ao27 t314.length co27)) (fun _ hk => trivial), zB10_3⟩
     rw [if_pos c35] at H
     have c35b0 : decide (x30_2 < (l0_1.length : Int)) = true := decide_eq_true c35
     clear c35
     by_cases c36 : 0 ≤ x30_2
     rotate_left
     ·rw [if_neg c36] at H
      exact absurd H (by simp)
     rw [if_pos c36] at H
     have c36b0 : decide (0 ≤ x30_2) = true := decide_eq_true c36
     clear c36
     by_cases c37 : x30_2 < (l0_1.length : Int)
     rotate_left
     ·rw [if_neg c37] at H
      exact absurd H (by simp)
     rw [if_pos c37] at H
     have c37b0 : decide (x30_2 < (l0_1.length : Int)) = true := decide_eq_true c37
     clear c37
     have HC38 := Aside0.mk H
     clear H
     have p318 : 0 ≤ (x30_2 : Int) := zA10
     have q318 : x30_2 < (l0_1.length : Int) := zA10
     obtain ⟨ad318, e318, hx318_0, hx318_1, hx318_2, hx318_3, hx318_4⟩ := at_T52 HR0_1.out x30_2 p318 q318
     cases e318
     replace hx318_0 := (HB.out.cell (World.block_lt_of_cell? w _ hx318_0)).trans hx318_0
     replace hx318_1 := (HB.out.cell (World.block_lt_of_cell? w _ hx318_1)).trans hx318_1
     replace hx318_2 := (HB.out.cell (World.block_lt_of_cell? w _ hx318_2)).trans hx318_2
     replace hx318_3 := (HB.out.cell (World.block_lt_of_cell? w _ hx318_3)).trans hx318_3
     replace hx318_4 := (HB.out.cell (World.block_lt_of_cell? w _ hx318_4)).trans hx318_4
     replace p318 := eq_true p318
     replace q318 := eq_true q318
     go_upto_region 7 with (first | ((with_reducible refine gate_dst (N := 8) rfl ?_); refine box_event ?hg (N := 8) ?hd (cs := #[.int .i64 0, .int .i64 0, .int .i64 0, .int .i64 0, .int .i64 0]) (t := 52) ?hr ?_; (case hd => rfl); (case hg => rfl); (case hr => first | (go_simp; done) | (go_simp; rfl)); intro gb319 hg w39 hbox hb; have n0_ := Aside0.mk (Kd.R_below (Kd.R_elderB (zR10 HO_318001.out) gb319 (Nat.le_of_eq hg.symm)) hb); have n1_ := Aside0.mk (Kd.R_below (zR10 HO_318002.out) hb); have n2_ := Aside0.mk (zb10 BK307.out hb); have n3_ := Aside0.mk (zb10 BK308.out hb); have n4_ := Aside0.mk (zb10 BK317.out hb); have n5_ := Aside0.mk (below_step (zB10_3) hb); have n6_ := Aside0.mk (hbox); have n7_ := Aside0.mk ((by rw [hg]; exact (below_size (zB10_3)) : w.heap.size ≤ gb319)); have n8_ := Aside0.mk ((by rw [hg]; exact (below_size (zB10_3)) : w.heap.size ≤ gb319)); have n9_ := Aside0.mk ((zn10 BK307.out hg : gb307 ≠ gb319)); have n10_ := Aside0.mk ((zm10 BK307.out hg : gb319 ≠ gb307)); have n11_ := Aside0.mk ((zn10 BK308.out hg : gb308 ≠ gb319)); have n12_ := Aside0.mk ((zm10 BK308.out hg : gb319 ≠ gb308)); have n13_ := Aside0.mk ((zn10 BK317.out hg : gb317 ≠ gb319)); have n14_ := Aside0.mk ((zm10 BK317.out hg : gb319 ≠ gb317)); clear HO_318001; clear HO_318002; clear BK307; clear BK308; clear BK317; clear HB; have HO_318001 := n0_; have HO_318002 := n1_; have BK307 := n2_; have BK308 := n3_; have BK317 := n4_; have HB := n5_; have BK319 := n6_; have GW319 := n7_; have GE319 := n8_; have NB307_319 := n9_; have NB319_307 := n10_; have NB308_319 := n11_; have NB319_308 := n12_; have NB317_319 := n13_; have NB319_317 := n14_; clear n0_ n1_ n2_ n3_ n4_ n5_ n6_ n7_ n8_ n9_ n10_ n11_ n12_ n13_ n14_; clear hb hbox hg; have hnb40 := NB319_307.out; have hnc40 := NB307_319.out; have hnb41 := NB319_308.out; have hnc41 := NB308_319.out; have hnb42 := NB319_317.out; have hnc42 := NB317_319.out; obtain ⟨hcz43_0, hcz43_1, hcz43_2, hcz43_3, hcz43_4, hfz43_0, hfz43_1, hfz43_2, hfz43_3, hfz43_4⟩ := zc10_5 (w := w39) BK319.out))
     (try simp only [Act.put, List.setIfInBounds_toArray, List.set_cons_zero, List.set_cons_succ])
     go_cut [43] (fun v43 wc => ∃ (kq : Nat) (x43_37 : Bool), v43 = .bool x43_37 ∧ Aside0 (impl_Moved.j2 kq a1 x30_2 l0_1 (l0_1.length : Int) x30_2 x43_37 a0_0 l0_1 l0_2 a0_0 x318001_2 t314 = some (r1, r2, r3, r4)) ∧ Aside0 (kq ≤ k2) ∧ Aside0 (Kd.R k52 52 wc w.heap.size (fun k_ => k_ ≠ gb319) u318001 x318001_2) ∧ Aside0 (Kd.R k56 56 wc w.heap.size (fun _ => True) (.slice Ao27 t314.length co27) t314) ∧ Aside0 (wc.heap[gb307]? = some (.cells #[.string a0_0, (.slice (some ad318) l0_1.length c0_1), (.slice A0_2 l0_2.length c0_2)] 45 (0, 0))) ∧ Aside0 (wc.heap[gb308]? = some (.cells #[.string x309000_2, (.slice none 0 0), (.slice none 0 0)] 45 (0, 0))) ∧ Aside0 (wc.heap[gb317]? = some (.cells #[.string a0_0, u318001, (.slice Ao27 t314.length co27)] 45 (0, 0))) ∧ Aside0 (wc.heap[gb319]? = some (.cells #[.int .i64 ((rd_T52 l0_1 x30_2).f0), .int .i64 ((rd_T52 l0_1 x30_2).f1), .int .i64 ((rd_T52 l0_1 x30_2).f2), .int .i64 ((rd_T52 l0_1 x30_2).f3), .int .i64 ((rd_T52 l0_1 x30_2).f4)] 52 (0, 0))) ∧ Aside0 (Below w.heap.size w wc))
     case first =>
      have H := HC38.out
      clear HC38
      replace H := Option.bind_eq_some_iff.mp H
      obtain ⟨t320, A440, H⟩ := H
      replace H : (if t320 = true then ((impl_isRef.f l0_2 x30_2).bind fun t321 => (impl_Moved.j2 k2 a1 x30_2 l0_1 (l0_1.length : Int) x30_2 t321 a0_0 l0_1 l0_2 a0_0 x318001_2 t314)) else (impl_Moved.j2 k2 a1 x30_2 l0_1 (l0_1.length : Int) x30_2 true a0_0 l0_1 l0_2 a0_0 x318001_2 t314)) = some (r1, r2, r3, r4) := H
      have A44 := Aside0.mk A440
      clear A440
      by_cases c45 : t320 = true
      rotate_left
      ·replace c45 := Bool.eq_false_iff.mpr c45
       subst c45
       have H1 : (impl_Moved.j2 k2 a1 x30_2 l0_1 (l0_1.length : Int) x30_2 true a0_0 l0_1 l0_2 a0_0 x318001_2 t314) = some (r1, r2, r3, r4) := by rw [if_neg (show ¬ (false = true) by decide)] at H; exact H
       clear H
       have H := H1
       clear H1
       have H' := Aside0.mk H
       clear H
       have hnb56 := NB319_307.out
       have hnc56 := NB307_319.out
       have hnb57 := NB319_308.out
       have hnc57 := NB308_319.out
       have hnb58 := NB319_317.out
       have hnc58 := NB317_319.out
       obtain ⟨hcz59_0, hcz59_1, hcz59_2, hcz59_3, hcz59_4, hfz59_0, hfz59_1, hfz59_2, hfz59_3, hfz59_4⟩ := zc10_5 (w := w39) BK319.out
       go_wp2_with (first | ((with_reducible refine gate_callee (f := 112) rfl ?_); refine goesL_ (some 36) rfl rfl Try.func112 (by kernel_rfl) rfl #[.agg #[.int .i64 ((rd_T52 l0_1 x30_2).f0), .int .i64 ((rd_T52 l0_1 x30_2).f1), .int .i64 ((rd_T52 l0_1 x30_2).f2), .int .i64 ((rd_T52 l0_1 x30_2).f3), .int .i64 ((rd_T52 l0_1 x30_2).f4)]] rfl zT10 ?_; (with_reducible refine (impl_goesTo.calls ((rd_T52 l0_1 x30_2).f0) ((rd_T52 l0_1 x30_2).f1) ((rd_T52 l0_1 x30_2).f2) ((rd_T52 l0_1 x30_2).f3) ((rd_T52 l0_1 x30_2).f4) false _ A44.out).mono ?_); rintro e w60 ⟨rfl, hb⟩; refine ⟨_, rfl, ?_⟩; have n0_ := Aside0.mk (Kd.R_below (by (with_reducible repeat (first | apply Kd.R_alloc | apply Kd.R_drewN | apply Kd.R_drew)); exact (Kd.R_mono (Kd.R_far (p := ⟨gb319, 4, none⟩) (Kd.R_far (p := ⟨gb319, 3, none⟩) (Kd.R_far (p := ⟨gb319, 2, none⟩) (Kd.R_far (p := ⟨gb319, 1, none⟩) (Kd.R_far (p := ⟨gb319, 0, none⟩) (Kd.R_mono HO_318001.out (fun k_ hk => (⟨hk, hk.2⟩ : _ ∧ k_ ≠ gb319))) (fun _ hk => hk.2) (.int .i64 ((rd_T52 l0_1 x30_2).f0))) (fun _ hk => hk.2) (.int .i64 ((rd_T52 l0_1 x30_2).f1))) (fun _ hk => hk.2) (.int .i64 ((rd_T52 l0_1 x30_2).f2))) (fun _ hk => hk.2) (.int .i64 ((rd_T52 l0_1 x30_2).f3))) (fun _ hk => hk.2) (.int .i64 ((rd_T52 l0_1 x30_2).f4))) (fun _ h_ => h_.1))) hb); have n1_ := Aside0.mk (Kd.R_below (by (with_reducible repeat (first | apply Kd.R_alloc | apply Kd.R_drewN | apply Kd.R_drew)); exact (Kd.R_mono (Kd.R_far (p := ⟨gb319, 4, none⟩) (Kd.R_far (p := ⟨gb319, 3, none⟩) (Kd.R_far (p := ⟨gb319, 2, none⟩) (Kd.R_far (p := ⟨gb319, 1, none⟩) (Kd.R_far (p := ⟨gb319, 0, none⟩) (Kd.R_types HO_318002.out BK319.out (by decide)) (fun _ hk => hk.2) (.int .i64 ((rd_T52 l0_1 x30_2).f0))) (fun _ hk => hk.2) (.int .i64 ((rd_T52 l0_1 x30_2).f1))) (fun _ hk => hk.2) (.int .i64 ((rd_T52 l0_1 x30_2).f2))) (fun _ hk => hk.2) (.int .i64 ((rd_T52 l0_1 x30_2).f3))) (fun _ hk => hk.2) (.int .i64 ((rd_T52 l0_1 x30_2).f4))) (fun _ h_ => h_.1))) hb); have n2_ := Aside0.mk (blk_below (g := gb307) (o := .cells #[.string a0_0, .slice (some ad318) l0_1.length c0_1, .slice A0_2 l0_2.length c0_2] 45 (0, 0)) (by refine zP10 ?_; refine blk_far ?_ NB307_319.out _; refine zP10 ?_; refine blk_far ?_ NB307_319.out _; refine zP10 ?_; refine blk_far ?_ NB307_319.out _; refine zP10 ?_; refine blk_far ?_ NB307_319.out _; refine zP10 ?_; refine blk_far ?_ NB307_319.out _; refine zP10 ?_; exact BK307.out) hb); have n3_ := Aside0.mk (blk_below (g := gb308) (o := .cells #[.string x309000_2, .slice none 0 0, .slice none 0 0] 45 (0, 0)) (by refine zP10 ?_; refine blk_far ?_ NB308_319.out _; refine zP10 ?_; refine blk_far ?_ NB308_319.out _; refine zP10 ?_; refine blk_far ?_ NB308_319.out _; refine zP10 ?_; refine blk_far ?_ NB308_319.out _; refine zP10 ?_; refine blk_far ?_ NB308_319.out _; refine zP10 ?_; exact BK308.out) hb); have n4_ := Aside0.mk (blk_below (g := gb317) (o := .cells #[.string a0_0, u318001, .slice Ao27 t314.length co27] 45 (0, 0)) (by refine zP10 ?_; refine blk_far ?_ NB317_319.out _; refine zP10 ?_; refine blk_far ?_ NB317_319.out _; refine zP10 ?_; refine blk_far ?_ NB317_319.out _; refine zP10 ?_; refine blk_far ?_ NB317_319.out _; refine zP10 ?_; refine blk_far ?_ NB317_319.out _; refine zP10 ?_; exact BK317.out) hb); have n5_ := Aside0.mk (blk_below (g := gb319) (o := .cells #[.int .i64 ((rd_T52 l0_1 x30_2).f0), .int .i64 ((rd_T52 l0_1 x30_2).f1), .int .i64 ((rd_T52 l0_1 x30_2).f2), .int .i64 ((rd_T52 l0_1 x30_2).f3), .int .i64 ((rd_T52 l0_1 x30_2).f4)] 52 (0, 0)) (by refine zP10 ?_; refine blk_put (cs := #[.int .i64 ((rd_T52 l0_1 x30_2).f0), .int .i64 ((rd_T52 l0_1 x30_2).f1), .int .i64 ((rd_T52 l0_1 x30_2).f2), .int .i64 ((rd_T52 l0_1 x30_2).f3), .int .i64 0]) ?_ 4 _ rfl; refine zP10 ?_; refine blk_put (cs := #[.int .i64 ((rd_T52 l0_1 x30_2).f0), .int .i64 ((rd_T52 l0_1 x30_2).f1), .int .i64 ((rd_T52 l0_1 x30_2).f2), .int .i64 0, .int .i64 0]) ?_ 3 _ rfl; refine zP10 ?_; refine blk_put (cs := #[.int .i64 ((rd_T52 l0_1 x30_2).f0), .int .i64 ((rd_T52 l0_1 x30_2).f1), .int .i64 0, .int .i64 0, .int .i64 0]) ?_ 2 _ rfl; refine zP10 ?_; refine blk_put (cs := #[.int .i64 ((rd_T52 l0_1 x30_2).f0), .int .i64 0, .int .i64 0, .int .i64 0, .int .i64 0]) ?_ 1 _ rfl; refine zP10 ?_; refine blk_put (cs := #[.int .i64 0, .int .i64 0, .int .i64 0, .int .i64 0, .int .i64 0]) ?_ 0 _ rfl; refine zP10 ?_; exact BK319.out) hb); have n6_ := Aside0.mk (below_step (zB10_4) hb); clear HO_318001; clear HO_318002; clear BK307; clear BK308; clear BK317; clear BK319; clear HB; have HO_318001 := n0_; have HO_318002 := n1_; have BK307 := n2_; have BK308 := n3_; have BK317 := n4_; have BK319 := n5_; have HB := n6_; clear n0_ n1_ n2_ n3_ n4_ n5_ n6_; (try clear hb); (try clear hb2); (try clear hk); (try clear hi)))
       go_meet
       case rel => exact ⟨_, (true), (by first | rfl | (simp; done) | (simp [*]; done)), H', ⟨by have := HJ2.out; have := HK2.out; first | omega | exact Nat.le_refl _⟩, ⟨by (with_reducible repeat (first | apply Kd.R_alloc | apply Kd.R_drewN | apply Kd.R_drew)); exact Kd.R_mono HO_318001.out (fun _ hk => hk.2)⟩, ⟨zR10 HO_318002.out⟩, ⟨zK10 BK307.out⟩, ⟨zK10 BK308.out⟩, ⟨zK10 BK317.out⟩, ⟨zK10 BK319.out⟩, ⟨zB10_4⟩⟩
      subst c45
      have H1 : ((impl_isRef.f l0_2 x30_2).bind fun t321 => (impl_Moved.j2 k2 a1 x30_2 l0_1 (l0_1.length : Int) x30_2 t321 a0_0 l0_1 l0_2 a0_0 x318001_2 t314)) = some (r1, r2, r3, r4) := by rw [if_pos rfl] at H; exact H
      clear H
      have H := H1
      clear H1
      replace H := Option.bind_eq_some_iff.mp H
      obtain ⟨t321, A460, H⟩ := H
      replace H : (impl_Moved.j2 k2 a1 x30_2 l0_1 (l0_1.length : Int) x30_2 t321 a0_0 l0_1 l0_2 a0_0 x318001_2 t314) = some (r1, r2, r3, r4) := H
      have A46 := Aside0.mk A460
      clear A460
      have H' := Aside0.mk H
      clear H
      have hnb47 := NB319_307.out
      have hnc47 := NB307_319.out
      have hnb48 := NB319_308.out
      have hnc48 := NB308_319.out
      have hnb49 := NB319_317.out
      have hnc49 := NB317_319.out
      obtain ⟨hcz50_0, hcz50_1, hcz50_2, hcz50_3, hcz50_4, hfz50_0, hfz50_1, hfz50_2, hfz50_3, hfz50_4⟩ := zc10_5 (w := w39) BK319.out
      go_wp2_with (first | ((with_reducible refine gate_callee (f := 112) rfl ?_); refine goesL_ (some 36) rfl rfl Try.func112 (by kernel_rfl) rfl #[.agg #[.int .i64 ((rd_T52 l0_1 x30_2).f0), .int .i64 ((rd_T52 l0_1 x30_2).f1), .int .i64 ((rd_T52 l0_1 x30_2).f2), .int .i64 ((rd_T52 l0_1 x30_2).f3), .int .i64 ((rd_T52 l0_1 x30_2).f4)]] rfl zT10 ?_; (with_reducible refine (impl_goesTo.calls ((rd_T52 l0_1 x30_2).f0) ((rd_T52 l0_1 x30_2).f1) ((rd_T52 l0_1 x30_2).f2) ((rd_T52 l0_1 x30_2).f3) ((rd_T52 l0_1 x30_2).f4) true _ A44.out).mono ?_); rintro e w51 ⟨rfl, hb⟩; refine ⟨_, rfl, ?_⟩; have n0_ := Aside0.mk (Kd.R_below (by (with_reducible repeat (first | apply Kd.R_alloc | apply Kd.R_drewN | apply Kd.R_drew)); exact (Kd.R_mono (Kd.R_far (p := ⟨gb319, 4, none⟩) (Kd.R_far (p := ⟨gb319, 3, none⟩) (Kd.R_far (p := ⟨gb319, 2, none⟩) (Kd.R_far (p := ⟨gb319, 1, none⟩) (Kd.R_far (p := ⟨gb319, 0, none⟩) (Kd.R_mono HO_318001.out (fun k_ hk => (⟨hk, hk.2⟩ : _ ∧ k_ ≠ gb319))) (fun _ hk => hk.2) (.int .i64 ((rd_T52 l0_1 x30_2).f0))) (fun _ hk => hk.2) (.int .i64 ((rd_T52 l0_1 x30_2).f1))) (fun _ hk => hk.2) (.int .i64 ((rd_T52 l0_1 x30_2).f2))) (fun _ hk => hk.2) (.int .i64 ((rd_T52 l0_1 x30_2).f3))) (fun _ hk => hk.2) (.int .i64 ((rd_T52 l0_1 x30_2).f4))) (fun _ h_ => h_.1))) hb); have n1_ := Aside0.mk (Kd.R_below (by (with_reducible repeat (first | apply Kd.R_alloc | apply Kd.R_drewN | apply Kd.R_drew)); exact (Kd.R_mono (Kd.R_far (p := ⟨gb319, 4, none⟩) (Kd.R_far (p := ⟨gb319, 3, none⟩) (Kd.R_far (p := ⟨gb319, 2, none⟩) (Kd.R_far (p := ⟨gb319, 1, none⟩) (Kd.R_far (p := ⟨gb319, 0, none⟩) (Kd.R_types HO_318002.out BK319.out (by decide)) (fun _ hk => hk.2) (.int .i64 ((rd_T52 l0_1 x30_2).f0))) (fun _ hk => hk.2) (.int .i64 ((rd_T52 l0_1 x30_2).f1))) (fun _ hk => hk.2) (.int .i64 ((rd_T52 l0_1 x30_2).f2))) (fun _ hk => hk.2) (.int .i64 ((rd_T52 l0_1 x30_2).f3))) (fun _ hk => hk.2) (.int .i64 ((rd_T52 l0_1 x30_2).f4))) (fun _ h_ => h_.1))) hb); have n2_ := Aside0.mk (blk_below (g := gb307) (o := .cells #[.string a0_0, .slice (some ad318) l0_1.length c0_1, .slice A0_2 l0_2.length c0_2] 45 (0, 0)) (by refine zP10 ?_; refine blk_far ?_ NB307_319.out _; refine zP10 ?_; refine blk_far ?_ NB307_319.out _; refine zP10 ?_; refine blk_far ?_ NB307_319.out _; refine zP10 ?_; refine blk_far ?_ NB307_319.out _; refine zP10 ?_; refine blk_far ?_ NB307_319.out _; refine zP10 ?_; exact BK307.out) hb); have n3_ := Aside0.mk (blk_below (g := gb308) (o := .cells #[.string x309000_2, .slice none 0 0, .slice none 0 0] 45 (0, 0)) (by refine zP10 ?_; refine blk_far ?_ NB308_319.out _; refine zP10 ?_; refine blk_far ?_ NB308_319.out _; refine zP10 ?_; refine blk_far ?_ NB308_319.out _; refine zP10 ?_; refine blk_far ?_ NB308_319.out _; refine zP10 ?_; refine blk_far ?_ NB308_319.out _; refine zP10 ?_; exact BK308.out) hb); have n4_ := Aside0.mk (blk_below (g := gb317) (o := .cells #[.string a0_0, u318001, .slice Ao27 t314.length co27] 45 (0, 0)) (by refine zP10 ?_; refine blk_far ?_ NB317_319.out _; refine zP10 ?_; refine blk_far ?_ NB317_319.out _; refine zP10 ?_; refine blk_far ?_ NB317_319.out _; refine zP10 ?_; refine blk_far ?_ NB317_319.out _; refine zP10 ?_; refine blk_far ?_ NB317_319.out _; refine zP10 ?_; exact BK317.out) hb); have n5_ := Aside0.mk (blk_below (g := gb319) (o := .cells #[.int .i64 ((rd_T52 l0_1 x30_2).f0), .int .i64 ((rd_T52 l0_1 x30_2).f1), .int .i64 ((rd_T52 l0_1 x30_2).f2), .int .i64 ((rd_T52 l0_1 x30_2).f3), .int .i64 ((rd_T52 l0_1 x30_2).f4)] 52 (0, 0)) (by refine zP10 ?_; refine blk_put (cs := #[.int .i64 ((rd_T52 l0_1 x30_2).f0), .int .i64 ((rd_T52 l0_1 x30_2).f1), .int .i64 ((rd_T52 l0_1 x30_2).f2), .int .i64 ((rd_T52 l0_1 x30_2).f3), .int .i64 0]) ?_ 4 _ rfl; refine zP10 ?_; refine blk_put (cs := #[.int .i64 ((rd_T52 l0_1 x30_2).f0), .int .i64 ((rd_T52 l0_1 x30_2).f1), .int .i64 ((rd_T52 l0_1 x30_2).f2), .int .i64 0, .int .i64 0]) ?_ 3 _ rfl; refine zP10 ?_; refine blk_put (cs := #[.int .i64 ((rd_T52 l0_1 x30_2).f0), .int .i64 ((rd_T52 l0_1 x30_2).f1), .int .i64 0, .int .i64 0, .int .i64 0]) ?_ 2 _ rfl; refine zP10 ?_; refine blk_put (cs := #[.int .i64 ((rd_T52 l0_1 x30_2).f0), .int .i64 0, .int .i64 0, .int .i64 0, .int .i64 0]) ?_ 1 _ rfl; refine zP10 ?_; refine blk_put (cs := #[.int .i64 0, .int .i64 0, .int .i64 0, .int .i64 0, .int .i64 0]) ?_ 0 _ rfl; refine zP10 ?_; exact BK319.out) hb); have n6_ := Aside0.mk (below_step (zB10_4) hb); clear HO_318001; clear HO_318002; clear BK307; clear BK308; clear BK317; clear BK319; clear HB; have HO_318001 := n0_; have HO_318002 := n1_; have BK307 := n2_; have BK308 := n3_; have BK317 := n4_; have BK319 := n5_; have HB := n6_; clear n0_ n1_ n2_ n3_ n4_ n5_ n6_; (try clear hb); (try clear hb2); (try clear hk); (try clear hi); have hnb52 := NB307_308.out; have hnc52 := NB308_307.out; have hnb53 := NB307_317.out; have hnc53 := NB317_307.out; obtain ⟨hcz54_0, hcz54_1, hcz54_2, hfz54_0, hfz54_1, hfz54_2⟩ := zc10_3 (w := w51) BK307.out) | (go_at_call 111; (with_reducible refine (impl_isRef.calls _ _ l0_2 x30_2 t321 _ ?side1 ?side2 A46.out).mono ?_); (case side1 => exact zC10 (Kd.C_below HR0_2.out HB.out)); (case side2 => exact HC0_2.out); rintro e w55 ⟨rfl, hb⟩; have n0_ := Aside0.mk (Kd.R_below (zR10 HO_318001.out) hb); have n1_ := Aside0.mk (Kd.R_below (zR10 HO_318002.out) hb); have n2_ := Aside0.mk (zb10 BK307.out hb); have n3_ := Aside0.mk (zb10 BK308.out hb); have n4_ := Aside0.mk (zb10 BK317.out hb); have n5_ := Aside0.mk (zb10 BK319.out hb); have n6_ := Aside0.mk (below_step (zB10_4) hb); clear HO_318001; clear HO_318002; clear BK307; clear BK308; clear BK317; clear BK319; clear HB; have HO_318001 := n0_; have HO_318002 := n1_; have BK307 := n2_; have BK308 := n3_; have BK317 := n4_; have BK319 := n5_; have HB := n6_; clear n0_ n1_ n2_ n3_ n4_ n5_ n6_; (try clear hb); (try clear hb2); (try clear hk); (try clear hi)))
      go_meet
      case rel => exact ⟨_, (t321), (by first | rfl | (simp; done) | (simp [*]; done)), H', ⟨by have := HJ2.out; have := HK2.out; first | omega | exact Nat.le_refl _⟩, ⟨by (with_reducible repeat (first | apply Kd.R_alloc | apply Kd.R_drewN | apply Kd.R_drew)); exact Kd.R_mono HO_318001.out (fun _ hk => hk.2)⟩, ⟨zR10 HO_318002.out⟩, ⟨zK10 BK307.out⟩, ⟨zK10 BK308.out⟩, ⟨zK10 BK317.out⟩, ⟨zK10 BK319.out⟩, ⟨zB10_4⟩⟩
     case rest =>
      clear HC38
      try clear c1
      try clear p2
      try clear c3
      try clear p3
      try clear q3
      try clear hx3
      try clear c4
      try clear c5
      try clear c7
      try clear c9
      try clear c10
      try clear c11
      try clear c12
      try clear c15
      try clear c16
      try clear p31
      try clear q31
      try clear hx31
      try clear c32
      try clear c33
      try clear c35
      try clear c35b0
      try clear c36
      try clear c36b0
      try clear c37
      try clear c37b0
      try clear c40
      try clear c41
      try clear c42
      try clear c45
      try clear c47
      try clear c48
      try clear c49
      try clear c52
      try clear c53
      try clear c56
      try clear c57
      try clear c58
      try clear hcz10_0
      try clear hcz10_1
      try clear hcz10_2
      try clear hcz13_0
      try clear hcz13_1
      try clear hcz13_2
      try clear hcz17_0
      try clear hcz17_1
      try clear hcz17_2
      try clear hcz34_0
      try clear hcz34_1
      try clear hcz34_2
      try clear hcz43_0
      try clear hcz43_1
      try clear hcz43_2
      try clear hcz43_3
      try clear hcz43_4
      try clear hcz50_0
      try clear hcz50_1
      try clear hcz50_2
      try clear hcz50_3
      try clear hcz50_4
      try clear hcz54_0
      try clear hcz54_1
      try clear hcz54_2
      try clear hcz59_0
      try clear hcz59_1
      try clear hcz59_2
      try clear hcz59_3
      try clear hcz59_4
      try clear hfz10_0
      try clear hfz10_1
      try clear hfz10_2
      try clear hfz13_0
      try clear hfz13_1
      try clear hfz13_2
      try clear hfz17_0
      try clear hfz17_1
      try clear hfz17_2
      try clear hfz34_0
      try clear hfz34_1
      try clear hfz34_2
      try clear hfz43_0
      try clear hfz43_1
      try clear hfz43_2
      try clear hfz43_3
      try clear hfz43_4
      try clear hfz50_0
      try clear hfz50_1
      try clear hfz50_2
      try clear hfz50_3
      try clear hfz50_4
      try clear hfz54_0
      try clear hfz54_1
      try clear hfz54_2
      try clear hfz59_0
      try clear hfz59_1
      try clear hfz59_2
      try clear hfz59_3
      try clear hfz59_4
      try clear hx318_0
      try clear hx318_1
      try clear hx318_2
      try clear hx318_3
      try clear hx318_4
      try clear p2
      try clear p318
      try clear q318
      obtain ⟨kq, x43_37, rfl, HA, HJ37, HO_318001, HO_318002, BK307, BK308, BK317, BK319, HB⟩ := hcut
      cases kq with
      | zero => exact absurd HA.out (by simp [impl_Moved.j2])
      | succ kj37 =>
       have H := HA.out
       clear HA
       simp only [impl_Moved.j2] at H
       by_cases c61 : x43_37 = true
       ·subst c61
        have H1 : (impl_Moved.l0 kj37 a1 l0_1 (l0_1.length : Int) (wrap64 (x30_2 + 1)) a0_0 l0_1 l0_2 a0_0 x318001_2 t314) = some (r1, r2, r3, r4) := by rw [if_pos rfl] at H; exact H
        clear H
        have H := H1
        clear H1
        have H' := Aside0.mk H
        clear H
        go_wp2
        go_roundg kj37
        case measure => have := HJ2.out; have := HK2.out; have := HJ37.out; omega
        case rel => exact ⟨(wrap64 (x30_2 + 1)), (x309000_2), (x318001_2), (u318001), (by first | rfl | (simp; done) | (simp [*]; done)), H', ⟨by have := HJ2.out; have := HK2.out; have := HJ37.out; omega⟩, ⟨by (with_reducible repeat (first | apply Kd.R_alloc | apply Kd.R_drewN | apply Kd.R_drew)); exact Kd.R_mono HO_318001.out (fun _ hk => trivial)⟩, ⟨zR10 HO_318002.out⟩, ⟨zK10 BK307.out⟩, ⟨zK10 BK308.out⟩, ⟨zK10 BK317.out⟩, ⟨zB10_4⟩⟩
       replace c61 := Bool.eq_false_iff.mpr c61
       subst c61
       have H1 : (if 0 ≤ x30_2 then (if x30_2 < (x318001_2.length : Int) then ((some (x318001_2.set (x30_2 : Int).toNat (⟨(rd_T52 x318001_2 x30_2).f0, (rd_T52 x318001_2 x30_2).f1, (rd_T52 x318001_2 x30_2).f2, (rd_T52 x318001_2 x30_2).f3, wrap64 (((rd_T52 x318001_2 x30_2).f4) + a1)⟩ : S52) : List (S52))).bind fun y323 => ((impl_InsOk.f ((rd_T52 y323 x30_2).f0) ((rd_T52 y323 x30_2).f1) ((rd_T52 y323 x30_2).f2) ((rd_T52 y323 x30_2).f3) ((rd_T52 y323 x30_2).f4)).bind fun t325 => (if t325 = true then (impl_Moved.l0 kj37 a1 l0_1 (l0_1.length : Int) (wrap64 (x30_2 + 1)) a0_0 l0_1 l0_2 a0_0 y323 t314) else (some ((⟨#[]⟩ : ByteArray), ([] : List (S52)), ([] : List (S56)), false))))) else (none)) else (none)) = some (r1, r2, r3, r4) := by rw [if_neg (show ¬ (false = true) by decide)] at H; exact H
       clear H
       have H := H1
       clear H1
       by_cases c62 : 0 ≤ x30_2
       rotate_left
       ·rw [if_neg c62] at H
        exact absurd H (by simp)
       rw [if_pos c62] at H
       have c62b0 : decide (0 ≤ x30_2) = true := decide_eq_true c62
       clear c62
       by_cases c63 : x30_2 < (x318001_2.length : Int)
       rotate_left
       ·rw [if_neg c63] at H
        exact absurd H (by simp)
       rw [if_pos c63] at H
       have c63b0 : decide (x30_2 < (x318001_2.length : Int)) = true := decide_eq_true c63
       clear c63
       obtain ⟨y323, hy323⟩ : ∃ y_ : List (S52), y_ = (x318001_2.set (x30_2 : Int).toNat (⟨(rd_T52 x318001_2 x30_2).f0, (rd_T52 x318001_2 x30_2).f1, (rd_T52 x318001_2 x30_2).f2, (rd_T52 x318001_2 x30_2).f3, wrap64 (((rd_T52 x318001_2 x30_2).f4) + a1)⟩ : S52)) := ⟨_, rfl⟩
       replace H : ((impl_InsOk.f ((rd_T52 y323 x30_2).f0) ((rd_T52 y323 x30_2).f1) ((rd_T52 y323 x30_2).f2) ((rd_T52 y323 x30_2).f3) ((rd_T52 y323 x30_2).f4)).bind fun t325 => (if t325 = true then (impl_Moved.l0 kj37 a1 l0_1 (l0_1.length : Int) (wrap64 (x30_2 + 1)) a0_0 l0_1 l0_2 a0_0 y323 t314) else (some ((⟨#[]⟩ : ByteArray), ([] : List (S52)), ([] : List (S56)), false)))) = some (r1, r2, r3, r4) := by first | (rw [hy323]; with_reducible exact H) | (have H2_ := (Option.bind_some _ _).symm.trans H; rw [hy323]; with_reducible exact H2_) | (have H2_ := (Option.bind_some _ _).symm.trans H; with_reducible exact H2_) | with_reducible exact H | (rw [hy323]; exact H) | exact H
       have Ny323 := Aside0.mk hy323
       clear hy323
       replace H := Option.bind_eq_some_iff.mp H
       obtain ⟨t325, A650, H⟩ := H
       replace H : (if t325 = true then (impl_Moved.l0 kj37 a1 l0_1 (l0_1.length : Int) (wrap64 (x30_2 + 1)) a0_0 l0_1 l0_2 a0_0 y323 t314) else (some ((⟨#[]⟩ : ByteArray), ([] : List (S52)), ([] : List (S56)), false))) = some (r1, r2, r3, r4) := H
       have A65 := Aside0.mk A650
       clear A650
       by_cases c66 : t325 = true
       ·subst c66
        have H1 : (impl_Moved.l0 kj37 a1 l0_1 (l0_1.length : Int) (wrap64 (x30_2 + 1)) a0_0 l0_1 l0_2 a0_0 y323 t314) = some (r1, r2, r3, r4) := by rw [if_pos rfl] at H; exact H
        clear H
        have H := H1
        clear H1
        have H' := Aside0.mk H
        clear H
        have hnb67 := NB317_307.out
        have hnc67 := NB307_317.out
        have hnb68 := NB317_308.out
        have hnc68 := NB308_317.out
        have hnb69 := NB317_319.out
        have hnc69 := NB319_317.out
        obtain ⟨hcz70_0, hcz70_1, hcz70_2, hfz70_0, hfz70_1, hfz70_2⟩ := zc10_3 (w := wc) BK317.out
        obtain ⟨Ao71, co71, eo71⟩ := Kd.R_slice HO_318001.out
        subst eo71
        have p322 : 0 ≤ (x30_2 : Int) := zA10
        have q322 : x30_2 < (x318001_2.length : Int) := zA10
        obtain ⟨ad322, e322, hx322_0, hx322_1, hx322_2, hx322_3, hx322_4⟩ := at_T52 (Kd.R_reads' HO_318001.out).2.2 x30_2 p322 q322
        cases e322
        replace p322 := eq_true p322
        replace q322 := eq_true q322
        have p64 : 0 ≤ (x30_2 : Int) := zA10
        have q64 : (x30_2 : Int) < ((x318001_2.length : Int) : Int) := zA10
        obtain ⟨go64, co64, eo64, gb64, gl64, cl64, HG64⟩ := Kd.R_form HO_318001.out (by omega)
        (first | cases eo64 | (injection eo64 with ea_ en_ ec_; (first | subst ea_ | (injection ea_ with ea_; subst ea_)); subst ec_; clear en_))
        have GB64 := Aside0.mk gb64
        have GG64 := Aside0.mk HG64
        clear gb64 gl64 HG64
        (first | simp only [add_plain] at hx322_0 | skip)
        (first | simp only [add_plain] at hx322_1 | skip)
        (first | simp only [add_plain] at hx322_2 | skip)
        (first | simp only [add_plain] at hx322_3 | skip)
        (first | simp only [add_plain] at hx322_4 | skip)
        obtain ⟨ce64, hcl64, hM64, hcc64, hfr64⟩ := Kd.R_elem HO_318001.out z52 (x30_2 : Int) p64 q64
        obtain rfl := k52_openM hM64
        have hx64_0 : wc.cell? ⟨go64, (x30_2 : Int).toNat * 5, none⟩ = some (.int .i64 ((rd_T52 x318001_2 x30_2).f0)) := hcc64 0 _ rfl
        have hx64_1 : wc.cell? ⟨go64, (x30_2 : Int).toNat * 5 + 1, none⟩ = some (.int .i64 ((rd_T52 x318001_2 x30_2).f1)) := hcc64 1 _ rfl
        have hx64_2 : wc.cell? ⟨go64, (x30_2 : Int).toNat * 5 + 2, none⟩ = some (.int .i64 ((rd_T52 x318001_2 x30_2).f2)) := hcc64 2 _ rfl
        have hx64_3 : wc.cell? ⟨go64, (x30_2 : Int).toNat * 5 + 3, none⟩ = some (.int .i64 ((rd_T52 x318001_2 x30_2).f3)) := hcc64 3 _ rfl
        have hx64_4 : wc.cell? ⟨go64, (x30_2 : Int).toNat * 5 + 4, none⟩ = some (.int .i64 ((rd_T52 x318001_2 x30_2).f4)) := hcc64 4 _ rfl
        have hf64_0 : wc.frozen? ⟨go64, (x30_2 : Int).toNat * 5, none⟩ = false := hfr64 0
        have hf64_1 : wc.frozen? ⟨go64, (x30_2 : Int).toNat * 5 + 1, none⟩ = false := hfr64 1
        have hf64_2 : wc.frozen? ⟨go64, (x30_2 : Int).toNat * 5 + 2, none⟩ = false := hfr64 2
        have hf64_3 : wc.frozen? ⟨go64, (x30_2 : Int).toNat * 5 + 3, none⟩ = false := hfr64 3
        have hf64_4 : wc.frozen? ⟨go64, (x30_2 : Int).toNat * 5 + 4, none⟩ = false := hfr64 4
        clear hcl64 hcc64 hfr64 hM64
        replace p64 := eq_true p64
        replace q64 := eq_true q64
        have HX72 := Aside0.mk (show Kd.R k52 52 wc w.heap.size (fun k_ => k_ ≠ gb319) (.slice (some ⟨go64, 0, none⟩) x318001_2.length co71) x318001_2 from (zR10 HO_318001.out))
        obtain ⟨ce72, hcl72, hM72, hcc72, hfr72⟩ := Kd.R_elem HX72.out z52 (x30_2 : Int) (zA10) (by have h_ : (x30_2 : Int) < ((x318001_2.length : Int) : Int) := zA10; first | exact h_ | (have e_ := (Kd.R_reads' HO_318001.out).1; omega) | simpa using h_)
        obtain rfl := k52_openM hM72
        have HP72 := Kd.R_seg HX72.out (x30_2 : Int) (zA10) (by have h_ : (x30_2 : Int) < ((x318001_2.length : Int) : Int) := zA10; first | exact h_ | (have e_ := (Kd.R_reads' HO_318001.out).1; omega) | simpa using h_) (seg := [.int .i64 (wrap64 (((rd_T52 x318001_2 x30_2).f4) + a1))]) (j := 4) hcl72 hcc72 (show 5 ≤ 5 from by decide) (x' := (⟨(rd_T52 x318001_2 x30_2).f0, (rd_T52 x318001_2 x30_2).f1, (rd_T52 x318001_2 x30_2).f2, (rd_T52 x318001_2 x30_2).f3, wrap64 (((rd_T52 x318001_2 x30_2).f4) + a1)⟩ : S52)) (k52_mkM _ _ _ (⟨(rd_T52 x318001_2 x30_2).f0, (rd_T52 x318001_2 x30_2).f1, (rd_T52 x318001_2 x30_2).f2, (rd_T52 x318001_2 x30_2).f3, wrap64 (((rd_T52 x318001_2 x30_2).f4) + a1)⟩ : S52) ) (fun _ hk => hk)
        have hx72_4 := hcc72 4 _ rfl
        (try simp only [show (k52).sz = 5 from rfl, Nat.mul_one, Nat.add_zero] at hx72_4)
        have hf72_4 := hfr72 4
        (try simp only [show (k52).sz = 5 from rfl, Nat.mul_one, Nat.add_zero] at hf72_4)
        clear hcl72 hcc72 hfr72 hM72
        go_wp2_with (first | ((with_reducible refine gate_store (t := 3) (p := 53) rfl ?_); refine store_event (t := 3) (p := 53) (v := ?vo_w73) (w1 := (wc.setCell ⟨go64, (x30_2 : Int).toNat * 5 + 4, none⟩ (.int .i64 (wrap64 (((rd_T52 x318001_2 x30_2).f4) + a1))))) ?hg ?ho ?hn ?hr ?_; (case ho => rfl); (case hg => rfl); (case hn => rfl); (case hr => first | (go_simp; done) | (go_simp; rfl)); intro w73 hw; have hg : wc.grownBy w73 (some go64) := (by rw [hw]; exact HP72.2); have hp_ : Kd.R k52 52 w73 w.heap.size (fun k_ => k_ ≠ gb319) (.slice (some ⟨go64, 0, none⟩) x318001_2.length co71) y323 := (by rw [hw, Ny323.out]; exact HP72.1); clear HP72; have n0_ := Aside0.mk (hp_); have n1_ := Aside0.mk (Kd.R_over' (v := (.slice (some ⟨go64, 0, none⟩) x318001_2.length co71)) (zR10 HO_318002.out) (Kd.R_typed HO_318001.out) (by decide) hg); have n2_ := Aside0.mk (zg10 BK307.out hg (Kd.R_ne HO_318001.out BK307.out (by decide))); have n3_ := Aside0.mk (zg10 BK308.out hg (Kd.R_ne HO_318001.out BK308.out (by decide))); have n4_ := Aside0.mk (zg10 BK317.out hg (Kd.R_ne HO_318001.out BK317.out (by decide))); have n5_ := Aside0.mk (zg10 BK319.out hg (Kd.R_away HO_318001.out (fun _ hk => hk))); have n6_ := Aside0.mk ((by rw [hw]; exact below_set (HB.out) GB64.out : Below w.heap.size w w73)); clear HO_318001; clear HO_318002; clear BK307; clear BK308; clear BK317; clear BK319; clear HB; have HO_318001 := n0_; have HO_318002 := n1_; have BK307 := n2_; have BK308 := n3_; have BK317 := n4_; have BK319 := n5_; have HB := n6_; clear n0_ n1_ n2_ n3_ n4_ n5_ n6_; clear hg hw hp_; obtain ⟨hcz74_0, hcz74_1, hcz74_2, hfz74_0, hfz74_1, hfz74_2⟩ := zc10_3 (w := w73) BK317.out; have p324 : 0 ≤ (x30_2 : Int) := zA10; have q324 : x30_2 < (y323.length : Int) := (by have h_ : (x30_2 : Int) < ((x318001_2.length : Int) : Int) := zA10; first | (have e_ := (Kd.R_reads' HO_318001.out).1; omega) | simpa only [Ny323.out, List.length_set] using h_); have ql324 : ((x30_2 : Int) < ((x318001_2.length : Int) : Int)) = True := eq_true (zA10); obtain ⟨ad324, e324, hx324_0, hx324_1, hx324_2, hx324_3, hx324_4⟩ := at_T52 (Kd.R_reads' HO_318001.out).2.2 x30_2 p324 q324; obtain rfl : (⟨go64, 0, none⟩ : Addr) = ad324 := (by injection e324); (first | simp only [add_plain] at hx324_0 | simp only [add_at] at hx324_0 | simp only [Addr.add, Nat.zero_add] at hx324_0 | skip); (first | simp only [add_plain] at hx324_1 | simp only [add_at] at hx324_1 | simp only [Addr.add, Nat.zero_add] at hx324_1 | skip); (first | simp only [add_plain] at hx324_2 | simp only [add_at] at hx324_2 | simp only [Addr.add, Nat.zero_add] at hx324_2 | skip); (first | simp only [add_plain] at hx324_3 | simp only [add_at] at hx324_3 | simp only [Addr.add, Nat.zero_add] at hx324_3 | skip); (first | simp only [add_plain] at hx324_4 | simp only [add_at] at hx324_4 | simp only [Addr.add, Nat.zero_add] at hx324_4 | skip); replace p324 := eq_true p324; replace q324 := eq_true q324) | ((with_reducible refine gate_callee (f := 110) rfl ?_); refine goesL_ (some 59) rfl rfl Try.func110 (by kernel_rfl) rfl #[.agg #[.int .i64 ((rd_T52 y323 x30_2).f0), .int .i64 ((rd_T52 y323 x30_2).f1), .int .i64 ((rd_T52 y323 x30_2).f2), .int .i64 ((rd_T52 y323 x30_2).f3), .int .i64 ((rd_T52 y323 x30_2).f4)]] rfl zT10 ?_; (with_reducible refine (impl_InsOk.calls ((rd_T52 y323 x30_2).f0) ((rd_T52 y323 x30_2).f1) ((rd_T52 y323 x30_2).f2) ((rd_T52 y323 x30_2).f3) ((rd_T52 y323 x30_2).f4) true _ A65.out).mono ?_); rintro e w75 ⟨rfl, hb⟩; refine ⟨_, rfl, ?_⟩; have n0_ := Aside0.mk (Kd.R_below (zR10 HO_318001.out) hb); have n1_ := Aside0.mk (Kd.R_below (zR10 HO_318002.out) hb); have n2_ := Aside0.mk (zb10 BK307.out hb); have n3_ := Aside0.mk (zb10 BK308.out hb); have n4_ := Aside0.mk (zb10 BK317.out hb); have n5_ := Aside0.mk (zb10 BK319.out hb); have n6_ := Aside0.mk (below_step (zB10_4) hb); clear HO_318001; clear HO_318002; clear BK307; clear BK308; clear BK317; clear BK319; clear HB; have HO_318001 := n0_; have HO_318002 := n1_; have BK307 := n2_; have BK308 := n3_; have BK317 := n4_; have BK319 := n5_; have HB := n6_; clear n0_ n1_ n2_ n3_ n4_ n5_ n6_; (try clear hb); (try clear hb2); (try clear hk); (try clear hi)))
        go_roundg kj37
        case measure => have := HJ2.out; have := HK2.out; have := HJ37.out; omega
        case rel => exact ⟨(wrap64 (x30_2 + 1)), (x309000_2), (y323), (.slice (some ⟨go64, 0, none⟩) x318001_2.length co71), (by first | rfl | (simp; done) | (simp [*]; done)), H', ⟨by have := HJ2.out; have := HK2.out; have := HJ37.out; omega⟩, ⟨by (with_reducible repeat (first | apply Kd.R_alloc | apply Kd.R_drewN | apply Kd.R_drew)); exact Kd.R_mono HO_318001.out (fun _ hk => trivial)⟩, ⟨zR10 HO_318002.out⟩, ⟨zK10 BK307.out⟩, ⟨zK10 BK308.out⟩, ⟨zK10 BK317.out⟩, ⟨zB10_4⟩⟩
       replace c66 := Bool.eq_false_iff.mpr c66
       subst c66
       have H1 : (some ((⟨#[]⟩ : ByteArray), ([] : List (S52)), ([] : List (S56)), false)) = some (r1, r2, r3, r4) := by rw [if_neg (show ¬ (false = true) by decide)] at H; exact H
       clear H
       have H := H1
       clear H1
       simp only [Option.some.injEq, Prod.mk.injEq] at H
       obtain ⟨rfl, rfl, rfl, rfl⟩ := H
       have hnb76 := NB317_307.out
       have hnc76 := NB307_317.out
       have hnb77 := NB317_308.out
       have hnc77 := NB308_317.out
       have hnb78 := NB317_319.out
       have hnc78 := NB319_317.out
       obtain ⟨hcz79_0, hcz79_1, hcz79_2, hfz79_0, hfz79_1, hfz79_2⟩ := zc10_3 (w := wc) BK317.out
       obtain ⟨Ao80, co80, eo80⟩ := Kd.R_slice HO_318001.out
       subst eo80
       have p322 : 0 ≤ (x30_2 : Int) := zA10
       have q322 : x30_2 < (x318001_2.length : Int) := zA10
       obtain ⟨ad322, e322, hx322_0, hx322_1, hx322_2, hx322_3, hx322_4⟩ := at_T52 (Kd.R_reads' HO_318001.out).2.2 x30_2 p322 q322
       cases e322
       replace p322 := eq_true p322
       replace q322 := eq_true q322
       have p64 : 0 ≤ (x30_2 : Int) := zA10
       have q64 : (x30_2 : Int) < ((x318001_2.length : Int) : Int) := zA10
       obtain ⟨go64, co64, eo64, gb64, gl64, cl64, HG64⟩ := Kd.R_form HO_318001.out (by omega)
       (first | cases eo64 | (injection eo64 with ea_ en_ ec_; (first | subst ea_ | (injection ea_ with ea_; subst ea_)); subst ec_; clear en_))
       have GB64 := Aside0.mk gb64
       have GG64 := Aside0.mk HG64
       clear gb64 gl64 HG64
       (first | simp only [add_plain] at hx322_0 | skip)
       (first | simp only [add_plain] at hx322_1 | skip)
       (first | simp only [add_plain] at hx322_2 | skip)
       (first | simp only [add_plain] at hx322_3 | skip)
       (first | simp only [add_plain] at hx322_4 | skip)
       obtain ⟨ce64, hcl64, hM64, hcc64, hfr64⟩ := Kd.R_elem HO_318001.out z52 (x30_2 : Int) p64 q64
       obtain rfl := k52_openM hM64
       have hx64_0 : wc.cell? ⟨go64, (x30_2 : Int).toNat * 5, none⟩ = some (.int .i64 ((rd_T52 x318001_2 x30_2).f0)) := hcc64 0 _ rfl
       have hx64_1 : wc.cell? ⟨go64, (x30_2 : Int).toNat * 5 + 1, none⟩ = some (.int .i64 ((rd_T52 x318001_2 x30_2).f1)) := hcc64 1 _ rfl
       have hx64_2 : wc.cell? ⟨go64, (x30_2 : Int).toNat * 5 + 2, none⟩ = some (.int .i64 ((rd_T52 x318001_2 x30_2).f2)) := hcc64 2 _ rfl
       have hx64_3 : wc.cell? ⟨go64, (x30_2 : Int).toNat * 5 + 3, none⟩ = some (.int .i64 ((rd_T52 x318001_2 x30_2).f3)) := hcc64 3 _ rfl
       have hx64_4 : wc.cell? ⟨go64, (x30_2 : Int).toNat * 5 + 4, none⟩ = some (.int .i64 ((rd_T52 x318001_2 x30_2).f4)) := hcc64 4 _ rfl
       have hf64_0 : wc.frozen? ⟨go64, (x30_2 : Int).toNat * 5, none⟩ = false := hfr64 0
       have hf64_1 : wc.frozen? ⟨go64, (x30_2 : Int).toNat * 5 + 1, none⟩ = false := hfr64 1
       have hf64_2 : wc.frozen? ⟨go64, (x30_2 : Int).toNat * 5 + 2, none⟩ = false := hfr64 2
       have hf64_3 : wc.frozen? ⟨go64, (x30_2 : Int).toNat * 5 + 3, none⟩ = false := hfr64 3
       have hf64_4 : wc.frozen? ⟨go64, (x30_2 : Int).toNat * 5 + 4, none⟩ = false := hfr64 4
       clear hcl64 hcc64 hfr64 hM64
       replace p64 := eq_true p64
       replace q64 := eq_true q64
       have HX81 := Aside0.mk (show Kd.R k52 52 wc w.heap.size (fun k_ => k_ ≠ gb319) (.slice (some ⟨go64, 0, none⟩) x318001_2.length co80) x318001_2 from (zR10 HO_318001.out))
       obtain ⟨ce81, hcl81, hM81, hcc81, hfr81⟩ := Kd.R_elem HX81.out z52 (x30_2 : Int) (zA10) (by have h_ : (x30_2 : Int) < ((x318001_2.length : Int) : Int) := zA10; first | exact h_ | (have e_ := (Kd.R_reads' HO_318001.out).1; omega) | simpa using h_)
       obtain rfl := k52_openM hM81
       have HP81 := Kd.R_seg HX81.out (x30_2 : Int) (zA10) (by have h_ : (x30_2 : Int) < ((x318001_2.length : Int) : Int) := zA10; first | exact h_ | (have e_ := (Kd.R_reads' HO_318001.out).1; omega) | simpa using h_) (seg := [.int .i64 (wrap64 (((rd_T52 x318001_2 x30_2).f4) + a1))]) (j := 4) hcl81 hcc81 (show 5 ≤ 5 from by decide) (x' := (⟨(rd_T52 x318001_2 x30_2).f0, (rd_T52 x318001_2 x30_2).f1, (rd_T52 x318001_2 x30_2).f2, (rd_T52 x318001_2 x30_2).f3, wrap64 (((rd_T52 x318001_2 x30_2).f4) + a1)⟩ : S52)) (k52_mkM _ _ _ (⟨(rd_T52 x318001_2 x30_2).f0, (rd_T52 x318001_2 x30_2).f1, (rd_T52 x318001_2 x30_2).f2, (rd_T52 x318001_2 x30_2).f3, wrap64 (((rd_T52 x318001_2 x30_2).f4) + a1)⟩ : S52) ) (fun _ hk => hk)
       have hx81_4 := hcc81 4 _ rfl
       (try simp only [show (k52).sz = 5 from rfl, Nat.mul_one, Nat.add_zero] at hx81_4)
       have hf81_4 := hfr81 4
       (try simp only [show (k52).sz = 5 from rfl, Nat.mul_one, Nat.add_zero] at hf81_4)
       clear hcl81 hcc81 hfr81 hM81
       go_wp2_with (first | ((with_reducible refine gate_store (t := 3) (p := 53) rfl ?_); refine store_event (t := 3) (p := 53) (v := ?vo_w82) (w1 := (wc.setCell ⟨go64, (x30_2 : Int).toNat * 5 + 4, none⟩ (.int .i64 (wrap64 (((rd_T52 x318001_2 x30_2).f4) + a1))))) ?hg ?ho ?hn ?hr ?_; (case ho => rfl); (case hg => rfl); (case hn => rfl); (case hr => first | (go_simp; done) | (go_simp; rfl)); intro w82 hw; have hg : wc.grownBy w82 (some go64) := (by rw [hw]; exact HP81.2); have hp_ : Kd.R k52 52 w82 w.heap.size (fun k_ => k_ ≠ gb319) (.slice (some ⟨go64, 0, none⟩) x318001_2.length co80) y323 := (by rw [hw, Ny323.out]; exact HP81.1); clear HP81; have n0_ := Aside0.mk (hp_); have n1_ := Aside0.mk (Kd.R_over' (v := (.slice (some ⟨go64, 0, none⟩) x318001_2.length co80)) (zR10 HO_318002.out) (Kd.R_typed HO_318001.out) (by decide) hg); have n2_ := Aside0.mk (zg10 BK307.out hg (Kd.R_ne HO_318001.out BK307.out (by decide))); have n3_ := Aside0.mk (zg10 BK308.out hg (Kd.R_ne HO_318001.out BK308.out (by decide))); have n4_ := Aside0.mk (zg10 BK317.out hg (Kd.R_ne HO_318001.out BK317.out (by decide))); have n5_ := Aside0.mk (zg10 BK319.out hg (Kd.R_away HO_318001.out (fun _ hk => hk))); have n6_ := Aside0.mk ((by rw [hw]; exact below_set (HB.out) GB64.out : Below w.heap.size w w82)); clear HO_318001; clear HO_318002; clear BK307; clear BK308; clear BK317; clear BK319; clear HB; have HO_318001 := n0_; have HO_318002 := n1_; have BK307 := n2_; have BK308 := n3_; have BK317 := n4_; have BK319 := n5_; have HB := n6_; clear n0_ n1_ n2_ n3_ n4_ n5_ n6_; clear hg hw hp_; obtain ⟨hcz83_0, hcz83_1, hcz83_2, hfz83_0, hfz83_1, hfz83_2⟩ := zc10_3 (w := w82) BK317.out; have p324 : 0 ≤ (x30_2 : Int) := zA10; have q324 : x30_2 < (y323.length : Int) := (by have h_ : (x30_2 : Int) < ((x318001_2.length : Int) : Int) := zA10; first | (have e_ := (Kd.R_reads' HO_318001.out).1; omega) | simpa only [Ny323.out, List.length_set] using h_); have ql324 : ((x30_2 : Int) < ((x318001_2.length : Int) : Int)) = True := eq_true (zA10); obtain ⟨ad324, e324, hx324_0, hx324_1, hx324_2, hx324_3, hx324_4⟩ := at_T52 (Kd.R_reads' HO_318001.out).2.2 x30_2 p324 q324; obtain rfl : (⟨go64, 0, none⟩ : Addr) = ad324 := (by injection e324); (first | simp only [add_plain] at hx324_0 | simp only [add_at] at hx324_0 | simp only [Addr.add, Nat.zero_add] at hx324_0 | skip); (first | simp only [add_plain] at hx324_1 | simp only [add_at] at hx324_1 | simp only [Addr.add, Nat.zero_add] at hx324_1 | skip); (first | simp only [add_plain] at hx324_2 | simp only [add_at] at hx324_2 | simp only [Addr.add, Nat.zero_add] at hx324_2 | skip); (first | simp only [add_plain] at hx324_3 | simp only [add_at] at hx324_3 | simp only [Addr.add, Nat.zero_add] at hx324_3 | skip); (first | simp only [add_plain] at hx324_4 | simp only [add_at] at hx324_4 | simp only [Addr.add, Nat.zero_add] at hx324_4 | skip); replace p324 := eq_true p324; replace q324 := eq_true q324) | ((with_reducible refine gate_callee (f := 110) rfl ?_); refine goesL_ (some 59) rfl rfl Try.func110 (by kernel_rfl) rfl #[.agg #[.int .i64 ((rd_T52 y323 x30_2).f0), .int .i64 ((rd_T52 y323 x30_2).f1), .int .i64 ((rd_T52 y323 x30_2).f2), .int .i64 ((rd_T52 y323 x30_2).f3), .int .i64 ((rd_T52 y323 x30_2).f4)]] rfl zT10 ?_; (with_reducible refine (impl_InsOk.calls ((rd_T52 y323 x30_2).f0) ((rd_T52 y323 x30_2).f1) ((rd_T52 y323 x30_2).f2) ((rd_T52 y323 x30_2).f3) ((rd_T52 y323 x30_2).f4) false _ A65.out).mono ?_); rintro e w84 ⟨rfl, hb⟩; refine ⟨_, rfl, ?_⟩; have n0_ := Aside0.mk (Kd.R_below (zR10 HO_318001.out) hb); have n1_ := Aside0.mk (Kd.R_below (zR10 HO_318002.out) hb); have n2_ := Aside0.mk (zb10 BK307.out hb); have n3_ := Aside0.mk (zb10 BK308.out hb); have n4_ := Aside0.mk (zb10 BK317.out hb); have n5_ := Aside0.mk (zb10 BK319.out hb); have n6_ := Aside0.mk (below_step (zB10_4) hb); clear HO_318001; clear HO_318002; clear BK307; clear BK308; clear BK317; clear BK319; clear HB; have HO_318001 := n0_; have HO_318002 := n1_; have BK307 := n2_; have BK308 := n3_; have BK317 := n4_; have BK319 := n5_; have HB := n6_; clear n0_ n1_ n2_ n3_ n4_ n5_ n6_; (try clear hb); (try clear hb2); (try clear hk); (try clear hi); have hnb85 := NB308_307.out; have hnc85 := NB307_308.out; have hnb86 := NB308_319.out; have hnc86 := NB319_308.out; obtain ⟨hcz87_0, hcz87_1, hcz87_2, hfz87_0, hfz87_1, hfz87_2⟩ := zc10_3 (w := w84) BK308.out))
       refine bodyPost_ret (results_ct rfl _ _ gb308 45 #[.string (⟨#[]⟩ : ByteArray), .slice none 0 0, .slice none 0 0] (0, 0) _ rfl (by refine zP10 ?_; refine blk_put (cs := #[.string (⟨#[]⟩ : ByteArray), .slice none 0 0, .slice none 0 0]) ?_ 2 _ rfl; refine zP10 ?_; refine blk_put (cs := #[.string (⟨#[]⟩ : ByteArray), .slice none 0 0, .slice none 0 0]) ?_ 1 _ rfl; refine zP10 ?_; refine blk_put (cs := #[.string x309000_2, .slice none 0 0, .slice none 0 0]) ?_ 0 _ rfl; refine zP10 ?_; exact BK308.out) Try.underlying45 rfl (by kernel_rfl)) rfl ?_
       exact ⟨_, _, zE10, by first | exact Kd.R_nil _ _ _ _ _ | exact Kd.N_nil _ _ _ _ _ | exact Kd.V_nil _ _ _ _ _ | exact Kd.Q_nil _ _ _ _ _ | exact Kd.S_nil _ _ _ _ _, by first | exact Kd.R_nil _ _ _ _ _ | exact Kd.N_nil _ _ _ _ _ | exact Kd.V_nil _ _ _ _ _ | exact Kd.Q_nil _ _ _ _ _ | exact Kd.S_nil _ _ _ _ _, zB10_4⟩

end Go.Proofs.Ytnekcbajadnldaa.PFnMoved
