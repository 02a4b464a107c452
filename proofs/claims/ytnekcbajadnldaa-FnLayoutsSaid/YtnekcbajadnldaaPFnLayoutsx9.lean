-- made by wip/tools/myprint.py out of the seat's translation
import Derived.Test.YtnekcbajadnldaaPFnLayoutsx0
import Derived.Test.YtnekcbajadnldaaPFnLayoutsx2
import Derived.Test.YtnekcbajadnldaaPFnLayoutsx8
namespace Go.Proofs.Ytnekcbajadnldaa.PFnLayouts
open Go.RowKit Go.Proofs.YtnekcbajadnldaaW.PrintWords Go.Proofs.YtnekcbajadnldaaW.PrintLast Go.Proofs.YtnekcbajadnldaaW.PrintMore
attribute [local go_sem] max2_int min2_int max_two min_two max_three min_three max_four min_four   -- for this text's walks alone
set_option linter.unusedVariables false
set_option linter.unusedSimpArgs false
theorem zc9_2 {w : World} {g : Nat} {a0 a1 : Value} {t : TypeId} (h : w.heap[g]? = some (.cells #[a0, a1] t (0, 0))) : w.cell? ⟨g, 0, none⟩ = some a0 ∧ w.cell? ⟨g, 1, none⟩ = some a1 ∧ w.frozen? ⟨g, 0, none⟩ = false ∧ w.frozen? ⟨g, 1, none⟩ = false := ⟨(blk_cell h 0).trans rfl, (blk_cell h 1).trans rfl, blk_frozen h 0, blk_frozen h 1⟩
theorem zc9_3 {w : World} {g : Nat} {a0 a1 a2 : Value} {t : TypeId} (h : w.heap[g]? = some (.cells #[a0, a1, a2] t (0, 0))) : w.cell? ⟨g, 0, none⟩ = some a0 ∧ w.cell? ⟨g, 1, none⟩ = some a1 ∧ w.cell? ⟨g, 2, none⟩ = some a2 ∧ w.frozen? ⟨g, 0, none⟩ = false ∧ w.frozen? ⟨g, 1, none⟩ = false ∧ w.frozen? ⟨g, 2, none⟩ = false := ⟨(blk_cell h 0).trans rfl, (blk_cell h 1).trans rfl, (blk_cell h 2).trans rfl, blk_frozen h 0, blk_frozen h 1, blk_frozen h 2⟩
theorem zK9 {p q : Prop} (x : q) (h : q → p := by intro h; (with_reducible repeat (first | refine blk_drewN ?_ _ | refine blk_drew ?_ | refine blk_alloc ?_ _)); exact h) : p := h x
theorem zA9 {p : Prop} [Decidable p] (h : decide p = true := by first | (with_reducible assumption) | assumption) : p := of_decide_eq_true h
theorem zT9 {p : Prop} (h : p := by (try simp only [List.map_toArray, List.map_cons, List.map_nil]); first | done | rfl | (simp only [List.length_drop, List.length_take]; rfl)) : p := h
theorem zb9 {W w w1 : World} {g : Nat} {o : Obj} (x : W.heap[g]? = some o) (hb : Below w.heap.size w w1) (h : W.heap[g]? = some o → w.heap[g]? = some o := by intro h; (with_reducible repeat (first | refine blk_drewN ?_ _ | refine blk_drew ?_ | refine blk_alloc ?_ _)); exact h) : w1.heap[g]? = some o := blk_below (h x) hb
theorem zn9 {W w : World} {g g' : Nat} {o : Obj} (x : W.heap[g]? = some o) (hg : g' = w.heap.size) (h : W.heap[g]? = some o → w.heap[g]? = some o := by intro h; (with_reducible repeat (first | refine blk_drewN ?_ _ | refine blk_drew ?_ | refine blk_alloc ?_ _)); exact h) : g ≠ g' := by rw [hg]; exact Nat.ne_of_lt (blk_lt (h x))
theorem zm9 {W w : World} {g g' : Nat} {o : Obj} (x : W.heap[g]? = some o) (hg : g' = w.heap.size) (h : W.heap[g]? = some o → w.heap[g]? = some o := by intro h; (with_reducible repeat (first | refine blk_drewN ?_ _ | refine blk_drew ?_ | refine blk_alloc ?_ _)); exact h) : g' ≠ g := by rw [hg]; exact Nat.ne_of_gt (blk_lt (h x))
theorem zP9 {p q : Prop} (x : q) (h : q → p := by intro h; (with_reducible repeat (first | refine blk_drewN ?_ _ | refine blk_drew ?_ | refine blk_alloc ?_ _)); exact h) : p := h x
theorem zE9 {p : Prop} (h : p := by first | rfl | (simp [errW_none, errW_some] <;> rfl) | (simp [*, errW_none, errW_some] <;> rfl)) : p := h
theorem zB9_0 {p : Prop} (h : p := by repeat (first | (with_reducible first | exact HB.out | apply below_alloc | apply pw_below_drewN | apply below_drew1) | exact HB.out)) : p := h
theorem zB9_1 {p : Prop} (h : p := by repeat (first | (with_reducible first | exact HB.out | apply below_alloc | apply pw_below_drewN | apply below_drew1 | refine below_set ?_ GE346.out) | exact HB.out)) : p := h
theorem zB9_2 {p : Prop} (h : p := by repeat (first | (with_reducible first | exact HB.out | apply below_alloc | apply pw_below_drewN | apply below_drew1 | refine below_set ?_ GE346.out | refine below_set ?_ GE352.out) | exact HB.out)) : p := h

/-! ### spec_PartOk: function 46 -/
mutual
def spec_PartOk.l0 : Nat → Int → ByteArray → List (S52) → List (S56) → Option (Bool)
 | 0, _, _, _, _ => none
 | k + 1, x3, x347000, x347001, x347002 => if x3 < (x347001.length : Int) then (if 0 ≤ x3 then ((spec_InsOk.f ((rd_T52 x347001 x3).f0) ((rd_T52 x347001 x3).f1) ((rd_T52 x347001 x3).f2) ((rd_T52 x347001 x3).f3) ((rd_T52 x347001 x3).f4)).bind fun t348 => (if t348 = true then (spec_PartOk.l0 k (wrap64 (x3 + 1)) x347000 x347001 x347002) else (some false))) else (none)) else ((spec_l27Name.f k x347000).bind fun t349 => (if t349 = true then ((spec_l1In.f (x347001.length : Int) 1 24).bind fun t350 => (if t350 = true then (spec_PartOk.j1 k (decide ((x347002.length : Int) > 24)) x347000 x347001 x347002) else (spec_PartOk.j1 k true x347000 x347001 x347002))) else (spec_PartOk.j1 k true x347000 x347001 x347002)))
def spec_PartOk.j1 : Nat → Bool → ByteArray → List (S52) → List (S56) → Option (Bool)
 | 0, _, _, _, _ => none
 | k + 1, x36, x347000, x347001, x347002 => if x36 = true then (some false) else (spec_PartOk.l1 k 0 x347000 x347001 x347002)
def spec_PartOk.l1 : Nat → Int → ByteArray → List (S52) → List (S56) → Option (Bool)
 | 0, _, _, _, _ => none
 | k + 1, x4, x347000, x347001, x347002 => if x4 < (x347002.length : Int) then (if 0 ≤ x4 then ((spec_l1In.f ((rd_T56 x347002 x4).f0) 0 (wrap64 ((x347001.length : Int) - 1))).bind fun t353 => (if t353 = true then (if 0 ≤ ((rd_T56 x347002 x4).f0) then (if ((rd_T56 x347002 x4).f0) < (x347001.length : Int) then ((spec_l27Goes.f ((rd_T52 x347001 ((rd_T56 x347002 x4).f0)).f0) ((rd_T52 x347001 ((rd_T56 x347002 x4).f0)).f1) ((rd_T52 x347001 ((rd_T56 x347002 x4).f0)).f2) ((rd_T52 x347001 ((rd_T56 x347002 x4).f0)).f3) ((rd_T52 x347001 ((rd_T56 x347002 x4).f0)).f4)).bind fun t355 => (if t355 = true then ((spec_l27Name.f k ((rd_T56 x347002 x4).f1)).bind fun t356 => (if t356 = true then ((spec_l27Ref.f k x347000 x347001 x347002 ((rd_T56 x347002 x4).f0)).bind fun t357 => (if t357 = x4 then (spec_PartOk.l1 k (wrap64 (x4 + 1)) x347000 x347001 x347002) else (some false))) else (some false))) else (some false))) else (none)) else (none)) else (some false))) else (none)) else (some true)
end
def spec_PartOk.f (k : Nat) (a0_0 : ByteArray) (l0_1 : List (S52)) (l0_2 : List (S56)) : Option (Bool) := spec_PartOk.l0 k 0 a0_0 l0_1 l0_2
theorem spec_PartOk.mono_l : ∀ k, (∀ y0 y1 y2 y3, LeO (spec_PartOk.l0 k y0 y1 y2 y3) (spec_PartOk.l0 (k + 1) y0 y1 y2 y3)) ∧ (∀ y0 y1 y2 y3, LeO (spec_PartOk.j1 k y0 y1 y2 y3) (spec_PartOk.j1 (k + 1) y0 y1 y2 y3)) ∧ (∀ y0 y1 y2 y3, LeO (spec_PartOk.l1 k y0 y1 y2 y3) (spec_PartOk.l1 (k + 1) y0 y1 y2 y3))
 | 0 => ⟨fun _ _ _ _ r h => by simp [spec_PartOk.l0] at h, fun _ _ _ _ r h => by simp [spec_PartOk.j1] at h, fun _ _ _ _ r h => by simp [spec_PartOk.l1] at h⟩
 | k + 1 => by
  obtain ⟨ih0, ih1, ih2⟩ := spec_PartOk.mono_l k
  refine ⟨?_, ?_, ?_⟩
  ·intro y0 y1 y2 y3
   unfold spec_PartOk.l0
   repeat' first
   | (with_reducible exact ih0 _ _ _ _)
   | (with_reducible exact ih1 _ _ _ _)
   | (with_reducible exact ih2 _ _ _ _)
   | (with_reducible exact spec_l27Name.mono _ _)
   | (with_reducible exact spec_l27Ref.mono _ _ _ _ _)
   | (with_reducible exact LeO.refl _)
   | (with_reducible exact LeO.none _)
   | (with_reducible refine LeO.ite ?_ ?_)
   | (with_reducible refine LeO.bind ?_ (fun _ => ?_))
   | exact ih0 _ _ _ _
   | exact ih1 _ _ _ _
   | exact ih2 _ _ _ _
   | exact spec_l27Name.mono _ _
   | exact spec_l27Ref.mono _ _ _ _ _
   | exact LeO.none _
   | refine LeO.ite ?_ ?_
   | refine LeO.bind ?_ (fun _ => ?_)
  ·intro y0 y1 y2 y3
   unfold spec_PartOk.j1
   repeat' first
   | (with_reducible exact ih0 _ _ _ _)
   | (with_reducible exact ih1 _ _ _ _)
   | (with_reducible exact ih2 _ _ _ _)
   | (with_reducible exact spec_l27Name.mono _ _)
   | (with_reducible exact spec_l27Ref.mono _ _ _ _ _)
   | (with_reducible exact LeO.refl _)
   | (with_reducible exact LeO.none _)
   | (with_reducible refine LeO.ite ?_ ?_)
   | (with_reducible refine LeO.bind ?_ (fun _ => ?_))
   | exact ih0 _ _ _ _
   | exact ih1 _ _ _ _
   | exact ih2 _ _ _ _
   | exact spec_l27Name.mono _ _
   | exact spec_l27Ref.mono _ _ _ _ _
   | exact LeO.none _
   | refine LeO.ite ?_ ?_
   | refine LeO.bind ?_ (fun _ => ?_)
  ·intro y0 y1 y2 y3
   unfold spec_PartOk.l1
   repeat' first
   | (with_reducible exact ih0 _ _ _ _)
   | (with_reducible exact ih1 _ _ _ _)
   | (with_reducible exact ih2 _ _ _ _)
   | (with_reducible exact spec_l27Name.mono _ _)
   | (with_reducible exact spec_l27Ref.mono _ _ _ _ _)
   | (with_reducible exact LeO.refl _)
   | (with_reducible exact LeO.none _)
   | (with_reducible refine LeO.ite ?_ ?_)
   | (with_reducible refine LeO.bind ?_ (fun _ => ?_))
   | exact ih0 _ _ _ _
   | exact ih1 _ _ _ _
   | exact ih2 _ _ _ _
   | exact spec_l27Name.mono _ _
   | exact spec_l27Ref.mono _ _ _ _ _
   | exact LeO.none _
   | refine LeO.ite ?_ ?_
   | refine LeO.bind ?_ (fun _ => ?_)
theorem spec_PartOk.mono : ∀ a0 a1 a2 k, LeO (spec_PartOk.f k a0 a1 a2) (spec_PartOk.f (k + 1) a0 a1 a2) := by
 intro a0 a1 a2 k
 obtain ⟨ih0, ih1, ih2⟩ := spec_PartOk.mono_l k
 unfold spec_PartOk.f
 repeat' first
   | (with_reducible exact ih0 _ _ _ _)
   | (with_reducible exact ih1 _ _ _ _)
   | (with_reducible exact ih2 _ _ _ _)
   | (with_reducible exact spec_l27Name.mono _ _)
   | (with_reducible exact spec_l27Ref.mono _ _ _ _ _)
   | (with_reducible exact LeO.refl _)
   | (with_reducible exact LeO.none _)
   | (with_reducible refine LeO.ite ?_ ?_)
   | (with_reducible refine LeO.bind ?_ (fun _ => ?_))
   | exact ih0 _ _ _ _
   | exact ih1 _ _ _ _
   | exact ih2 _ _ _ _
   | exact spec_l27Name.mono _ _
   | exact spec_l27Ref.mono _ _ _ _ _
   | exact LeO.none _
   | refine LeO.ite ?_ ?_
   | refine LeO.bind ?_ (fun _ => ?_)
set_option maxHeartbeats 8000000 in
set_option maxRecDepth 100000 in
theorem spec_PartOk.calls (k : Nat) (a0_0 : ByteArray) (A0_1 : Option Addr) (c0_1 : Nat) (l0_1 : List (S52)) (A0_2 : Option Addr) (c0_2 : Nat) (l0_2 : List (S56)) (r : Bool) (w : World) (hr0_1 : Kd.C k52 w A0_1 l0_1.length l0_1) (hc0_1 : l0_1.length ≤ c0_1) (hr0_2 : Kd.C k56 w A0_2 l0_2.length l0_2) (hc0_2 : l0_2.length ≤ c0_2) (h : spec_PartOk.f k a0_0 l0_1 l0_2 = some r) :
  Calls Try.prog 46 #[.agg #[.string a0_0, .slice A0_1 l0_1.length c0_1, .slice A0_2 l0_2.length c0_2]] w fun e w' => e = .returned (.bool r) ∧ Below w.heap.size w w' := by
 have hu45 := Try.underlying45
 have hu52 := Try.underlying52
 have hu56 := Try.underlying56
 have HR0_1 := Aside0.mk hr0_1
 have HC0_1 := Aside0.mk hc0_1
 clear hr0_1 hc0_1
 have HR0_2 := Aside0.mk hr0_2
 have HC0_2 := Aside0.mk hc0_2
 clear hr0_2 hc0_2
 have HB := Aside0.mk (Below.refl w.heap.size w)
 have H : (spec_PartOk.l0 k 0 a0_0 l0_1 l0_2) = some r := h
 clear h
 have H' := Aside0.mk H
 clear H
 go_enter Try.func46, Try.ntmps46
 go_wp2_with (first | ((with_reducible refine gate_dst (N := 1) rfl ?_); (try (refine gate_guard (by rfl) ?_; dsimp only)); refine box_event ?hg (N := 1) ?hd (cs := #[.string a0_0, .slice A0_1 l0_1.length c0_1, .slice A0_2 l0_2.length c0_2]) (t := 45) ?hr ?_; (case hd => rfl); (case hg => rfl); (case hr => first | (go_simp; done) | (go_simp; rfl)); intro gb346 hg w2 hbox hb; have n0_ := Aside0.mk (below_step (zB9_0) hb); have n1_ := Aside0.mk (hbox); have n2_ := Aside0.mk ((by rw [hg]; exact (below_size (zB9_0)) : w.heap.size ≤ gb346)); have n3_ := Aside0.mk ((by rw [hg]; exact (below_size (zB9_0)) : w.heap.size ≤ gb346)); clear HB; have HB := n0_; have BK346 := n1_; have GW346 := n2_; have GE346 := n3_; clear n0_ n1_ n2_ n3_; clear hb hbox hg))
 go_loopg [3] k (fun kq v3 w' => ∃ (x3_1 : Int), v3 = .int .i64 x3_1 ∧ Aside0 (spec_PartOk.l0 kq x3_1 a0_0 l0_1 l0_2 = some r) ∧ Aside0 (kq ≤ k) ∧ Aside0 (w'.heap[gb346]? = some (.cells #[.string a0_0, (.slice A0_1 l0_1.length c0_1), (.slice A0_2 l0_2.length c0_2)] 45 (0, 0))) ∧ Aside0 (Below w.heap.size w w'))
 case atStart => exact ⟨(0), (by first | rfl | (simp; done) | (simp [*]; done)), H', ⟨Nat.le_refl _⟩, ⟨zK9 BK346.out⟩, ⟨zB9_1⟩⟩
 case round =>
  clear H'
  try clear p2
  obtain ⟨x3_1, rfl, HA, HK1, BK346, HB⟩ := hrel
  cases gk with
  | zero => exact absurd HA.out (by simp [spec_PartOk.l0])
  | succ k1 =>
   have H := HA.out
   clear HA
   simp only [spec_PartOk.l0] at H
   by_cases c3 : x3_1 < (l0_1.length : Int)
   ·rw [if_pos c3] at H
    have c3b0 : decide (x3_1 < (l0_1.length : Int)) = true := decide_eq_true c3
    clear c3
    by_cases c4 : 0 ≤ x3_1
    rotate_left
    ·rw [if_neg c4] at H
     exact absurd H (by simp)
    rw [if_pos c4] at H
    have c4b0 : decide (0 ≤ x3_1) = true := decide_eq_true c4
    clear c4
    replace H := Option.bind_eq_some_iff.mp H
    obtain ⟨t348, A50, H⟩ := H
    replace H : (if t348 = true then (spec_PartOk.l0 k1 (wrap64 (x3_1 + 1)) a0_0 l0_1 l0_2) else (some false)) = some r := H
    have A5 := Aside0.mk A50
    clear A50
    by_cases c6 : t348 = true
    rotate_left
    ·replace c6 := Bool.eq_false_iff.mpr c6
     subst c6
     have H1 : (some false) = some r := by rw [if_neg (show ¬ (false = true) by decide)] at H; exact H
     clear H
     have H := H1
     clear H1
     obtain rfl := Option.some.inj H
     obtain ⟨hcz9_0, hcz9_1, hcz9_2, hfz9_0, hfz9_1, hfz9_2⟩ := zc9_3 (w := wr) BK346.out
     have p347 : 0 ≤ (x3_1 : Int) := zA9
     have q347 : x3_1 < (l0_1.length : Int) := zA9
     obtain ⟨ad347, e347, hx347_0, hx347_1, hx347_2, hx347_3, hx347_4⟩ := at_T52 HR0_1.out x3_1 p347 q347
     cases e347
     replace hx347_0 := (HB.out.cell (World.block_lt_of_cell? w _ hx347_0)).trans hx347_0
     replace hx347_1 := (HB.out.cell (World.block_lt_of_cell? w _ hx347_1)).trans hx347_1
     replace hx347_2 := (HB.out.cell (World.block_lt_of_cell? w _ hx347_2)).trans hx347_2
     replace hx347_3 := (HB.out.cell (World.block_lt_of_cell? w _ hx347_3)).trans hx347_3
     replace hx347_4 := (HB.out.cell (World.block_lt_of_cell? w _ hx347_4)).trans hx347_4
     replace p347 := eq_true p347
     replace q347 := eq_true q347
     go_wp2_with (first | ((with_reducible refine gate_callee (f := 113) rfl ?_); refine goesL_ (some 18) rfl rfl Try.func113 (by kernel_rfl) rfl #[.agg #[.int .i64 ((rd_T52 l0_1 x3_1).f0), .int .i64 ((rd_T52 l0_1 x3_1).f1), .int .i64 ((rd_T52 l0_1 x3_1).f2), .int .i64 ((rd_T52 l0_1 x3_1).f3), .int .i64 ((rd_T52 l0_1 x3_1).f4)]] rfl zT9 ?_; (with_reducible refine (spec_InsOk.calls ((rd_T52 l0_1 x3_1).f0) ((rd_T52 l0_1 x3_1).f1) ((rd_T52 l0_1 x3_1).f2) ((rd_T52 l0_1 x3_1).f3) ((rd_T52 l0_1 x3_1).f4) false _ A5.out).mono ?_); rintro e w10 ⟨rfl, hb⟩; refine ⟨_, rfl, ?_⟩; have n0_ := Aside0.mk (zb9 BK346.out hb); have n1_ := Aside0.mk (below_step (zB9_1) hb); clear BK346; clear HB; have BK346 := n0_; have HB := n1_; clear n0_ n1_; (try clear hb); (try clear hb2); (try clear hk); (try clear hi)))
     go_ret
     exact ⟨zE9, zB9_1⟩
    subst c6
    have H1 : (spec_PartOk.l0 k1 (wrap64 (x3_1 + 1)) a0_0 l0_1 l0_2) = some r := by rw [if_pos rfl] at H; exact H
    clear H
    have H := H1
    clear H1
    have H' := Aside0.mk H
    clear H
    obtain ⟨hcz7_0, hcz7_1, hcz7_2, hfz7_0, hfz7_1, hfz7_2⟩ := zc9_3 (w := wr) BK346.out
    have p347 : 0 ≤ (x3_1 : Int) := zA9
    have q347 : x3_1 < (l0_1.length : Int) := zA9
    obtain ⟨ad347, e347, hx347_0, hx347_1, hx347_2, hx347_3, hx347_4⟩ := at_T52 HR0_1.out x3_1 p347 q347
    cases e347
    replace hx347_0 := (HB.out.cell (World.block_lt_of_cell? w _ hx347_0)).trans hx347_0
    replace hx347_1 := (HB.out.cell (World.block_lt_of_cell? w _ hx347_1)).trans hx347_1
    replace hx347_2 := (HB.out.cell (World.block_lt_of_cell? w _ hx347_2)).trans hx347_2
    replace hx347_3 := (HB.out.cell (World.block_lt_of_cell? w _ hx347_3)).trans hx347_3
    replace hx347_4 := (HB.out.cell (World.block_lt_of_cell? w _ hx347_4)).trans hx347_4
    replace p347 := eq_true p347
    replace q347 := eq_true q347
    go_wp2_with (first | ((with_reducible refine gate_callee (f := 113) rfl ?_); refine goesL_ (some 18) rfl rfl Try.func113 (by kernel_rfl) rfl #[.agg #[.int .i64 ((rd_T52 l0_1 x3_1).f0), .int .i64 ((rd_T52 l0_1 x3_1).f1), .int .i64 ((rd_T52 l0_1 x3_1).f2), .int .i64 ((rd_T52 l0_1 x3_1).f3), .int .i64 ((rd_T52 l0_1 x3_1).f4)]] rfl zT9 ?_; (with_reducible refine (spec_InsOk.calls ((rd_T52 l0_1 x3_1).f0) ((rd_T52 l0_1 x3_1).f1) ((rd_T52 l0_1 x3_1).f2) ((rd_T52 l0_1 x3_1).f3) ((rd_T52 l0_1 x3_1).f4) true _ A5.out).mono ?_); rintro e w8 ⟨rfl, hb⟩; refine ⟨_, rfl, ?_⟩; have n0_ := Aside0.mk (zb9 BK346.out hb); have n1_ := Aside0.mk (below_step (zB9_1) hb); clear BK346; clear HB; have BK346 := n0_; have HB := n1_; clear n0_ n1_; (try clear hb); (try clear hb2); (try clear hk); (try clear hi)))
    go_roundg k1
    case measure => have := HK1.out; omega
    case rel => exact ⟨(wrap64 (x3_1 + 1)), (by first | rfl | (simp; done) | (simp [*]; done)), H', ⟨by have := HK1.out; omega⟩, ⟨zK9 BK346.out⟩, ⟨zB9_1⟩⟩
   rw [if_neg c3] at H
   have c3b0 : decide (x3_1 < (l0_1.length : Int)) = false := decide_eq_false c3
   clear c3
   have HC11 := Aside0.mk H
   clear H
   obtain ⟨hcz12_0, hcz12_1, hcz12_2, hfz12_0, hfz12_1, hfz12_2⟩ := zc9_3 (w := wr) BK346.out
   go_upto_region 6 with (fail)
   go_cut [36] (fun v36 wc => ∃ (kq : Nat) (x36_10 : Bool), v36 = .bool x36_10 ∧ Aside0 (spec_PartOk.j1 kq x36_10 a0_0 l0_1 l0_2 = some r) ∧ Aside0 (kq ≤ k1) ∧ Aside0 (wc.heap[gb346]? = some (.cells #[.string a0_0, (.slice A0_1 l0_1.length c0_1), (.slice A0_2 l0_2.length c0_2)] 45 (0, 0))) ∧ Aside0 (Below w.heap.size w wc))
   case first =>
    have H := HC11.out
    clear HC11
    replace H := Option.bind_eq_some_iff.mp H
    obtain ⟨t349, A130, H⟩ := H
    replace H : (if t349 = true then ((spec_l1In.f (l0_1.length : Int) 1 24).bind fun t350 => (if t350 = true then (spec_PartOk.j1 k1 (decide ((l0_2.length : Int) > 24)) a0_0 l0_1 l0_2) else (spec_PartOk.j1 k1 true a0_0 l0_1 l0_2))) else (spec_PartOk.j1 k1 true a0_0 l0_1 l0_2)) = some r := H
    have A13 := Aside0.mk A130
    clear A130
    by_cases c14 : t349 = true
    rotate_left
    ·replace c14 := Bool.eq_false_iff.mpr c14
     subst c14
     have H1 : (spec_PartOk.j1 k1 true a0_0 l0_1 l0_2) = some r := by rw [if_neg (show ¬ (false = true) by decide)] at H; exact H
     clear H
     have H := H1
     clear H1
     have H' := Aside0.mk H
     clear H
     obtain ⟨hcz19_0, hcz19_1, hcz19_2, hfz19_0, hfz19_1, hfz19_2⟩ := zc9_3 (w := wr) BK346.out
     go_wp2_with (first | ((with_reducible refine gate_callee (f := 114) rfl ?_); refine goesL_ (some 22) rfl rfl Try.func114 (by kernel_rfl) rfl #[.string a0_0] rfl zT9 ?_; (with_reducible refine (spec_l27Name.calls k1 a0_0 false _ A13.out).mono ?_); rintro e w' ⟨rfl, ⟨nd, rfl⟩⟩; refine ⟨_, rfl, ?_⟩))
     go_meet
     case rel => exact ⟨_, (true), (by first | rfl | (simp; done) | (simp [*]; done)), H', ⟨by have := HK1.out; first | omega | exact Nat.le_refl _⟩, ⟨zK9 BK346.out⟩, ⟨zB9_1⟩⟩
    subst c14
    have H1 : ((spec_l1In.f (l0_1.length : Int) 1 24).bind fun t350 => (if t350 = true then (spec_PartOk.j1 k1 (decide ((l0_2.length : Int) > 24)) a0_0 l0_1 l0_2) else (spec_PartOk.j1 k1 true a0_0 l0_1 l0_2))) = some r := by rw [if_pos rfl] at H; exact H
    clear H
    have H := H1
    clear H1
    replace H := Option.bind_eq_some_iff.mp H
    obtain ⟨t350, A150, H⟩ := H
    replace H : (if t350 = true then (spec_PartOk.j1 k1 (decide ((l0_2.length : Int) > 24)) a0_0 l0_1 l0_2) else (spec_PartOk.j1 k1 true a0_0 l0_1 l0_2)) = some r := H
    have A15 := Aside0.mk A150
    clear A150
    by_cases c16 : t350 = true
    ·subst c16
     have H1 : (spec_PartOk.j1 k1 (decide ((l0_2.length : Int) > 24)) a0_0 l0_1 l0_2) = some r := by rw [if_pos rfl] at H; exact H
     clear H
     have H := H1
     clear H1
     have H' := Aside0.mk H
     clear H
     obtain ⟨hcz17_0, hcz17_1, hcz17_2, hfz17_0, hfz17_1, hfz17_2⟩ := zc9_3 (w := wr) BK346.out
     go_wp2_with (first | ((with_reducible refine gate_callee (f := 114) rfl ?_); refine goesL_ (some 22) rfl rfl Try.func114 (by kernel_rfl) rfl #[.string a0_0] rfl zT9 ?_; (with_reducible refine (spec_l27Name.calls k1 a0_0 true _ A13.out).mono ?_); rintro e w' ⟨rfl, ⟨nd, rfl⟩⟩; refine ⟨_, rfl, ?_⟩) | (go_at_call 77; (with_reducible refine (spec_l1In.calls (l0_1.length : Int) 1 24 true _ A15.out).mono ?_); rintro e w' ⟨rfl, ⟨nd, rfl⟩⟩))
     go_meet
     case rel => exact ⟨_, (decide ((l0_2.length : Int) > 24)), (by first | rfl | (simp; done) | (simp [*]; done)), H', ⟨by have := HK1.out; first | omega | exact Nat.le_refl _⟩, ⟨zK9 BK346.out⟩, ⟨zB9_1⟩⟩
    replace c16 := Bool.eq_false_iff.mpr c16
    subst c16
    have H1 : (spec_PartOk.j1 k1 true a0_0 l0_1 l0_2) = some r := by rw [if_neg (show ¬ (false = true) by decide)] at H; exact H
    clear H
    have H := H1
    clear H1
    have H' := Aside0.mk H
    clear H
    obtain ⟨hcz18_0, hcz18_1, hcz18_2, hfz18_0, hfz18_1, hfz18_2⟩ := zc9_3 (w := wr) BK346.out
    go_wp2_with (first | ((with_reducible refine gate_callee (f := 114) rfl ?_); refine goesL_ (some 22) rfl rfl Try.func114 (by kernel_rfl) rfl #[.string a0_0] rfl zT9 ?_; (with_reducible refine (spec_l27Name.calls k1 a0_0 true _ A13.out).mono ?_); rintro e w' ⟨rfl, ⟨nd, rfl⟩⟩; refine ⟨_, rfl, ?_⟩) | (go_at_call 77; (with_reducible refine (spec_l1In.calls (l0_1.length : Int) 1 24 false _ A15.out).mono ?_); rintro e w' ⟨rfl, ⟨nd, rfl⟩⟩))
    go_meet
    case rel => exact ⟨_, (true), (by first | rfl | (simp; done) | (simp [*]; done)), H', ⟨by have := HK1.out; first | omega | exact Nat.le_refl _⟩, ⟨zK9 BK346.out⟩, ⟨zB9_1⟩⟩
   case rest =>
    clear HC11
    try clear c1
    try clear p2
    try clear c3
    try clear c3b0
    try clear p3
    try clear q3
    try clear hx3
    try clear c4
    try clear c4b0
    try clear c6
    try clear p6
    try clear c11
    try clear c14
    try clear c16
    try clear hcz12_0
    try clear hcz12_1
    try clear hcz12_2
    try clear hcz17_0
    try clear hcz17_1
    try clear hcz17_2
    try clear hcz18_0
    try clear hcz18_1
    try clear hcz18_2
    try clear hcz19_0
    try clear hcz19_1
    try clear hcz19_2
    try clear hcz7_0
    try clear hcz7_1
    try clear hcz7_2
    try clear hcz9_0
    try clear hcz9_1
    try clear hcz9_2
    try clear hfz12_0
    try clear hfz12_1
    try clear hfz12_2
    try clear hfz17_0
    try clear hfz17_1
    try clear hfz17_2
    try clear hfz18_0
    try clear hfz18_1
    try clear hfz18_2
    try clear hfz19_0
    try clear hfz19_1
    try clear hfz19_2
    try clear hfz7_0
    try clear hfz7_1
    try clear hfz7_2
    try clear hfz9_0
    try clear hfz9_1
    try clear hfz9_2
    try clear hx347_0
    try clear hx347_1
    try clear hx347_2
    try clear hx347_3
    try clear hx347_4
    try clear p2
    try clear p347
    try clear q347
    obtain ⟨kq, x36_10, rfl, HA, HJ10, BK346, HB⟩ := hcut
    cases kq with
    | zero => exact absurd HA.out (by simp [spec_PartOk.j1])
    | succ kj10 =>
     have H := HA.out
     clear HA
     simp only [spec_PartOk.j1] at H
     by_cases c20 : x36_10 = true
     ·subst c20
      have H1 : (some false) = some r := by rw [if_pos rfl] at H; exact H
      clear H
      have H := H1
      clear H1
      obtain rfl := Option.some.inj H
      go_wp2
      go_ret
      exact ⟨zE9, zB9_1⟩
     replace c20 := Bool.eq_false_iff.mpr c20
     subst c20
     have H1 : (spec_PartOk.l1 kj10 0 a0_0 l0_1 l0_2) = some r := by rw [if_neg (show ¬ (false = true) by decide)] at H; exact H
     clear H
     have H := H1
     clear H1
     have H' := Aside0.mk H
     clear H
     go_wp2
     go_loopg [4] kj10 (fun kq v4 w' => ∃ (x4_3 : Int), v4 = .int .i64 x4_3 ∧ Aside0 (spec_PartOk.l1 kq x4_3 a0_0 l0_1 l0_2 = some r) ∧ Aside0 (kq ≤ kj10) ∧ Aside0 (w'.heap[gb346]? = some (.cells #[.string a0_0, (.slice A0_1 l0_1.length c0_1), (.slice A0_2 l0_2.length c0_2)] 45 (0, 0))) ∧ Aside0 (Below w.heap.size w w'))
     case atStart => exact ⟨(0), (by first | rfl | (simp; done) | (simp [*]; done)), H', ⟨Nat.le_refl _⟩, ⟨zK9 BK346.out⟩, ⟨zB9_1⟩⟩
     case round =>
      clear H'
      try clear c1
      try clear c2
      try clear p2
      try clear c3
      try clear c3b0
      try clear p3
      try clear q3
      try clear hx3
      try clear c4
      try clear c4b0
      try clear c6
      try clear p6
      try clear c11
      try clear c14
      try clear c16
      try clear c20
      try clear hcz12_0
      try clear hcz12_1
      try clear hcz12_2
      try clear hcz17_0
      try clear hcz17_1
      try clear hcz17_2
      try clear hcz18_0
      try clear hcz18_1
      try clear hcz18_2
      try clear hcz19_0
      try clear hcz19_1
      try clear hcz19_2
      try clear hcz7_0
      try clear hcz7_1
      try clear hcz7_2
      try clear hcz9_0
      try clear hcz9_1
      try clear hcz9_2
      try clear hfz12_0
      try clear hfz12_1
      try clear hfz12_2
      try clear hfz17_0
      try clear hfz17_1
      try clear hfz17_2
      try clear hfz18_0
      try clear hfz18_1
      try clear hfz18_2
      try clear hfz19_0
      try clear hfz19_1
      try clear hfz19_2
      try clear hfz7_0
      try clear hfz7_1
      try clear hfz7_2
      try clear hfz9_0
      try clear hfz9_1
      try clear hfz9_2
      try clear hx347_0
      try clear hx347_1
      try clear hx347_2
      try clear hx347_3
      try clear hx347_4
      try clear p2
      try clear p3
      try clear p347
      try clear p6
      try clear q3
      try clear q347
      obtain ⟨x4_3, rfl, HA, HK3, BK346, HB⟩ := hrel
      cases gk with
      | zero => exact absurd HA.out (by simp [spec_PartOk.l1])
      | succ k3 =>
       have H := HA.out
       clear HA
       simp only [spec_PartOk.l1] at H
       by_cases c21 : x4_3 < (l0_2.length : Int)
       rotate_left
       ·rw [if_neg c21] at H
        have c21b0 : decide (x4_3 < (l0_2.length : Int)) = false := decide_eq_false c21
        clear c21
        obtain rfl := Option.some.inj H
        obtain ⟨hcz69_0, hcz69_1, hcz69_2, hfz69_0, hfz69_1, hfz69_2⟩ := zc9_3 (w := wr) BK346.out
        go_wp2
        go_ret
        exact ⟨zE9, zB9_1⟩
       rw [if_pos c21] at H
       have c21b0 : decide (x4_3 < (l0_2.length : Int)) = true := decide_eq_true c21
       clear c21
       by_cases c22 : 0 ≤ x4_3
       rotate_left
       ·rw [if_neg c22] at H
        exact absurd H (by simp)
       rw [if_pos c22] at H
       have c22b0 : decide (0 ≤ x4_3) = true := decide_eq_true c22
       clear c22
       replace H := Option.bind_eq_some_iff.mp H
       obtain ⟨t353, A230, H⟩ := H
       replace H : (if t353 = true then (if 0 ≤ ((rd_T56 l0_2 x4_3).f0) then (if ((rd_T56 l0_2 x4_3).f0) < (l0_1.length : Int) then ((spec_l27Goes.f ((rd_T52 l0_1 ((rd_T56 l0_2 x4_3).f0)).f0) ((rd_T52 l0_1 ((rd_T56 l0_2 x4_3).f0)).f1) ((rd_T52 l0_1 ((rd_T56 l0_2 x4_3).f0)).f2) ((rd_T52 l0_1 ((rd_T56 l0_2 x4_3).f0)).f3) ((rd_T52 l0_1 ((rd_T56 l0_2 x4_3).f0)).f4)).bind fun t355 => (if t355 = true then ((spec_l27Name.f k3 ((rd_T56 l0_2 x4_3).f1)).bind fun t356 => (if t356 = true then ((spec_l27Ref.f k3 a0_0 l0_1 l0_2 ((rd_T56 l0_2 x4_3).f0)).bind fun t357 => (if t357 = x4_3 then (spec_PartOk.l1 k3 (wrap64 (x4_3 + 1)) a0_0 l0_1 l0_2) else (some false))) else (some false))) else (some false))) else (none)) else (none)) else (some false)) = some r := H
       have A23 := Aside0.mk A230
       clear A230
       by_cases c24 : t353 = true
       rotate_left
       ·replace c24 := Bool.eq_false_iff.mpr c24
        subst c24
        have H1 : (some false) = some r := by rw [if_neg (show ¬ (false = true) by decide)] at H; exact H
        clear H
        have H := H1
        clear H1
        obtain rfl := Option.some.inj H
        obtain ⟨hcz64_0, hcz64_1, hcz64_2, hfz64_0, hfz64_1, hfz64_2⟩ := zc9_3 (w := wr) BK346.out
        have p351 : 0 ≤ (x4_3 : Int) := zA9
        have q351 : x4_3 < (l0_2.length : Int) := zA9
        obtain ⟨ad351, e351, hx351_0, hx351_1⟩ := at_T56 HR0_2.out x4_3 p351 q351
        cases e351
        replace hx351_0 := (HB.out.cell (World.block_lt_of_cell? w _ hx351_0)).trans hx351_0
        replace hx351_1 := (HB.out.cell (World.block_lt_of_cell? w _ hx351_1)).trans hx351_1
        replace p351 := eq_true p351
        replace q351 := eq_true q351
        go_wp2_with (first | ((with_reducible refine gate_dst (N := 5) rfl ?_); (try (refine gate_guard (by rfl) ?_; dsimp only)); refine box_event ?hg (N := 5) ?hd (cs := #[.int .i64 0, .string (⟨#[]⟩ : ByteArray)]) (t := 56) ?hr ?_; (case hd => rfl); (case hg => rfl); (case hr => first | (go_simp; done) | (go_simp; rfl)); intro gb352 hg w65 hbox hb; have n0_ := Aside0.mk (zb9 BK346.out hb); have n1_ := Aside0.mk (below_step (zB9_1) hb); have n2_ := Aside0.mk (hbox); have n3_ := Aside0.mk ((by rw [hg]; exact (below_size (zB9_1)) : w.heap.size ≤ gb352)); have n4_ := Aside0.mk ((by rw [hg]; exact (below_size (zB9_1)) : w.heap.size ≤ gb352)); have n5_ := Aside0.mk ((zn9 BK346.out hg : gb346 ≠ gb352)); have n6_ := Aside0.mk ((zm9 BK346.out hg : gb352 ≠ gb346)); clear BK346; clear HB; have BK346 := n0_; have HB := n1_; have BK352 := n2_; have GW352 := n3_; have GE352 := n4_; have NB346_352 := n5_; have NB352_346 := n6_; clear n0_ n1_ n2_ n3_ n4_ n5_ n6_; clear hb hbox hg; have hnb66 := NB352_346.out; have hnc66 := NB346_352.out; obtain ⟨hcz67_0, hcz67_1, hfz67_0, hfz67_1⟩ := zc9_2 (w := w65) BK352.out; obtain ⟨hcz68_0, hcz68_1, hcz68_2, hfz68_0, hfz68_1, hfz68_2⟩ := zc9_3 (w := w65) BK346.out) | ((with_reducible refine gate_callee (f := 77) rfl ?_); refine goesL_ (some 55) rfl rfl Try.func77 (by kernel_rfl) rfl #[.int .i64 ((rd_T56 l0_2 x4_3).f0), .int .i64 0, .int .i64 (wrap64 ((l0_1.length : Int) - 1))] rfl zT9 ?_; (with_reducible refine (spec_l1In.calls ((rd_T56 l0_2 x4_3).f0) 0 (wrap64 ((l0_1.length : Int) - 1)) false _ A23.out).mono ?_); rintro e w' ⟨rfl, ⟨nd, rfl⟩⟩; refine ⟨_, rfl, ?_⟩))
        go_ret
        exact ⟨zE9, zB9_2⟩
       subst c24
       have H1 : (if 0 ≤ ((rd_T56 l0_2 x4_3).f0) then (if ((rd_T56 l0_2 x4_3).f0) < (l0_1.length : Int) then ((spec_l27Goes.f ((rd_T52 l0_1 ((rd_T56 l0_2 x4_3).f0)).f0) ((rd_T52 l0_1 ((rd_T56 l0_2 x4_3).f0)).f1) ((rd_T52 l0_1 ((rd_T56 l0_2 x4_3).f0)).f2) ((rd_T52 l0_1 ((rd_T56 l0_2 x4_3).f0)).f3) ((rd_T52 l0_1 ((rd_T56 l0_2 x4_3).f0)).f4)).bind fun t355 => (if t355 = true then ((spec_l27Name.f k3 ((rd_T56 l0_2 x4_3).f1)).bind fun t356 => (if t356 = true then ((spec_l27Ref.f k3 a0_0 l0_1 l0_2 ((rd_T56 l0_2 x4_3).f0)).bind fun t357 => (if t357 = x4_3 then (spec_PartOk.l1 k3 (wrap64 (x4_3 + 1)) a0_0 l0_1 l0_2) else (some false))) else (some false))) else (some false))) else (none)) else (none)) = some r := by rw [if_pos rfl] at H; exact H
       clear H
       have H := H1
       clear H1
       by_cases c25 : 0 ≤ ((rd_T56 l0_2 x4_3).f0)
       rotate_left
       ·rw [if_neg c25] at H
        exact absurd H (by simp)
       rw [if_pos c25] at H
       have c25b0 : decide (0 ≤ ((rd_T56 l0_2 x4_3).f0)) = true := decide_eq_true c25
       clear c25
       by_cases c26 : ((rd_T56 l0_2 x4_3).f0) < (l0_1.length : Int)
       rotate_left
       ·rw [if_neg c26] at H
        exact absurd H (by simp)
       rw [if_pos c26] at H
       have c26b0 : decide (((rd_T56 l0_2 x4_3).f0) < (l0_1.length : Int)) = true := decide_eq_true c26
       clear c26
       replace H := Option.bind_eq_some_iff.mp H
       obtain ⟨t355, A270, H⟩ := H
       replace H : (if t355 = true then ((spec_l27Name.f k3 ((rd_T56 l0_2 x4_3).f1)).bind fun t356 => (if t356 = true then ((spec_l27Ref.f k3 a0_0 l0_1 l0_2 ((rd_T56 l0_2 x4_3).f0)).bind fun t357 => (if t357 = x4_3 then (spec_PartOk.l1 k3 (wrap64 (x4_3 + 1)) a0_0 l0_1 l0_2) else (some false))) else (some false))) else (some false)) = some r := H
       have A27 := Aside0.mk A270
       clear A270
       by_cases c28 : t355 = true
       rotate_left
       ·replace c28 := Bool.eq_false_iff.mpr c28
        subst c28
        have H1 : (some false) = some r := by rw [if_neg (show ¬ (false = true) by decide)] at H; exact H
        clear H
        have H := H1
        clear H1
        obtain rfl := Option.some.inj H
        obtain ⟨hcz58_0, hcz58_1, hcz58_2, hfz58_0, hfz58_1, hfz58_2⟩ := zc9_3 (w := wr) BK346.out
        have p351 : 0 ≤ (x4_3 : Int) := zA9
        have q351 : x4_3 < (l0_2.length : Int) := zA9
        obtain ⟨ad351, e351, hx351_0, hx351_1⟩ := at_T56 HR0_2.out x4_3 p351 q351
        cases e351
        replace hx351_0 := (HB.out.cell (World.block_lt_of_cell? w _ hx351_0)).trans hx351_0
        replace hx351_1 := (HB.out.cell (World.block_lt_of_cell? w _ hx351_1)).trans hx351_1
        replace p351 := eq_true p351
        replace q351 := eq_true q351
        go_wp2_with (first | ((with_reducible refine gate_dst (N := 5) rfl ?_); (try (refine gate_guard (by rfl) ?_; dsimp only)); refine box_event ?hg (N := 5) ?hd (cs := #[.int .i64 0, .string (⟨#[]⟩ : ByteArray)]) (t := 56) ?hr ?_; (case hd => rfl); (case hg => rfl); (case hr => first | (go_simp; done) | (go_simp; rfl)); intro gb352 hg w59 hbox hb; have n0_ := Aside0.mk (zb9 BK346.out hb); have n1_ := Aside0.mk (below_step (zB9_1) hb); have n2_ := Aside0.mk (hbox); have n3_ := Aside0.mk ((by rw [hg]; exact (below_size (zB9_1)) : w.heap.size ≤ gb352)); have n4_ := Aside0.mk ((by rw [hg]; exact (below_size (zB9_1)) : w.heap.size ≤ gb352)); have n5_ := Aside0.mk ((zn9 BK346.out hg : gb346 ≠ gb352)); have n6_ := Aside0.mk ((zm9 BK346.out hg : gb352 ≠ gb346)); clear BK346; clear HB; have BK346 := n0_; have HB := n1_; have BK352 := n2_; have GW352 := n3_; have GE352 := n4_; have NB346_352 := n5_; have NB352_346 := n6_; clear n0_ n1_ n2_ n3_ n4_ n5_ n6_; clear hb hbox hg; have hnb60 := NB352_346.out; have hnc60 := NB346_352.out; obtain ⟨hcz61_0, hcz61_1, hfz61_0, hfz61_1⟩ := zc9_2 (w := w59) BK352.out; obtain ⟨hcz62_0, hcz62_1, hcz62_2, hfz62_0, hfz62_1, hfz62_2⟩ := zc9_3 (w := w59) BK346.out) | ((with_reducible refine gate_callee (f := 77) rfl ?_); refine goesL_ (some 55) rfl rfl Try.func77 (by kernel_rfl) rfl #[.int .i64 ((rd_T56 l0_2 x4_3).f0), .int .i64 0, .int .i64 (wrap64 ((l0_1.length : Int) - 1))] rfl zT9 ?_; (with_reducible refine (spec_l1In.calls ((rd_T56 l0_2 x4_3).f0) 0 (wrap64 ((l0_1.length : Int) - 1)) true _ A23.out).mono ?_); rintro e w' ⟨rfl, ⟨nd, rfl⟩⟩; refine ⟨_, rfl, ?_⟩; have p354 : 0 ≤ (((rd_T56 l0_2 x4_3).f0) : Int) := zA9; have q354 : ((rd_T56 l0_2 x4_3).f0) < (l0_1.length : Int) := zA9; obtain ⟨ad354, e354, hx354_0, hx354_1, hx354_2, hx354_3, hx354_4⟩ := at_T52 HR0_1.out ((rd_T56 l0_2 x4_3).f0) p354 q354; cases e354; have hn354_0 : ad354.block ≠ gb352 := Nat.ne_of_lt (Nat.lt_of_lt_of_le (by have := World.block_lt_of_cell? _ _ hx354_0; first | rwa [add_block] at this | exact this) GW352.out); have hn354_1 : ad354.block ≠ gb352 := Nat.ne_of_lt (Nat.lt_of_lt_of_le (by have := World.block_lt_of_cell? _ _ hx354_0; first | rwa [add_block] at this | exact this) GW352.out); replace hx354_0 := (HB.out.cell (World.block_lt_of_cell? w _ hx354_0)).trans hx354_0; replace hx354_1 := (HB.out.cell (World.block_lt_of_cell? w _ hx354_1)).trans hx354_1; replace hx354_2 := (HB.out.cell (World.block_lt_of_cell? w _ hx354_2)).trans hx354_2; replace hx354_3 := (HB.out.cell (World.block_lt_of_cell? w _ hx354_3)).trans hx354_3; replace hx354_4 := (HB.out.cell (World.block_lt_of_cell? w _ hx354_4)).trans hx354_4; replace hx354_0 := (cell_far (p := ⟨gb352, 0, none⟩) (by first | (rw [add_block]; exact hn354_0) | (show (Addr.add _ _).block ≠ _; rw [add_block]; exact hn354_0) | exact hn354_0) (.int .i64 ((rd_T56 l0_2 x4_3).f0))).trans hx354_0; replace hx354_1 := (cell_far (p := ⟨gb352, 0, none⟩) (by first | (rw [add_block]; exact hn354_0) | (show (Addr.add _ _).block ≠ _; rw [add_block]; exact hn354_0) | exact hn354_0) (.int .i64 ((rd_T56 l0_2 x4_3).f0))).trans hx354_1; replace hx354_2 := (cell_far (p := ⟨gb352, 0, none⟩) (by first | (rw [add_block]; exact hn354_0) | (show (Addr.add _ _).block ≠ _; rw [add_block]; exact hn354_0) | exact hn354_0) (.int .i64 ((rd_T56 l0_2 x4_3).f0))).trans hx354_2; replace hx354_3 := (cell_far (p := ⟨gb352, 0, none⟩) (by first | (rw [add_block]; exact hn354_0) | (show (Addr.add _ _).block ≠ _; rw [add_block]; exact hn354_0) | exact hn354_0) (.int .i64 ((rd_T56 l0_2 x4_3).f0))).trans hx354_3; replace hx354_4 := (cell_far (p := ⟨gb352, 0, none⟩) (by first | (rw [add_block]; exact hn354_0) | (show (Addr.add _ _).block ≠ _; rw [add_block]; exact hn354_0) | exact hn354_0) (.int .i64 ((rd_T56 l0_2 x4_3).f0))).trans hx354_4; replace hx354_0 := (cell_far (p := ⟨gb352, 1, none⟩) (by first | (rw [add_block]; exact hn354_1) | (show (Addr.add _ _).block ≠ _; rw [add_block]; exact hn354_1) | exact hn354_1) (.string ((rd_T56 l0_2 x4_3).f1))).trans hx354_0; replace hx354_1 := (cell_far (p := ⟨gb352, 1, none⟩) (by first | (rw [add_block]; exact hn354_1) | (show (Addr.add _ _).block ≠ _; rw [add_block]; exact hn354_1) | exact hn354_1) (.string ((rd_T56 l0_2 x4_3).f1))).trans hx354_1; replace hx354_2 := (cell_far (p := ⟨gb352, 1, none⟩) (by first | (rw [add_block]; exact hn354_1) | (show (Addr.add _ _).block ≠ _; rw [add_block]; exact hn354_1) | exact hn354_1) (.string ((rd_T56 l0_2 x4_3).f1))).trans hx354_2; replace hx354_3 := (cell_far (p := ⟨gb352, 1, none⟩) (by first | (rw [add_block]; exact hn354_1) | (show (Addr.add _ _).block ≠ _; rw [add_block]; exact hn354_1) | exact hn354_1) (.string ((rd_T56 l0_2 x4_3).f1))).trans hx354_3; replace hx354_4 := (cell_far (p := ⟨gb352, 1, none⟩) (by first | (rw [add_block]; exact hn354_1) | (show (Addr.add _ _).block ≠ _; rw [add_block]; exact hn354_1) | exact hn354_1) (.string ((rd_T56 l0_2 x4_3).f1))).trans hx354_4; clear hn354_0; clear hn354_1; replace p354 := eq_true p354; replace q354 := eq_true q354) | (go_at_call 115; (with_reducible refine (spec_l27Goes.calls ((rd_T52 l0_1 ((rd_T56 l0_2 x4_3).f0)).f0) ((rd_T52 l0_1 ((rd_T56 l0_2 x4_3).f0)).f1) ((rd_T52 l0_1 ((rd_T56 l0_2 x4_3).f0)).f2) ((rd_T52 l0_1 ((rd_T56 l0_2 x4_3).f0)).f3) ((rd_T52 l0_1 ((rd_T56 l0_2 x4_3).f0)).f4) false _ A27.out).mono ?_); rintro e w63 ⟨rfl, hb⟩; have n0_ := Aside0.mk (blk_below (g := gb346) (o := .cells #[.string a0_0, .slice (some ad354) l0_1.length c0_1, .slice (some ad351) l0_2.length c0_2] 45 (0, 0)) (by refine zP9 ?_; refine blk_far ?_ NB346_352.out _; refine zP9 ?_; refine blk_far ?_ NB346_352.out _; refine zP9 ?_; exact BK346.out) hb); have n1_ := Aside0.mk (blk_below (g := gb352) (o := .cells #[.int .i64 ((rd_T56 l0_2 x4_3).f0), .string ((rd_T56 l0_2 x4_3).f1)] 56 (0, 0)) (by refine zP9 ?_; refine blk_put (cs := #[.int .i64 ((rd_T56 l0_2 x4_3).f0), .string (⟨#[]⟩ : ByteArray)]) ?_ 1 _ rfl; refine zP9 ?_; refine blk_put (cs := #[.int .i64 0, .string (⟨#[]⟩ : ByteArray)]) ?_ 0 _ rfl; refine zP9 ?_; exact BK352.out) hb); have n2_ := Aside0.mk (below_step (zB9_2) hb); clear BK346; clear BK352; clear HB; have BK346 := n0_; have BK352 := n1_; have HB := n2_; clear n0_ n1_ n2_; (try clear hb); (try clear hb2); (try clear hk); (try clear hi)))
        go_ret
        exact ⟨zE9, zB9_2⟩
       subst c28
       have H1 : ((spec_l27Name.f k3 ((rd_T56 l0_2 x4_3).f1)).bind fun t356 => (if t356 = true then ((spec_l27Ref.f k3 a0_0 l0_1 l0_2 ((rd_T56 l0_2 x4_3).f0)).bind fun t357 => (if t357 = x4_3 then (spec_PartOk.l1 k3 (wrap64 (x4_3 + 1)) a0_0 l0_1 l0_2) else (some false))) else (some false))) = some r := by rw [if_pos rfl] at H; exact H
       clear H
       have H := H1
       clear H1
       replace H := Option.bind_eq_some_iff.mp H
       obtain ⟨t356, A290, H⟩ := H
       replace H : (if t356 = true then ((spec_l27Ref.f k3 a0_0 l0_1 l0_2 ((rd_T56 l0_2 x4_3).f0)).bind fun t357 => (if t357 = x4_3 then (spec_PartOk.l1 k3 (wrap64 (x4_3 + 1)) a0_0 l0_1 l0_2) else (some false))) else (some false)) = some r := H
       have A29 := Aside0.mk A290
       clear A290
       by_cases c30 : t356 = true
       rotate_left
       ·replace c30 := Bool.eq_false_iff.mpr c30
        subst c30
        have H1 : (some false) = some r := by rw [if_neg (show ¬ (false = true) by decide)] at H; exact H
        clear H
        have H := H1
        clear H1
        obtain rfl := Option.some.inj H
        obtain ⟨hcz51_0, hcz51_1, hcz51_2, hfz51_0, hfz51_1, hfz51_2⟩ := zc9_3 (w := wr) BK346.out
        have p351 : 0 ≤ (x4_3 : Int) := zA9
        have q351 : x4_3 < (l0_2.length : Int) := zA9
        obtain ⟨ad351, e351, hx351_0, hx351_1⟩ := at_T56 HR0_2.out x4_3 p351 q351
        cases e351
        replace hx351_0 := (HB.out.cell (World.block_lt_of_cell? w _ hx351_0)).trans hx351_0
        replace hx351_1 := (HB.out.cell (World.block_lt_of_cell? w _ hx351_1)).trans hx351_1
        replace p351 := eq_true p351
        replace q351 := eq_true q351
        go_wp2_with (first | ((with_reducible refine gate_dst (N := 5) rfl ?_); (try (refine gate_guard (by rfl) ?_; dsimp only)); refine box_event ?hg (N := 5) ?hd (cs := #[.int .i64 0, .string (⟨#[]⟩ : ByteArray)]) (t := 56) ?hr ?_; (case hd => rfl); (case hg => rfl); (case hr => first | (go_simp; done) | (go_simp; rfl)); intro gb352 hg w52 hbox hb; have n0_ := Aside0.mk (zb9 BK346.out hb); have n1_ := Aside0.mk (below_step (zB9_1) hb); have n2_ := Aside0.mk (hbox); have n3_ := Aside0.mk ((by rw [hg]; exact (below_size (zB9_1)) : w.heap.size ≤ gb352)); have n4_ := Aside0.mk ((by rw [hg]; exact (below_size (zB9_1)) : w.heap.size ≤ gb352)); have n5_ := Aside0.mk ((zn9 BK346.out hg : gb346 ≠ gb352)); have n6_ := Aside0.mk ((zm9 BK346.out hg : gb352 ≠ gb346)); clear BK346; clear HB; have BK346 := n0_; have HB := n1_; have BK352 := n2_; have GW352 := n3_; have GE352 := n4_; have NB346_352 := n5_; have NB352_346 := n6_; clear n0_ n1_ n2_ n3_ n4_ n5_ n6_; clear hb hbox hg; have hnb53 := NB352_346.out; have hnc53 := NB346_352.out; obtain ⟨hcz54_0, hcz54_1, hfz54_0, hfz54_1⟩ := zc9_2 (w := w52) BK352.out; obtain ⟨hcz55_0, hcz55_1, hcz55_2, hfz55_0, hfz55_1, hfz55_2⟩ := zc9_3 (w := w52) BK346.out) | ((with_reducible refine gate_callee (f := 77) rfl ?_); refine goesL_ (some 55) rfl rfl Try.func77 (by kernel_rfl) rfl #[.int .i64 ((rd_T56 l0_2 x4_3).f0), .int .i64 0, .int .i64 (wrap64 ((l0_1.length : Int) - 1))] rfl zT9 ?_; (with_reducible refine (spec_l1In.calls ((rd_T56 l0_2 x4_3).f0) 0 (wrap64 ((l0_1.length : Int) - 1)) true _ A23.out).mono ?_); rintro e w' ⟨rfl, ⟨nd, rfl⟩⟩; refine ⟨_, rfl, ?_⟩; have p354 : 0 ≤ (((rd_T56 l0_2 x4_3).f0) : Int) := zA9; have q354 : ((rd_T56 l0_2 x4_3).f0) < (l0_1.length : Int) := zA9; obtain ⟨ad354, e354, hx354_0, hx354_1, hx354_2, hx354_3, hx354_4⟩ := at_T52 HR0_1.out ((rd_T56 l0_2 x4_3).f0) p354 q354; cases e354; have hn354_0 : ad354.block ≠ gb352 := Nat.ne_of_lt (Nat.lt_of_lt_of_le (by have := World.block_lt_of_cell? _ _ hx354_0; first | rwa [add_block] at this | exact this) GW352.out); have hn354_1 : ad354.block ≠ gb352 := Nat.ne_of_lt (Nat.lt_of_lt_of_le (by have := World.block_lt_of_cell? _ _ hx354_0; first | rwa [add_block] at this | exact this) GW352.out); replace hx354_0 := (HB.out.cell (World.block_lt_of_cell? w _ hx354_0)).trans hx354_0; replace hx354_1 := (HB.out.cell (World.block_lt_of_cell? w _ hx354_1)).trans hx354_1; replace hx354_2 := (HB.out.cell (World.block_lt_of_cell? w _ hx354_2)).trans hx354_2; replace hx354_3 := (HB.out.cell (World.block_lt_of_cell? w _ hx354_3)).trans hx354_3; replace hx354_4 := (HB.out.cell (World.block_lt_of_cell? w _ hx354_4)).trans hx354_4; replace hx354_0 := (cell_far (p := ⟨gb352, 0, none⟩) (by first | (rw [add_block]; exact hn354_0) | (show (Addr.add _ _).block ≠ _; rw [add_block]; exact hn354_0) | exact hn354_0) (.int .i64 ((rd_T56 l0_2 x4_3).f0))).trans hx354_0; replace hx354_1 := (cell_far (p := ⟨gb352, 0, none⟩) (by first | (rw [add_block]; exact hn354_0) | (show (Addr.add _ _).block ≠ _; rw [add_block]; exact hn354_0) | exact hn354_0) (.int .i64 ((rd_T56 l0_2 x4_3).f0))).trans hx354_1; replace hx354_2 := (cell_far (p := ⟨gb352, 0, none⟩) (by first | (rw [add_block]; exact hn354_0) | (show (Addr.add _ _).block ≠ _; rw [add_block]; exact hn354_0) | exact hn354_0) (.int .i64 ((rd_T56 l0_2 x4_3).f0))).trans hx354_2; replace hx354_3 := (cell_far (p := ⟨gb352, 0, none⟩) (by first | (rw [add_block]; exact hn354_0) | (show (Addr.add _ _).block ≠ _; rw [add_block]; exact hn354_0) | exact hn354_0) (.int .i64 ((rd_T56 l0_2 x4_3).f0))).trans hx354_3; replace hx354_4 := (cell_far (p := ⟨gb352, 0, none⟩) (by first | (rw [add_block]; exact hn354_0) | (show (Addr.add _ _).block ≠ _; rw [add_block]; exact hn354_0) | exact hn354_0) (.int .i64 ((rd_T56 l0_2 x4_3).f0))).trans hx354_4; replace hx354_0 := (cell_far (p := ⟨gb352, 1, none⟩) (by first | (rw [add_block]; exact hn354_1) | (show (Addr.add _ _).block ≠ _; rw [add_block]; exact hn354_1) | exact hn354_1) (.string ((rd_T56 l0_2 x4_3).f1))).trans hx354_0; replace hx354_1 := (cell_far (p := ⟨gb352, 1, none⟩) (by first | (rw [add_block]; exact hn354_1) | (show (Addr.add _ _).block ≠ _; rw [add_block]; exact hn354_1) | exact hn354_1) (.string ((rd_T56 l0_2 x4_3).f1))).trans hx354_1; replace hx354_2 := (cell_far (p := ⟨gb352, 1, none⟩) (by first | (rw [add_block]; exact hn354_1) | (show (Addr.add _ _).block ≠ _; rw [add_block]; exact hn354_1) | exact hn354_1) (.string ((rd_T56 l0_2 x4_3).f1))).trans hx354_2; replace hx354_3 := (cell_far (p := ⟨gb352, 1, none⟩) (by first | (rw [add_block]; exact hn354_1) | (show (Addr.add _ _).block ≠ _; rw [add_block]; exact hn354_1) | exact hn354_1) (.string ((rd_T56 l0_2 x4_3).f1))).trans hx354_3; replace hx354_4 := (cell_far (p := ⟨gb352, 1, none⟩) (by first | (rw [add_block]; exact hn354_1) | (show (Addr.add _ _).block ≠ _; rw [add_block]; exact hn354_1) | exact hn354_1) (.string ((rd_T56 l0_2 x4_3).f1))).trans hx354_4; clear hn354_0; clear hn354_1; replace p354 := eq_true p354; replace q354 := eq_true q354) | (go_at_call 115; (with_reducible refine (spec_l27Goes.calls ((rd_T52 l0_1 ((rd_T56 l0_2 x4_3).f0)).f0) ((rd_T52 l0_1 ((rd_T56 l0_2 x4_3).f0)).f1) ((rd_T52 l0_1 ((rd_T56 l0_2 x4_3).f0)).f2) ((rd_T52 l0_1 ((rd_T56 l0_2 x4_3).f0)).f3) ((rd_T52 l0_1 ((rd_T56 l0_2 x4_3).f0)).f4) true _ A27.out).mono ?_); rintro e w56 ⟨rfl, hb⟩; have n0_ := Aside0.mk (blk_below (g := gb346) (o := .cells #[.string a0_0, .slice (some ad354) l0_1.length c0_1, .slice (some ad351) l0_2.length c0_2] 45 (0, 0)) (by refine zP9 ?_; refine blk_far ?_ NB346_352.out _; refine zP9 ?_; refine blk_far ?_ NB346_352.out _; refine zP9 ?_; exact BK346.out) hb); have n1_ := Aside0.mk (blk_below (g := gb352) (o := .cells #[.int .i64 ((rd_T56 l0_2 x4_3).f0), .string ((rd_T56 l0_2 x4_3).f1)] 56 (0, 0)) (by refine zP9 ?_; refine blk_put (cs := #[.int .i64 ((rd_T56 l0_2 x4_3).f0), .string (⟨#[]⟩ : ByteArray)]) ?_ 1 _ rfl; refine zP9 ?_; refine blk_put (cs := #[.int .i64 0, .string (⟨#[]⟩ : ByteArray)]) ?_ 0 _ rfl; refine zP9 ?_; exact BK352.out) hb); have n2_ := Aside0.mk (below_step (zB9_2) hb); clear BK346; clear BK352; clear HB; have BK346 := n0_; have BK352 := n1_; have HB := n2_; clear n0_ n1_ n2_; (try clear hb); (try clear hb2); (try clear hk); (try clear hi); obtain ⟨hcz57_0, hcz57_1, hfz57_0, hfz57_1⟩ := zc9_2 (w := w56) BK352.out) | (go_at_call 114; (with_reducible refine (spec_l27Name.calls k3 ((rd_T56 l0_2 x4_3).f1) false _ A29.out).mono ?_); rintro e w' ⟨rfl, ⟨nd, rfl⟩⟩))
        go_ret
        exact ⟨zE9, zB9_2⟩
       subst c30
       have H1 : ((spec_l27Ref.f k3 a0_0 l0_1 l0_2 ((rd_T56 l0_2 x4_3).f0)).bind fun t357 => (if t357 = x4_3 then (spec_PartOk.l1 k3 (wrap64 (x4_3 + 1)) a0_0 l0_1 l0_2) else (some false))) = some r := by rw [if_pos rfl] at H; exact H
       clear H
       have H := H1
       clear H1
       replace H := Option.bind_eq_some_iff.mp H
       obtain ⟨t357, A310, H⟩ := H
       replace H : (if t357 = x4_3 then (spec_PartOk.l1 k3 (wrap64 (x4_3 + 1)) a0_0 l0_1 l0_2) else (some false)) = some r := H
       have A31 := Aside0.mk A310
       clear A310
       by_cases c32 : t357 = x4_3
       rotate_left
       ·rw [if_neg c32] at H
        have c32b0 : (t357 == x4_3) = false := beq_eq_false_iff_ne.mpr c32
        have c32b1 : (t357 != x4_3) = true := bne_iff_ne.mpr c32
        obtain rfl := Option.some.inj H
        obtain ⟨hcz42_0, hcz42_1, hcz42_2, hfz42_0, hfz42_1, hfz42_2⟩ := zc9_3 (w := wr) BK346.out
        have p351 : 0 ≤ (x4_3 : Int) := zA9
        have q351 : x4_3 < (l0_2.length : Int) := zA9
        obtain ⟨ad351, e351, hx351_0, hx351_1⟩ := at_T56 HR0_2.out x4_3 p351 q351
        cases e351
        replace hx351_0 := (HB.out.cell (World.block_lt_of_cell? w _ hx351_0)).trans hx351_0
        replace hx351_1 := (HB.out.cell (World.block_lt_of_cell? w _ hx351_1)).trans hx351_1
        replace p351 := eq_true p351
        replace q351 := eq_true q351
        go_wp2_with (first | ((with_reducible refine gate_dst (N := 5) rfl ?_); (try (refine gate_guard (by rfl) ?_; dsimp only)); refine box_event ?hg (N := 5) ?hd (cs := #[.int .i64 0, .string (⟨#[]⟩ : ByteArray)]) (t := 56) ?hr ?_; (case hd => rfl); (case hg => rfl); (case hr => first | (go_simp; done) | (go_simp; rfl)); intro gb352 hg w43 hbox hb; have n0_ := Aside0.mk (zb9 BK346.out hb); have n1_ := Aside0.mk (below_step (zB9_1) hb); have n2_ := Aside0.mk (hbox); have n3_ := Aside0.mk ((by rw [hg]; exact (below_size (zB9_1)) : w.heap.size ≤ gb352)); have n4_ := Aside0.mk ((by rw [hg]; exact (below_size (zB9_1)) : w.heap.size ≤ gb352)); have n5_ := Aside0.mk ((zn9 BK346.out hg : gb346 ≠ gb352)); have n6_ := Aside0.mk ((zm9 BK346.out hg : gb352 ≠ gb346)); clear BK346; clear HB; have BK346 := n0_; have HB := n1_; have BK352 := n2_; have GW352 := n3_; have GE352 := n4_; have NB346_352 := n5_; have NB352_346 := n6_; clear n0_ n1_ n2_ n3_ n4_ n5_ n6_; clear hb hbox hg; have hnb44 := NB352_346.out; have hnc44 := NB346_352.out; obtain ⟨hcz45_0, hcz45_1, hfz45_0, hfz45_1⟩ := zc9_2 (w := w43) BK352.out; obtain ⟨hcz46_0, hcz46_1, hcz46_2, hfz46_0, hfz46_1, hfz46_2⟩ := zc9_3 (w := w43) BK346.out) | ((with_reducible refine gate_callee (f := 77) rfl ?_); refine goesL_ (some 55) rfl rfl Try.func77 (by kernel_rfl) rfl #[.int .i64 ((rd_T56 l0_2 x4_3).f0), .int .i64 0, .int .i64 (wrap64 ((l0_1.length : Int) - 1))] rfl zT9 ?_; (with_reducible refine (spec_l1In.calls ((rd_T56 l0_2 x4_3).f0) 0 (wrap64 ((l0_1.length : Int) - 1)) true _ A23.out).mono ?_); rintro e w' ⟨rfl, ⟨nd, rfl⟩⟩; refine ⟨_, rfl, ?_⟩; have p354 : 0 ≤ (((rd_T56 l0_2 x4_3).f0) : Int) := zA9; have q354 : ((rd_T56 l0_2 x4_3).f0) < (l0_1.length : Int) := zA9; obtain ⟨ad354, e354, hx354_0, hx354_1, hx354_2, hx354_3, hx354_4⟩ := at_T52 HR0_1.out ((rd_T56 l0_2 x4_3).f0) p354 q354; cases e354; have hn354_0 : ad354.block ≠ gb352 := Nat.ne_of_lt (Nat.lt_of_lt_of_le (by have := World.block_lt_of_cell? _ _ hx354_0; first | rwa [add_block] at this | exact this) GW352.out); have hn354_1 : ad354.block ≠ gb352 := Nat.ne_of_lt (Nat.lt_of_lt_of_le (by have := World.block_lt_of_cell? _ _ hx354_0; first | rwa [add_block] at this | exact this) GW352.out); replace hx354_0 := (HB.out.cell (World.block_lt_of_cell? w _ hx354_0)).trans hx354_0; replace hx354_1 := (HB.out.cell (World.block_lt_of_cell? w _ hx354_1)).trans hx354_1; replace hx354_2 := (HB.out.cell (World.block_lt_of_cell? w _ hx354_2)).trans hx354_2; replace hx354_3 := (HB.out.cell (World.block_lt_of_cell? w _ hx354_3)).trans hx354_3; replace hx354_4 := (HB.out.cell (World.block_lt_of_cell? w _ hx354_4)).trans hx354_4; replace hx354_0 := (cell_far (p := ⟨gb352, 0, none⟩) (by first | (rw [add_block]; exact hn354_0) | (show (Addr.add _ _).block ≠ _; rw [add_block]; exact hn354_0) | exact hn354_0) (.int .i64 ((rd_T56 l0_2 x4_3).f0))).trans hx354_0; replace hx354_1 := (cell_far (p := ⟨gb352, 0, none⟩) (by first | (rw [add_block]; exact hn354_0) | (show (Addr.add _ _).block ≠ _; rw [add_block]; exact hn354_0) | exact hn354_0) (.int .i64 ((rd_T56 l0_2 x4_3).f0))).trans hx354_1; replace hx354_2 := (cell_far (p := ⟨gb352, 0, none⟩) (by first | (rw [add_block]; exact hn354_0) | (show (Addr.add _ _).block ≠ _; rw [add_block]; exact hn354_0) | exact hn354_0) (.int .i64 ((rd_T56 l0_2 x4_3).f0))).trans hx354_2; replace hx354_3 := (cell_far (p := ⟨gb352, 0, none⟩) (by first | (rw [add_block]; exact hn354_0) | (show (Addr.add _ _).block ≠ _; rw [add_block]; exact hn354_0) | exact hn354_0) (.int .i64 ((rd_T56 l0_2 x4_3).f0))).trans hx354_3; replace hx354_4 := (cell_far (p := ⟨gb352, 0, none⟩) (by first | (rw [add_block]; exact hn354_0) | (show (Addr.add _ _).block ≠ _; rw [add_block]; exact hn354_0) | exact hn354_0) (.int .i64 ((rd_T56 l0_2 x4_3).f0))).trans hx354_4; replace hx354_0 := (cell_far (p := ⟨gb352, 1, none⟩) (by first | (rw [add_block]; exact hn354_1) | (show (Addr.add _ _).block ≠ _; rw [add_block]; exact hn354_1) | exact hn354_1) (.string ((rd_T56 l0_2 x4_3).f1))).trans hx354_0; replace hx354_1 := (cell_far (p := ⟨gb352, 1, none⟩) (by first | (rw [add_block]; exact hn354_1) | (show (Addr.add _ _).block ≠ _; rw [add_block]; exact hn354_1) | exact hn354_1) (.string ((rd_T56 l0_2 x4_3).f1))).trans hx354_1; replace hx354_2 := (cell_far (p := ⟨gb352, 1, none⟩) (by first | (rw [add_block]; exact hn354_1) | (show (Addr.add _ _).block ≠ _; rw [add_block]; exact hn354_1) | exact hn354_1) (.string ((rd_T56 l0_2 x4_3).f1))).trans hx354_2; replace hx354_3 := (cell_far (p := ⟨gb352, 1, none⟩) (by first | (rw [add_block]; exact hn354_1) | (show (Addr.add _ _).block ≠ _; rw [add_block]; exact hn354_1) | exact hn354_1) (.string ((rd_T56 l0_2 x4_3).f1))).trans hx354_3; replace hx354_4 := (cell_far (p := ⟨gb352, 1, none⟩) (by first | (rw [add_block]; exact hn354_1) | (show (Addr.add _ _).block ≠ _; rw [add_block]; exact hn354_1) | exact hn354_1) (.string ((rd_T56 l0_2 x4_3).f1))).trans hx354_4; clear hn354_0; clear hn354_1; replace p354 := eq_true p354; replace q354 := eq_true q354) | (go_at_call 115; (with_reducible refine (spec_l27Goes.calls ((rd_T52 l0_1 ((rd_T56 l0_2 x4_3).f0)).f0) ((rd_T52 l0_1 ((rd_T56 l0_2 x4_3).f0)).f1) ((rd_T52 l0_1 ((rd_T56 l0_2 x4_3).f0)).f2) ((rd_T52 l0_1 ((rd_T56 l0_2 x4_3).f0)).f3) ((rd_T52 l0_1 ((rd_T56 l0_2 x4_3).f0)).f4) true _ A27.out).mono ?_); rintro e w47 ⟨rfl, hb⟩; have n0_ := Aside0.mk (blk_below (g := gb346) (o := .cells #[.string a0_0, .slice (some ad354) l0_1.length c0_1, .slice (some ad351) l0_2.length c0_2] 45 (0, 0)) (by refine zP9 ?_; refine blk_far ?_ NB346_352.out _; refine zP9 ?_; refine blk_far ?_ NB346_352.out _; refine zP9 ?_; exact BK346.out) hb); have n1_ := Aside0.mk (blk_below (g := gb352) (o := .cells #[.int .i64 ((rd_T56 l0_2 x4_3).f0), .string ((rd_T56 l0_2 x4_3).f1)] 56 (0, 0)) (by refine zP9 ?_; refine blk_put (cs := #[.int .i64 ((rd_T56 l0_2 x4_3).f0), .string (⟨#[]⟩ : ByteArray)]) ?_ 1 _ rfl; refine zP9 ?_; refine blk_put (cs := #[.int .i64 0, .string (⟨#[]⟩ : ByteArray)]) ?_ 0 _ rfl; refine zP9 ?_; exact BK352.out) hb); have n2_ := Aside0.mk (below_step (zB9_2) hb); clear BK346; clear BK352; clear HB; have BK346 := n0_; have BK352 := n1_; have HB := n2_; clear n0_ n1_ n2_; (try clear hb); (try clear hb2); (try clear hk); (try clear hi); obtain ⟨hcz48_0, hcz48_1, hfz48_0, hfz48_1⟩ := zc9_2 (w := w47) BK352.out) | (go_at_call 114; (with_reducible refine (spec_l27Name.calls k3 ((rd_T56 l0_2 x4_3).f1) true _ A29.out).mono ?_); rintro e w' ⟨rfl, ⟨nd, rfl⟩⟩; obtain ⟨hcz49_0, hcz49_1, hcz49_2, hfz49_0, hfz49_1, hfz49_2⟩ := zc9_3 (w := w47) BK346.out) | (go_at_call 102; (with_reducible refine (spec_l27Ref.calls k3 a0_0 _ _ l0_1 _ _ l0_2 ((rd_T56 l0_2 x4_3).f0) t357 _ ?side1 ?side2 ?side3 ?side4 A31.out).mono ?_); (case side1 => repeat (first | exact (Kd.C_below HR0_1.out (zB9_2)) | (with_reducible refine Kd.C_alloc ?_ _) | (with_reducible refine Kd.C_drewN ?_ _) | (with_reducible refine Kd.C_drew ?_))); (case side2 => exact HC0_1.out); (case side3 => repeat (first | exact (Kd.C_below HR0_2.out (zB9_2)) | (with_reducible refine Kd.C_alloc ?_ _) | (with_reducible refine Kd.C_drewN ?_ _) | (with_reducible refine Kd.C_drew ?_))); (case side4 => exact HC0_2.out); rintro e w50 ⟨rfl, hb⟩; have n0_ := Aside0.mk (zb9 BK346.out hb); have n1_ := Aside0.mk (zb9 BK352.out hb); have n2_ := Aside0.mk (below_step (zB9_2) hb); clear BK346; clear BK352; clear HB; have BK346 := n0_; have BK352 := n1_; have HB := n2_; clear n0_ n1_ n2_; (try clear hb); (try clear hb2); (try clear hk); (try clear hi)))
        go_ret
        exact ⟨zE9, zB9_2⟩
       rw [if_pos c32] at H
       have c32b0 : (t357 == x4_3) = true := beq_iff_eq.mpr c32
       have c32b1 : (t357 != x4_3) = false := bne_eq_false_iff_eq.mpr c32
       clear c32
       have H' := Aside0.mk H
       clear H
       obtain ⟨hcz33_0, hcz33_1, hcz33_2, hfz33_0, hfz33_1, hfz33_2⟩ := zc9_3 (w := wr) BK346.out
       have p351 : 0 ≤ (x4_3 : Int) := zA9
       have q351 : x4_3 < (l0_2.length : Int) := zA9
       obtain ⟨ad351, e351, hx351_0, hx351_1⟩ := at_T56 HR0_2.out x4_3 p351 q351
       cases e351
       replace hx351_0 := (HB.out.cell (World.block_lt_of_cell? w _ hx351_0)).trans hx351_0
       replace hx351_1 := (HB.out.cell (World.block_lt_of_cell? w _ hx351_1)).trans hx351_1
       replace p351 := eq_true p351
       replace q351 := eq_true q351
       go_wp2_with (first | ((with_reducible refine gate_dst (N := 5) rfl ?_); (try (refine gate_guard (by rfl) ?_; dsimp only)); refine box_event ?hg (N := 5) ?hd (cs := #[.int .i64 0, .string (⟨#[]⟩ : ByteArray)]) (t := 56) ?hr ?_; (case hd => rfl); (case hg => rfl); (case hr => first | (go_simp; done) | (go_simp; rfl)); intro gb352 hg w34 hbox hb; have n0_ := Aside0.mk (zb9 BK346.out hb); have n1_ := Aside0.mk (below_step (zB9_1) hb); have n2_ := Aside0.mk (hbox); have n3_ := Aside0.mk ((by rw [hg]; exact (below_size (zB9_1)) : w.heap.size ≤ gb352)); have n4_ := Aside0.mk ((by rw [hg]; exact (below_size (zB9_1)) : w.heap.size ≤ gb352)); have n5_ := Aside0.mk ((zn9 BK346.out hg : gb346 ≠ gb352)); have n6_ := Aside0.mk ((zm9 BK346.out hg : gb352 ≠ gb346)); clear BK346; clear HB; have BK346 := n0_; have HB := n1_; have BK352 := n2_; have GW352 := n3_; have GE352 := n4_; have NB346_352 := n5_; have NB352_346 := n6_; clear n0_ n1_ n2_ n3_ n4_ n5_ n6_; clear hb hbox hg; have hnb35 := NB352_346.out; have hnc35 := NB346_352.out; obtain ⟨hcz36_0, hcz36_1, hfz36_0, hfz36_1⟩ := zc9_2 (w := w34) BK352.out; obtain ⟨hcz37_0, hcz37_1, hcz37_2, hfz37_0, hfz37_1, hfz37_2⟩ := zc9_3 (w := w34) BK346.out) | ((with_reducible refine gate_callee (f := 77) rfl ?_); refine goesL_ (some 55) rfl rfl Try.func77 (by kernel_rfl) rfl #[.int .i64 ((rd_T56 l0_2 x4_3).f0), .int .i64 0, .int .i64 (wrap64 ((l0_1.length : Int) - 1))] rfl zT9 ?_; (with_reducible refine (spec_l1In.calls ((rd_T56 l0_2 x4_3).f0) 0 (wrap64 ((l0_1.length : Int) - 1)) true _ A23.out).mono ?_); rintro e w' ⟨rfl, ⟨nd, rfl⟩⟩; refine ⟨_, rfl, ?_⟩; have p354 : 0 ≤ (((rd_T56 l0_2 x4_3).f0) : Int) := zA9; have q354 : ((rd_T56 l0_2 x4_3).f0) < (l0_1.length : Int) := zA9; obtain ⟨ad354, e354, hx354_0, hx354_1, hx354_2, hx354_3, hx354_4⟩ := at_T52 HR0_1.out ((rd_T56 l0_2 x4_3).f0) p354 q354; cases e354; have hn354_0 : ad354.block ≠ gb352 := Nat.ne_of_lt (Nat.lt_of_lt_of_le (by have := World.block_lt_of_cell? _ _ hx354_0; first | rwa [add_block] at this | exact this) GW352.out); have hn354_1 : ad354.block ≠ gb352 := Nat.ne_of_lt (Nat.lt_of_lt_of_le (by have := World.block_lt_of_cell? _ _ hx354_0; first | rwa [add_block] at this | exact this) GW352.out); replace hx354_0 := (HB.out.cell (World.block_lt_of_cell? w _ hx354_0)).trans hx354_0; replace hx354_1 := (HB.out.cell (World.block_lt_of_cell? w _ hx354_1)).trans hx354_1; replace hx354_2 := (HB.out.cell (World.block_lt_of_cell? w _ hx354_2)).trans hx354_2; replace hx354_3 := (HB.out.cell (World.block_lt_of_cell? w _ hx354_3)).trans hx354_3; replace hx354_4 := (HB.out.cell (World.block_lt_of_cell? w _ hx354_4)).trans hx354_4; replace hx354_0 := (cell_far (p := ⟨gb352, 0, none⟩) (by first | (rw [add_block]; exact hn354_0) | (show (Addr.add _ _).block ≠ _; rw [add_block]; exact hn354_0) | exact hn354_0) (.int .i64 ((rd_T56 l0_2 x4_3).f0))).trans hx354_0; replace hx354_1 := (cell_far (p := ⟨gb352, 0, none⟩) (by first | (rw [add_block]; exact hn354_0) | (show (Addr.add _ _).block ≠ _; rw [add_block]; exact hn354_0) | exact hn354_0) (.int .i64 ((rd_T56 l0_2 x4_3).f0))).trans hx354_1; replace hx354_2 := (cell_far (p := ⟨gb352, 0, none⟩) (by first | (rw [add_block]; exact hn354_0) | (show (Addr.add _ _).block ≠ _; rw [add_block]; exact hn354_0) | exact hn354_0) (.int .i64 ((rd_T56 l0_2 x4_3).f0))).trans hx354_2; replace hx354_3 := (cell_far (p := ⟨gb352, 0, none⟩) (by first | (rw [add_block]; exact hn354_0) | (show (Addr.add _ _).block ≠ _; rw [add_block]; exact hn354_0) | exact hn354_0) (.int .i64 ((rd_T56 l0_2 x4_3).f0))).trans hx354_3; replace hx354_4 := (cell_far (p := ⟨gb352, 0, none⟩) (by first | (rw [add_block]; exact hn354_0) | (show (Addr.add _ _).block ≠ _; rw [add_block]; exact hn354_0) | exact hn354_0) (.int .i64 ((rd_T56 l0_2 x4_3).f0))).trans hx354_4; replace hx354_0 := (cell_far (p := ⟨gb352, 1, none⟩) (by first | (rw [add_block]; exact hn354_1) | (show (Addr.add _ _).block ≠ _; rw [add_block]; exact hn354_1) | exact hn354_1) (.string ((rd_T56 l0_2 x4_3).f1))).trans hx354_0; replace hx354_1 := (cell_far (p := ⟨gb352, 1, none⟩) (by first | (rw [add_block]; exact hn354_1) | (show (Addr.add _ _).block ≠ _; rw [add_block]; exact hn354_1) | exact hn354_1) (.string ((rd_T56 l0_2 x4_3).f1))).trans hx354_1; replace hx354_2 := (cell_far (p := ⟨gb352, 1, none⟩) (by first | (rw [add_block]; exact hn354_1) | (show (Addr.add _ _).block ≠ _; rw [add_block]; exact hn354_1) | exact hn354_1) (.string ((rd_T56 l0_2 x4_3).f1))).trans hx354_2; replace hx354_3 := (cell_far (p := ⟨gb352, 1, none⟩) (by first | (rw [add_block]; exact hn354_1) | (show (Addr.add _ _).block ≠ _; rw [add_block]; exact hn354_1) | exact hn354_1) (.string ((rd_T56 l0_2 x4_3).f1))).trans hx354_3; replace hx354_4 := (cell_far (p := ⟨gb352, 1, none⟩) (by first | (rw [add_block]; exact hn354_1) | (show (Addr.add _ _).block ≠ _; rw [add_block]; exact hn354_1) | exact hn354_1) (.string ((rd_T56 l0_2 x4_3).f1))).trans hx354_4; clear hn354_0; clear hn354_1; replace p354 := eq_true p354; replace q354 := eq_true q354) | (go_at_call 115; (with_reducible refine (spec_l27Goes.calls ((rd_T52 l0_1 ((rd_T56 l0_2 x4_3).f0)).f0) ((rd_T52 l0_1 ((rd_T56 l0_2 x4_3).f0)).f1) ((rd_T52 l0_1 ((rd_T56 l0_2 x4_3).f0)).f2) ((rd_T52 l0_1 ((rd_T56 l0_2 x4_3).f0)).f3) ((rd_T52 l0_1 ((rd_T56 l0_2 x4_3).f0)).f4) true _ A27.out).mono ?_); rintro e w38 ⟨rfl, hb⟩; have n0_ := Aside0.mk (blk_below (g := gb346) (o := .cells #[.string a0_0, .slice (some ad354) l0_1.length c0_1, .slice (some ad351) l0_2.length c0_2] 45 (0, 0)) (by refine zP9 ?_; refine blk_far ?_ NB346_352.out _; refine zP9 ?_; refine blk_far ?_ NB346_352.out _; refine zP9 ?_; exact BK346.out) hb); have n1_ := Aside0.mk (blk_below (g := gb352) (o := .cells #[.int .i64 ((rd_T56 l0_2 x4_3).f0), .string ((rd_T56 l0_2 x4_3).f1)] 56 (0, 0)) (by refine zP9 ?_; refine blk_put (cs := #[.int .i64 ((rd_T56 l0_2 x4_3).f0), .string (⟨#[]⟩ : ByteArray)]) ?_ 1 _ rfl; refine zP9 ?_; refine blk_put (cs := #[.int .i64 0, .string (⟨#[]⟩ : ByteArray)]) ?_ 0 _ rfl; refine zP9 ?_; exact BK352.out) hb); have n2_ := Aside0.mk (below_step (zB9_2) hb); clear BK346; clear BK352; clear HB; have BK346 := n0_; have BK352 := n1_; have HB := n2_; clear n0_ n1_ n2_; (try clear hb); (try clear hb2); (try clear hk); (try clear hi); obtain ⟨hcz39_0, hcz39_1, hfz39_0, hfz39_1⟩ := zc9_2 (w := w38) BK352.out) | (go_at_call 114; (with_reducible refine (spec_l27Name.calls k3 ((rd_T56 l0_2 x4_3).f1) true _ A29.out).mono ?_); rintro e w' ⟨rfl, ⟨nd, rfl⟩⟩; obtain ⟨hcz40_0, hcz40_1, hcz40_2, hfz40_0, hfz40_1, hfz40_2⟩ := zc9_3 (w := w38) BK346.out) | (go_at_call 102; (with_reducible refine (spec_l27Ref.calls k3 a0_0 _ _ l0_1 _ _ l0_2 ((rd_T56 l0_2 x4_3).f0) t357 _ ?side1 ?side2 ?side3 ?side4 A31.out).mono ?_); (case side1 => repeat (first | exact (Kd.C_below HR0_1.out (zB9_2)) | (with_reducible refine Kd.C_alloc ?_ _) | (with_reducible refine Kd.C_drewN ?_ _) | (with_reducible refine Kd.C_drew ?_))); (case side2 => exact HC0_1.out); (case side3 => repeat (first | exact (Kd.C_below HR0_2.out (zB9_2)) | (with_reducible refine Kd.C_alloc ?_ _) | (with_reducible refine Kd.C_drewN ?_ _) | (with_reducible refine Kd.C_drew ?_))); (case side4 => exact HC0_2.out); rintro e w41 ⟨rfl, hb⟩; have n0_ := Aside0.mk (zb9 BK346.out hb); have n1_ := Aside0.mk (zb9 BK352.out hb); have n2_ := Aside0.mk (below_step (zB9_2) hb); clear BK346; clear BK352; clear HB; have BK346 := n0_; have BK352 := n1_; have HB := n2_; clear n0_ n1_ n2_; (try clear hb); (try clear hb2); (try clear hk); (try clear hi)))
       go_roundg k3
       case measure => have := HK1.out; have := HJ10.out; have := HK3.out; omega
       case rel => exact ⟨(wrap64 (x4_3 + 1)), (by first | rfl | (simp; done) | (simp [*]; done)), H', ⟨by have := HK1.out; have := HJ10.out; have := HK3.out; omega⟩, ⟨zK9 BK346.out⟩, ⟨zB9_2⟩⟩

/-! ### spec_PartAt: function 47 -/
def spec_PartAt.l0 : Nat → List (S45) → ByteArray → Int → Option (Int)
 | 0, _, _, _ => none
 | k + 1, x0, x1, x5 => if x5 < (x0.length : Int) then (if 0 ≤ x5 then (if ((rd_T45 x0 x5).f0).toList = x1.toList then (some x5) else (spec_PartAt.l0 k x0 x1 (wrap64 (x5 + 1)))) else (none)) else (some (-1))
def spec_PartAt.f (k : Nat) (l0 : List (S45)) (a1 : ByteArray) : Option (Int) := spec_PartAt.l0 k l0 a1 0
theorem spec_PartAt.mono_l : ∀ k, (∀ y0 y1 y2, LeO (spec_PartAt.l0 k y0 y1 y2) (spec_PartAt.l0 (k + 1) y0 y1 y2))
 | 0 => fun _ _ _ r h => by simp [spec_PartAt.l0] at h
 | k + 1 => by
  have ih0 := spec_PartAt.mono_l k
  ·intro y0 y1 y2
   unfold spec_PartAt.l0
   repeat' first
   | (with_reducible exact ih0 _ _ _)
   | (with_reducible exact LeO.refl _)
   | (with_reducible exact LeO.none _)
   | (with_reducible refine LeO.ite ?_ ?_)
   | (with_reducible refine LeO.bind ?_ (fun _ => ?_))
   | exact ih0 _ _ _
   | exact LeO.none _
   | refine LeO.ite ?_ ?_
   | refine LeO.bind ?_ (fun _ => ?_)
theorem spec_PartAt.mono : ∀ a0 a1 k, LeO (spec_PartAt.f k a0 a1) (spec_PartAt.f (k + 1) a0 a1) := by
 intro a0 a1 k
 have ih0 := spec_PartAt.mono_l k
 unfold spec_PartAt.f
 repeat' first
   | (with_reducible exact ih0 _ _ _)
   | (with_reducible exact LeO.refl _)
   | (with_reducible exact LeO.none _)
   | (with_reducible refine LeO.ite ?_ ?_)
   | (with_reducible refine LeO.bind ?_ (fun _ => ?_))
   | exact ih0 _ _ _
   | exact LeO.none _
   | refine LeO.ite ?_ ?_
   | refine LeO.bind ?_ (fun _ => ?_)
set_option maxHeartbeats 8000000 in
set_option maxRecDepth 100000 in
theorem spec_PartAt.calls (k : Nat) (A0 : Option Addr) (c0 : Nat) (l0 : List (S45)) (a1 : ByteArray) (r : Int) (w : World) (hr0 : Kd.C k45 w A0 l0.length l0) (hc0 : l0.length ≤ c0) (h : spec_PartAt.f k l0 a1 = some r) :
  Calls Try.prog 47 #[.slice A0 l0.length c0, .string a1] w fun e w' => e = .returned (.int .i64 r) ∧ Drawn0 w w' := by
 have HR0 := Aside0.mk hr0
 have HC0 := Aside0.mk hc0
 clear hr0 hc0
 have H : (spec_PartAt.l0 k l0 a1 0) = some r := h
 clear h
 have H' := Aside0.mk H
 clear H
 go_enter Try.func47, Try.ntmps47
 go_wp2
 go_loopg [5] k (fun kq v5 w' => ∃ (x5_1 : Int), v5 = .int .i64 x5_1 ∧ Aside0 (spec_PartAt.l0 kq l0 a1 x5_1 = some r) ∧ Aside0 (kq ≤ k) ∧ Drawn0 w w')
 case atStart => exact ⟨(0), (by first | rfl | (simp; done) | (simp [*]; done)), H', ⟨Nat.le_refl _⟩, by repeat (first | exact Drawn0.refl _ | apply Drawn0.step)⟩
 case round =>
  clear H'
  try clear p2
  obtain ⟨x5_1, rfl, HA, HK1, ⟨m1, rfl⟩⟩ := hrel
  cases gk with
  | zero => exact absurd HA.out (by simp [spec_PartAt.l0])
  | succ k1 =>
   have H := HA.out
   clear HA
   simp only [spec_PartAt.l0] at H
   by_cases c3 : x5_1 < (l0.length : Int)
   rotate_left
   ·rw [if_neg c3] at H
    have c3b0 : decide (x5_1 < (l0.length : Int)) = false := decide_eq_false c3
    clear c3
    obtain rfl := Option.some.inj H
    go_wp2
    go_ret
    exact ⟨by first | rfl | (simp; done) | (simp [*]; done), by repeat (first | exact Drawn0.refl _ | apply Drawn0.step)⟩
   rw [if_pos c3] at H
   have c3b0 : decide (x5_1 < (l0.length : Int)) = true := decide_eq_true c3
   clear c3
   by_cases c4 : 0 ≤ x5_1
   rotate_left
   ·rw [if_neg c4] at H
    exact absurd H (by simp)
   rw [if_pos c4] at H
   have c4b0 : decide (0 ≤ x5_1) = true := decide_eq_true c4
   clear c4
   by_cases c5 : ((rd_T45 l0 x5_1).f0).toList = a1.toList
   ·rw [if_pos c5] at H
    have c5b0 : (((rd_T45 l0 x5_1).f0).toList == a1.toList) = true := beq_iff_eq.mpr c5
    have c5b1 : (((rd_T45 l0 x5_1).f0).toList != a1.toList) = false := bne_eq_false_iff_eq.mpr c5
    clear c5
    obtain rfl := Option.some.inj H
    have p358 : 0 ≤ (x5_1 : Int) := zA9
    have q358 : x5_1 < (l0.length : Int) := zA9
    obtain ⟨ad358, A358_1, c358_1, A358_2, c358_2, e358, hx358_0, hx358_1, hx358_2, hl358_1, hi358_1, hl358_2, hi358_2⟩ := at_T45 HR0.out x5_1 p358 q358
    cases e358
    have HR358_1 := Aside0.mk hi358_1
    have HC358_1 := Aside0.mk hl358_1
    clear hi358_1 hl358_1
    have HR358_2 := Aside0.mk hi358_2
    have HC358_2 := Aside0.mk hl358_2
    clear hi358_2 hl358_2
    replace p358 := eq_true p358
    replace q358 := eq_true q358
    go_wp2
    go_ret
    exact ⟨by first | rfl | (simp; done) | (simp [*]; done), by repeat (first | exact Drawn0.refl _ | apply Drawn0.step)⟩
   rw [if_neg c5] at H
   have c5b0 : (((rd_T45 l0 x5_1).f0).toList == a1.toList) = false := beq_eq_false_iff_ne.mpr c5
   have c5b1 : (((rd_T45 l0 x5_1).f0).toList != a1.toList) = true := bne_iff_ne.mpr c5
   have H' := Aside0.mk H
   clear H
   have p358 : 0 ≤ (x5_1 : Int) := zA9
   have q358 : x5_1 < (l0.length : Int) := zA9
   obtain ⟨ad358, A358_1, c358_1, A358_2, c358_2, e358, hx358_0, hx358_1, hx358_2, hl358_1, hi358_1, hl358_2, hi358_2⟩ := at_T45 HR0.out x5_1 p358 q358
   cases e358
   have HR358_1 := Aside0.mk hi358_1
   have HC358_1 := Aside0.mk hl358_1
   clear hi358_1 hl358_1
   have HR358_2 := Aside0.mk hi358_2
   have HC358_2 := Aside0.mk hl358_2
   clear hi358_2 hl358_2
   replace p358 := eq_true p358
   replace q358 := eq_true q358
   go_wp2
   go_roundg k1
   case measure => have := HK1.out; omega
   case rel => exact ⟨(wrap64 (x5_1 + 1)), (by first | rfl | (simp; done) | (simp [*]; done)), H', ⟨by have := HK1.out; omega⟩, by repeat (first | exact Drawn0.refl _ | apply Drawn0.step)⟩

end Go.Proofs.Ytnekcbajadnldaa.PFnLayouts
