-- made by wip/tools/myprint.py out of the seat's translation
import Derived.Test.YtbbieaglfgipnaaPFnExactLinkx0
import Derived.Test.YtbbieaglfgipnaaPFnExactLinkx6
import Derived.Test.YtbbieaglfgipnaaPFnExactLinkx7
import Derived.Test.YtbbieaglfgipnaaPFnExactLinkx8
namespace Go.Proofs.Ytbbieaglfgipnaa.PFnExactLink
open Go.RowKit Go.Proofs.YtbbieaglfgipnaaW.PrintWords Go.Proofs.YtbbieaglfgipnaaW.PrintLast Go.Proofs.YtbbieaglfgipnaaW.PrintMore
attribute [local go_sem] max2_int min2_int max_two min_two max_three min_three max_four min_four   -- for this text's walks alone
set_option linter.unusedVariables false
set_option linter.unusedSimpArgs false
theorem zc9_5 {w : World} {g : Nat} {a0 a1 a2 a3 a4 : Value} {t : TypeId} (h : w.heap[g]? = some (.cells #[a0, a1, a2, a3, a4] t (0, 0))) : w.cell? ⟨g, 0, none⟩ = some a0 ∧ w.cell? ⟨g, 1, none⟩ = some a1 ∧ w.cell? ⟨g, 2, none⟩ = some a2 ∧ w.cell? ⟨g, 3, none⟩ = some a3 ∧ w.cell? ⟨g, 4, none⟩ = some a4 ∧ w.frozen? ⟨g, 0, none⟩ = false ∧ w.frozen? ⟨g, 1, none⟩ = false ∧ w.frozen? ⟨g, 2, none⟩ = false ∧ w.frozen? ⟨g, 3, none⟩ = false ∧ w.frozen? ⟨g, 4, none⟩ = false := ⟨(blk_cell h 0).trans rfl, (blk_cell h 1).trans rfl, (blk_cell h 2).trans rfl, (blk_cell h 3).trans rfl, (blk_cell h 4).trans rfl, blk_frozen h 0, blk_frozen h 1, blk_frozen h 2, blk_frozen h 3, blk_frozen h 4⟩
theorem zR9 {p q : Prop} (x : q) (h : q → p := by intro h; (with_reducible repeat (first | apply Kd.R_alloc | apply Kd.R_drewN | apply Kd.R_drew)); exact h) : p := h x
theorem zK9 {p q : Prop} (x : q) (h : q → p := by intro h; (with_reducible repeat (first | refine blk_drewN ?_ _ | refine blk_drew ?_ | refine blk_alloc ?_ _)); exact h) : p := h x
theorem zA9 {p : Prop} [Decidable p] (h : decide p = true := by first | (with_reducible assumption) | assumption) : p := of_decide_eq_true h
theorem zT9 {p : Prop} (h : p := by (try simp only [List.map_toArray, List.map_cons, List.map_nil]); first | done | rfl | (simp only [List.length_drop, List.length_take]; rfl)) : p := h
theorem zC9 {p q : Prop} (x : q) (h : q → p := by intro h; repeat (first | exact h | (with_reducible refine Kd.C_alloc ?_ _) | (with_reducible refine Kd.C_drewN ?_ _) | (with_reducible refine Kd.C_drew ?_))) : p := h x
theorem zP9 {p q : Prop} (x : q) (h : q → p := by intro h; (with_reducible repeat (first | refine blk_drewN ?_ _ | refine blk_drew ?_ | refine blk_alloc ?_ _)); exact h) : p := h x
theorem zE9 {p : Prop} (h : p := by first | rfl | (simp [errW_none, errW_some] <;> rfl) | (simp [*, errW_none, errW_some] <;> rfl)) : p := h
theorem zB9_0 {p : Prop} (h : p := by repeat (first | (with_reducible first | exact HB.out | apply below_alloc | apply pw_below_drewN | apply below_drew1) | exact HB.out)) : p := h
theorem zB9_1 {p : Prop} (h : p := by repeat (first | (with_reducible first | exact HB.out | apply below_alloc | apply pw_below_drewN | apply below_drew1 | refine below_set ?_ GE250.out) | exact HB.out)) : p := h

/-! ### spec_Link: function 50 -/
mutual
def spec_Link.l0 : Nat → List (S107) → List Int → Bool → List Int → Int → Option (List Int × Bool)
 | 0, _, _, _, _, _ => none
 | k + 1, x0, x4, x5, x6, x7 => if x7 < (x0.length : Int) then (spec_Link.j1 k x0 x4 x5 x6 x7 x5) else (spec_Link.j1 k x0 x4 x5 x6 x7 false)
def spec_Link.j1 : Nat → List (S107) → List Int → Bool → List Int → Int → Bool → Option (List Int × Bool)
 | 0, _, _, _, _, _, _ => none
 | k + 1, x0, x4, x5, x6, x7, x26 => if x26 = true then (spec_Link.l1 k x0 x4 x5 x6 x7 0) else (if x5 = true then (spec_Link.l2 k x6) else (some ((([] : List Int)), false)))
def spec_Link.l1 : Nat → List (S107) → List Int → Bool → List Int → Int → Int → Option (List Int × Bool)
 | 0, _, _, _, _, _, _ => none
 | k + 1, x0, x4, x5, x6, x7, x8 => if 0 ≤ x7 then (if x7 < (x0.length : Int) then (if x8 < (((rd_T107 x0 x7).f1).length : Int) then (if 0 ≤ x8 then ((spec_l27Ref.f k ((rd_T107 x0 x7).f0) ((rd_T107 x0 x7).f1) ((rd_T107 x0 x7).f2) x8).bind fun t252 => (if t252 ≥ 0 then (if 0 ≤ t252 then (if t252 < (((rd_T107 x0 x7).f2).length : Int) then ((spec_PartAt.f k x0 ((rd_T118 ((rd_T107 x0 x7).f2) t252).f1)).bind fun t255 => (if t255 < 0 then (some ((([] : List Int)), false)) else (if 0 ≤ t255 then (if t255 < (x4.length : Int) then ((spec_Code.f ((rd_T115 ((rd_T107 x0 x7).f1) x8).f0) ((rd_T115 ((rd_T107 x0 x7).f1) x8).f1) ((rd_T115 ((rd_T107 x0 x7).f1) x8).f2) ((rd_T115 ((rd_T107 x0 x7).f1) x8).f3) (rd x4 t255)).bind fun bt260 => (if x6.length < 17592186044416 then (spec_Link.l1 k x0 x4 x5 (x6 ++ [bt260.1]) x7 (wrap64 (x8 + 1))) else (none))) else (none)) else (none)))) else (none)) else (none)) else ((spec_Code.f ((rd_T115 ((rd_T107 x0 x7).f1) x8).f0) ((rd_T115 ((rd_T107 x0 x7).f1) x8).f1) ((rd_T115 ((rd_T107 x0 x7).f1) x8).f2) ((rd_T115 ((rd_T107 x0 x7).f1) x8).f3) ((rd_T115 ((rd_T107 x0 x7).f1) x8).f4)).bind fun bt265 => (if x6.length < 17592186044416 then (spec_Link.l1 k x0 x4 x5 (x6 ++ [bt265.1]) x7 (wrap64 (x8 + 1))) else (none))))) else (none)) else (spec_Link.l0 k x0 x4 x5 x6 (wrap64 (x7 + 1)))) else (none)) else (none)
def spec_Link.l2 : Nat → List Int → Option (List Int × Bool)
 | 0, _ => none
 | k + 1, x6 => if (x6.length : Int) < 24 then (if x6.length < 17592186044416 then (spec_Link.l2 k (x6 ++ [0])) else (none)) else (some (x6, true))
end
def spec_Link.f (k : Nat) (l0 : List (S107)) : Option (List Int × Bool) := (spec_Layout.f k l0).bind fun bt240 => (spec_Link.l0 k l0 bt240.1 bt240.2 (([] : List Int)) 0)
theorem spec_Link.mono_l : ∀ k, (∀ y0 y1 y2 y3 y4, LeO (spec_Link.l0 k y0 y1 y2 y3 y4) (spec_Link.l0 (k + 1) y0 y1 y2 y3 y4)) ∧ (∀ y0 y1 y2 y3 y4 y5, LeO (spec_Link.j1 k y0 y1 y2 y3 y4 y5) (spec_Link.j1 (k + 1) y0 y1 y2 y3 y4 y5)) ∧ (∀ y0 y1 y2 y3 y4 y5, LeO (spec_Link.l1 k y0 y1 y2 y3 y4 y5) (spec_Link.l1 (k + 1) y0 y1 y2 y3 y4 y5)) ∧ (∀ y0, LeO (spec_Link.l2 k y0) (spec_Link.l2 (k + 1) y0))
 | 0 => ⟨fun _ _ _ _ _ r h => by simp [spec_Link.l0] at h, fun _ _ _ _ _ _ r h => by simp [spec_Link.j1] at h, fun _ _ _ _ _ _ r h => by simp [spec_Link.l1] at h, fun _ r h => by simp [spec_Link.l2] at h⟩
 | k + 1 => by
  obtain ⟨ih0, ih1, ih2, ih3⟩ := spec_Link.mono_l k
  refine ⟨?_, ?_, ?_, ?_⟩
  ·intro y0 y1 y2 y3 y4
   unfold spec_Link.l0
   repeat' first
   | (with_reducible exact ih0 _ _ _ _ _)
   | (with_reducible exact ih1 _ _ _ _ _ _)
   | (with_reducible exact ih2 _ _ _ _ _ _)
   | (with_reducible exact ih3 _)
   | (with_reducible exact spec_Layout.mono _ _)
   | (with_reducible exact spec_PartAt.mono _ _ _)
   | (with_reducible exact spec_l27Ref.mono _ _ _ _ _)
   | (with_reducible exact LeO.refl _)
   | (with_reducible exact LeO.none _)
   | (with_reducible refine LeO.ite ?_ ?_)
   | (with_reducible refine LeO.bind ?_ (fun _ => ?_))
   | exact ih0 _ _ _ _ _
   | exact ih1 _ _ _ _ _ _
   | exact ih2 _ _ _ _ _ _
   | exact ih3 _
   | exact spec_Layout.mono _ _
   | exact spec_PartAt.mono _ _ _
   | exact spec_l27Ref.mono _ _ _ _ _
   | exact LeO.none _
   | refine LeO.ite ?_ ?_
   | refine LeO.bind ?_ (fun _ => ?_)
  ·intro y0 y1 y2 y3 y4 y5
   unfold spec_Link.j1
   repeat' first
   | (with_reducible exact ih0 _ _ _ _ _)
   | (with_reducible exact ih1 _ _ _ _ _ _)
   | (with_reducible exact ih2 _ _ _ _ _ _)
   | (with_reducible exact ih3 _)
   | (with_reducible exact spec_Layout.mono _ _)
   | (with_reducible exact spec_PartAt.mono _ _ _)
   | (with_reducible exact spec_l27Ref.mono _ _ _ _ _)
   | (with_reducible exact LeO.refl _)
   | (with_reducible exact LeO.none _)
   | (with_reducible refine LeO.ite ?_ ?_)
   | (with_reducible refine LeO.bind ?_ (fun _ => ?_))
   | exact ih0 _ _ _ _ _
   | exact ih1 _ _ _ _ _ _
   | exact ih2 _ _ _ _ _ _
   | exact ih3 _
   | exact spec_Layout.mono _ _
   | exact spec_PartAt.mono _ _ _
   | exact spec_l27Ref.mono _ _ _ _ _
   | exact LeO.none _
   | refine LeO.ite ?_ ?_
   | refine LeO.bind ?_ (fun _ => ?_)
  ·intro y0 y1 y2 y3 y4 y5
   unfold spec_Link.l1
   repeat' first
   | (with_reducible exact ih0 _ _ _ _ _)
   | (with_reducible exact ih1 _ _ _ _ _ _)
   | (with_reducible exact ih2 _ _ _ _ _ _)
   | (with_reducible exact ih3 _)
   | (with_reducible exact spec_Layout.mono _ _)
   | (with_reducible exact spec_PartAt.mono _ _ _)
   | (with_reducible exact spec_l27Ref.mono _ _ _ _ _)
   | (with_reducible exact LeO.refl _)
   | (with_reducible exact LeO.none _)
   | (with_reducible refine LeO.ite ?_ ?_)
   | (with_reducible refine LeO.bind ?_ (fun _ => ?_))
   | exact ih0 _ _ _ _ _
   | exact ih1 _ _ _ _ _ _
   | exact ih2 _ _ _ _ _ _
   | exact ih3 _
   | exact spec_Layout.mono _ _
   | exact spec_PartAt.mono _ _ _
   | exact spec_l27Ref.mono _ _ _ _ _
   | exact LeO.none _
   | refine LeO.ite ?_ ?_
   | refine LeO.bind ?_ (fun _ => ?_)
  ·intro y0
   unfold spec_Link.l2
   repeat' first
   | (with_reducible exact ih0 _ _ _ _ _)
   | (with_reducible exact ih1 _ _ _ _ _ _)
   | (with_reducible exact ih2 _ _ _ _ _ _)
   | (with_reducible exact ih3 _)
   | (with_reducible exact spec_Layout.mono _ _)
   | (with_reducible exact spec_PartAt.mono _ _ _)
   | (with_reducible exact spec_l27Ref.mono _ _ _ _ _)
   | (with_reducible exact LeO.refl _)
   | (with_reducible exact LeO.none _)
   | (with_reducible refine LeO.ite ?_ ?_)
   | (with_reducible refine LeO.bind ?_ (fun _ => ?_))
   | exact ih0 _ _ _ _ _
   | exact ih1 _ _ _ _ _ _
   | exact ih2 _ _ _ _ _ _
   | exact ih3 _
   | exact spec_Layout.mono _ _
   | exact spec_PartAt.mono _ _ _
   | exact spec_l27Ref.mono _ _ _ _ _
   | exact LeO.none _
   | refine LeO.ite ?_ ?_
   | refine LeO.bind ?_ (fun _ => ?_)
theorem spec_Link.mono : ∀ a0 k, LeO (spec_Link.f k a0) (spec_Link.f (k + 1) a0) := by
 intro a0 k
 obtain ⟨ih0, ih1, ih2, ih3⟩ := spec_Link.mono_l k
 unfold spec_Link.f
 repeat' first
   | (with_reducible exact ih0 _ _ _ _ _)
   | (with_reducible exact ih1 _ _ _ _ _ _)
   | (with_reducible exact ih2 _ _ _ _ _ _)
   | (with_reducible exact ih3 _)
   | (with_reducible exact spec_Layout.mono _ _)
   | (with_reducible exact spec_PartAt.mono _ _ _)
   | (with_reducible exact spec_l27Ref.mono _ _ _ _ _)
   | (with_reducible exact LeO.refl _)
   | (with_reducible exact LeO.none _)
   | (with_reducible refine LeO.ite ?_ ?_)
   | (with_reducible refine LeO.bind ?_ (fun _ => ?_))
   | exact ih0 _ _ _ _ _
   | exact ih1 _ _ _ _ _ _
   | exact ih2 _ _ _ _ _ _
   | exact ih3 _
   | exact spec_Layout.mono _ _
   | exact spec_PartAt.mono _ _ _
   | exact spec_l27Ref.mono _ _ _ _ _
   | exact LeO.none _
   | refine LeO.ite ?_ ?_
   | refine LeO.bind ?_ (fun _ => ?_)
set_option maxHeartbeats 8000000 in
set_option maxRecDepth 100000 in
theorem spec_Link.calls (k : Nat) (A0 : Option Addr) (c0 : Nat) (l0 : List (S107)) (r1 : List Int) (r2 : Bool) (w : World) (hr0 : Kd.C k107 w A0 l0.length l0) (hc0 : l0.length ≤ c0) (h : spec_Link.f k l0 = some (r1, r2)) :
  Calls Try.prog 50 #[.slice A0 l0.length c0] w fun e w' => ∃ v0_ : Value, e = .returned (.tuple #[v0_, .bool r2]) ∧ Kd.R (Kd.int .i64) 3 w' w.heap.size (fun _ => True) v0_ r1 ∧ Below w.heap.size w w' := by
 have hu115 := Try.underlying115
 have hu107 := Try.underlying107
 have HR0 := Aside0.mk hr0
 have HC0 := Aside0.mk hc0
 clear hr0 hc0
 have HB := Aside0.mk (Below.refl w.heap.size w)
 have H : ((spec_Layout.f k l0).bind fun bt240 => (spec_Link.l0 k l0 bt240.1 bt240.2 (([] : List Int)) 0)) = some (r1, r2) := h
 clear h
 replace H := Option.bind_eq_some_iff.mp H
 obtain ⟨⟨t240, t241⟩, A20, H⟩ := H
 replace H : (spec_Link.l0 k l0 t240 t241 (([] : List Int)) 0) = some (r1, r2) := H
 have A2 := Aside0.mk A20
 clear A20
 obtain ⟨y244, hy244⟩ : ∃ y_ : List Int, y_ = (([] : List Int)) := ⟨_, rfl⟩
 replace H : (spec_Link.l0 k l0 t240 t241 y244 0) = some (r1, r2) := by first | (rw [hy244]; with_reducible exact H) | (have H2_ := (Option.bind_some _ _).symm.trans H; rw [hy244]; with_reducible exact H2_) | (have H2_ := (Option.bind_some _ _).symm.trans H; with_reducible exact H2_) | with_reducible exact H | (rw [hy244]; exact H) | exact H
 have Ny244 := Aside0.mk hy244
 clear hy244
 have H' := Aside0.mk H
 clear H
 go_enter Try.func50, Try.ntmps50
 go_wp2_with (first | ((with_reducible refine gate_callee (f := 45) rfl ?_); refine goesL_ (some 16) rfl rfl Try.func45 (by kernel_rfl) rfl #[.slice A0 l0.length c0] rfl zT9 ?_; (with_reducible refine (spec_Layout.calls k _ _ l0 t240 t241 _ ?side1 ?side2 A2.out).mono ?_); (case side1 => exact zC9 HR0.out); (case side2 => exact HC0.out); rintro e w3 ⟨v242, rfl, ho0, hb⟩; refine ⟨_, rfl, ?_⟩; have n0_ := Aside0.mk (Kd.R_lower ho0 (below_size (zB9_0))); have n1_ := Aside0.mk (below_step (zB9_0) hb); clear HB; have HO243 := n0_; have HB := n1_; clear n0_ n1_; (try clear hb); (try clear hb2); (try clear hk); (try clear hi); (try clear ho0)) | ((with_reducible refine gate_dst (N := 19) rfl ?_); refine Kd.R_lit (Kd.int .i64) _ 3 ?hg (N := 19) ?hd (xs := ([] : List Int)) (inner := []) (ok := fun _ => True) (okp := fun _ => True) ?hr ?hp (fun _ hk => hk) trivial (Below.refl _ _) (Nat.le_refl _) (by simp) ?_; (case hd => rfl); (case hg => rfl); (case hr => first | (go_simp; done) | (go_simp; rfl)); (case hp => exact (Reps.none _ _)); intro v245 w4 ho5 hb hg_ hnew_; clear hg_ hnew_; (first | rw [← Ny244.out] at ho5 | (simp only [Int.reduceToNat] at ho5; rw [← Ny244.out] at ho5)); have n0_ := Aside0.mk (Kd.R_elder' (zR9 HO243.out) (Kd.R_base ho5) hb); have n1_ := Aside0.mk (Kd.R_lower (Kd.R_new' ho5 (Kd.R_lt (zR9 HO243.out))) (below_size (zB9_0))); have n2_ := Aside0.mk (below_step (zB9_0) hb); clear HO243; clear HB; have HO243 := n0_; have HO246 := n1_; have HB := n2_; clear n0_ n1_ n2_; clear hb ho5))
 go_loopg [6, 7] k (fun kq v6 v7 w' => ∃ (x6_1 : List Int) (x7_1 : Int), v7 = .int .i64 x7_1 ∧ Aside0 (spec_Link.l0 kq l0 t240 t241 x6_1 x7_1 = some (r1, r2)) ∧ Aside0 (kq ≤ k) ∧ Aside0 (Kd.R (Kd.int .i64) 3 w' w.heap.size (fun k_ => some k_ ≠ (v6 : Value).ownBlock) v242 t240) ∧ Aside0 (Kd.R (Kd.int .i64) 3 w' w.heap.size (fun k_ => some k_ ≠ (v242 : Value).ownBlock) v6 x6_1) ∧ Aside0 (Below w.heap.size w w'))
 case atStart => exact ⟨(y244), (0), (by first | rfl | (simp; done) | (simp [*]; done)), H', ⟨Nat.le_refl _⟩, ⟨by (with_reducible repeat (first | apply Kd.R_alloc | apply Kd.R_drewN | apply Kd.R_drew)); exact Kd.R_mono HO243.out (fun _ hk => hk.2)⟩, ⟨by (with_reducible repeat (first | apply Kd.R_alloc | apply Kd.R_drewN | apply Kd.R_drew)); exact Kd.R_mono HO246.out (fun _ hk => hk.2)⟩, ⟨zB9_0⟩⟩
 case round =>
  clear H'
  try clear p2
  try clear c4
  try clear c5
  obtain ⟨x6_1, x7_1, rfl, HA, HK1, HO_4, HO_6, HB⟩ := hrel
  cases gk with
  | zero => exact absurd HA.out (by simp [spec_Link.l0])
  | succ k1 =>
   have H := HA.out
   clear HA
   simp only [spec_Link.l0] at H
   have HC6 := Aside0.mk H
   clear H
   go_upto_region 4 with (fail)
   go_cut [26] (fun v26 wc => ∃ (kq : Nat) (x26_5 : Bool), v26 = .bool x26_5 ∧ Aside0 (spec_Link.j1 kq l0 t240 t241 x6_1 x7_1 x26_5 = some (r1, r2)) ∧ Aside0 (kq ≤ k1) ∧ Aside0 (Kd.R (Kd.int .i64) 3 wc w.heap.size (fun k_ => some k_ ≠ (u6 : Value).ownBlock) v242 t240) ∧ Aside0 (Kd.R (Kd.int .i64) 3 wc w.heap.size (fun k_ => some k_ ≠ (v242 : Value).ownBlock) u6 x6_1) ∧ Aside0 (Below w.heap.size w wc))
   case first =>
    have H := HC6.out
    clear HC6
    by_cases c7 : x7_1 < (l0.length : Int)
    ·rw [if_pos c7] at H
     have c7b0 : decide (x7_1 < (l0.length : Int)) = true := decide_eq_true c7
     clear c7
     (first | rw [c7b0] | (simp only [i64_w, i32_w]; rw [c7b0]) | skip)
     have H' := Aside0.mk H
     clear H
     go_wp2
     go_meet
     case rel => exact ⟨_, (t241), (by first | rfl | (simp; done) | (simp [*]; done)), H', ⟨by have := HK1.out; first | omega | exact Nat.le_refl _⟩, ⟨zR9 HO_4.out⟩, ⟨zR9 HO_6.out⟩, ⟨zB9_0⟩⟩
    rw [if_neg c7] at H
    have c7b0 : decide (x7_1 < (l0.length : Int)) = false := decide_eq_false c7
    clear c7
    (first | rw [c7b0] | (simp only [i64_w, i32_w]; rw [c7b0]) | skip)
    have H' := Aside0.mk H
    clear H
    go_wp2
    go_meet
    case rel => exact ⟨_, (false), (by first | rfl | (simp; done) | (simp [*]; done)), H', ⟨by have := HK1.out; first | omega | exact Nat.le_refl _⟩, ⟨zR9 HO_4.out⟩, ⟨zR9 HO_6.out⟩, ⟨zB9_0⟩⟩
   case rest =>
    clear HC6
    try clear p2
    try clear c4
    try clear c5
    try clear c7
    try clear c7b0
    try clear p2
    obtain ⟨kq, x26_5, rfl, HA, HJ5, HO_4, HO_6, HB⟩ := hcut
    cases kq with
    | zero => exact absurd HA.out (by simp [spec_Link.j1])
    | succ kj5 =>
     have H := HA.out
     clear HA
     simp only [spec_Link.j1] at H
     by_cases c8 : x26_5 = true
     rotate_left
     ·replace c8 := Bool.eq_false_iff.mpr c8
      subst c8
      have H1 : (if t241 = true then (spec_Link.l2 kj5 x6_1) else (some ((([] : List Int)), false))) = some (r1, r2) := by rw [if_neg (show ¬ (false = true) by decide)] at H; exact H
      clear H
      have H := H1
      clear H1
      by_cases c43 : t241 = true
      rotate_left
      ·replace c43 := Bool.eq_false_iff.mpr c43
       subst c43
       have H1 : (some ((([] : List Int)), false)) = some (r1, r2) := by rw [if_neg (show ¬ (false = true) by decide)] at H; exact H
       clear H
       have H := H1
       clear H1
       obtain ⟨y270, hy270⟩ : ∃ y_ : List Int, y_ = (([] : List Int)) := ⟨_, rfl⟩
       replace H : (some (y270, false)) = some (r1, r2) := by first | (rw [hy270]; with_reducible exact H) | (have H2_ := (Option.bind_some _ _).symm.trans H; rw [hy270]; with_reducible exact H2_) | (have H2_ := (Option.bind_some _ _).symm.trans H; with_reducible exact H2_) | with_reducible exact H | (rw [hy270]; exact H) | exact H
       have Ny270 := Aside0.mk hy270
       clear hy270
       simp only [Option.some.injEq, Prod.mk.injEq] at H
       obtain ⟨rfl, rfl⟩ := H
       go_wp2_with (first | ((with_reducible refine gate_dst (N := 85) rfl ?_); refine Kd.R_lit (Kd.int .i64) _ 3 ?hg (N := 85) ?hd (xs := ([] : List Int)) (inner := []) (ok := fun _ => True) (okp := fun _ => True) ?hr ?hp (fun _ hk => hk) trivial (Below.refl _ _) (Nat.le_refl _) (by simp) ?_; (case hd => rfl); (case hg => rfl); (case hr => first | (go_simp; done) | (go_simp; rfl)); (case hp => exact (Reps.none _ _)); intro v271 w49 ho50 hb hg_ hnew_; clear hg_ hnew_; (first | rw [← Ny270.out] at ho50 | (simp only [Int.reduceToNat] at ho50; rw [← Ny270.out] at ho50)); have n0_ := Aside0.mk (Kd.R_elder' (zR9 HO_4.out) (Kd.R_base ho50) hb); have n1_ := Aside0.mk (Kd.R_elder' (zR9 HO_6.out) (Kd.R_base ho50) hb); have n2_ := Aside0.mk (Kd.R_lower (Kd.R_new' (Kd.R_new' ho50 (Kd.R_lt (zR9 HO_4.out))) (Kd.R_lt (zR9 HO_6.out))) (below_size (zB9_0))); have n3_ := Aside0.mk (below_step (zB9_0) hb); clear HO_4; clear HO_6; clear HB; have HO_4 := n0_; have HO_6 := n1_; have HO272 := n2_; have HB := n3_; clear n0_ n1_ n2_ n3_; clear hb ho50))
       go_ret2
       exact ⟨_, zE9, by (with_reducible repeat (first | apply Kd.R_alloc | apply Kd.R_drewN | apply Kd.R_drew)); exact Kd.R_mono HO272.out (fun _ hk => trivial), zB9_0⟩
      subst c43
      have H1 : (spec_Link.l2 kj5 x6_1) = some (r1, r2) := by rw [if_pos rfl] at H; exact H
      clear H
      have H := H1
      clear H1
      have H' := Aside0.mk H
      clear H
      go_wp2
      go_loopg [6] kj5 (fun kq v6 w' => ∃ (x6_3 : List Int), Aside0 (spec_Link.l2 kq x6_3 = some (r1, r2)) ∧ Aside0 (kq ≤ kj5) ∧ Aside0 (Kd.R (Kd.int .i64) 3 w' w.heap.size (fun _ => True) v6 x6_3) ∧ Aside0 (Below w.heap.size w w'))
      case atStart => exact ⟨(x6_1), H', ⟨Nat.le_refl _⟩, ⟨by (with_reducible repeat (first | apply Kd.R_alloc | apply Kd.R_drewN | apply Kd.R_drew)); exact Kd.R_mono HO_6.out (fun _ hk => trivial)⟩, ⟨zB9_0⟩⟩
      case round =>
       clear H'
       try clear c1
       try clear c2
       try clear p2
       try clear q2
       try clear hx2
       try clear c3
       try clear c4
       try clear c5
       try clear p6
       try clear c7
       try clear c7b0
       try clear c8
       try clear c9
       try clear c9b0
       try clear c10
       try clear c10b0
       try clear c11
       try clear c11b0
       try clear c12
       try clear c12b0
       try clear c14
       try clear c14b0
       try clear c15
       try clear c15b0
       try clear c16
       try clear c16b0
       try clear c18
       try clear c18b0
       try clear c24
       try clear c24b0
       try clear p24
       try clear q24
       try clear hx24
       try clear c25
       try clear c25b0
       try clear p25
       try clear q25
       try clear hx25
       try clear c27
       try clear c36
       try clear c43
       try clear hcz20_0
       try clear hcz20_1
       try clear hcz20_2
       try clear hcz20_3
       try clear hcz20_4
       try clear hcz29_0
       try clear hcz29_1
       try clear hcz29_2
       try clear hcz29_3
       try clear hcz29_4
       try clear hcz32_0
       try clear hcz32_1
       try clear hcz32_2
       try clear hcz32_3
       try clear hcz32_4
       try clear hcz38_0
       try clear hcz38_1
       try clear hcz38_2
       try clear hcz38_3
       try clear hcz38_4
       try clear hcz40_0
       try clear hcz40_1
       try clear hcz40_2
       try clear hcz40_3
       try clear hcz40_4
       try clear hfz20_0
       try clear hfz20_1
       try clear hfz20_2
       try clear hfz20_3
       try clear hfz20_4
       try clear hfz29_0
       try clear hfz29_1
       try clear hfz29_2
       try clear hfz29_3
       try clear hfz29_4
       try clear hfz32_0
       try clear hfz32_1
       try clear hfz32_2
       try clear hfz32_3
       try clear hfz32_4
       try clear hfz38_0
       try clear hfz38_1
       try clear hfz38_2
       try clear hfz38_3
       try clear hfz38_4
       try clear hfz40_0
       try clear hfz40_1
       try clear hfz40_2
       try clear hfz40_3
       try clear hfz40_4
       try clear hx247_0
       try clear hx247_1
       try clear hx247_2
       try clear hx248_0
       try clear hx248_1
       try clear hx248_2
       try clear hx249_0
       try clear hx249_1
       try clear hx249_2
       try clear hx249_3
       try clear hx249_4
       try clear hx251_0
       try clear hx251_1
       try clear hx251_2
       try clear hx253_0
       try clear hx253_1
       try clear hx253_2
       try clear hx254_0
       try clear hx254_1
       try clear hx259_0
       try clear p2
       try clear p247
       try clear p248
       try clear p249
       try clear p251
       try clear p253
       try clear p254
       try clear p259
       try clear q247
       try clear q248
       try clear q249
       try clear q251
       try clear q253
       try clear q254
       try clear q259
       obtain ⟨x6_3, HA, HK3, HO_6, HB⟩ := hrel
       cases gk with
       | zero => exact absurd HA.out (by simp [spec_Link.l2])
       | succ k3 =>
        have H := HA.out
        clear HA
        simp only [spec_Link.l2] at H
        by_cases c44 : (x6_3.length : Int) < 24
        rotate_left
        ·rw [if_neg c44] at H
         have c44b0 : decide ((x6_3.length : Int) < 24) = false := decide_eq_false c44
         have c44b1 : decide (x6_3.length < 24) = false := decide_eq_false (by omega)
         clear c44
         simp only [Option.some.injEq, Prod.mk.injEq] at H
         obtain ⟨rfl, rfl⟩ := H
         obtain ⟨Ao48, co48, eo48⟩ := Kd.R_slice HO_6.out
         subst eo48
         go_wp2
         go_ret2
         exact ⟨_, zE9, zR9 HO_6.out, zB9_0⟩
        rw [if_pos c44] at H
        have c44b0 : decide ((x6_3.length : Int) < 24) = true := decide_eq_true c44
        have c44b1 : decide (x6_3.length < 24) = true := decide_eq_true (by omega)
        clear c44
        by_cases c45 : x6_3.length < 17592186044416
        rotate_left
        ·rw [if_neg c45] at H
         exact absurd H (by simp)
        rw [if_pos c45] at H
        have LMc45 := Aside0.mk c45
        clear c45
        obtain ⟨y273, hy273⟩ : ∃ y_ : List Int, y_ = (x6_3 ++ [0]) := ⟨_, rfl⟩
        replace H : (spec_Link.l2 k3 y273) = some (r1, r2) := by first | (rw [hy273]; with_reducible exact H) | (have H2_ := (Option.bind_some _ _).symm.trans H; rw [hy273]; with_reducible exact H2_) | (have H2_ := (Option.bind_some _ _).symm.trans H; with_reducible exact H2_) | with_reducible exact H | (rw [hy273]; exact H) | exact H
        have Ny273 := Aside0.mk hy273
        clear hy273
        have H' := Aside0.mk H
        clear H
        obtain ⟨Ao46, co46, eo46⟩ := Kd.R_slice HO_6.out
        subst eo46
        go_wp2_with (first | ((with_reducible refine gate_builtin (b := .append) (xs := #[.tmp 89, .tmp 90]) rfl ?_); at_builtin; refine Kd.R_append (Kd.int .i64) (w0 := w) w.heap.size rfl (.tmp 89) (.tmp 90) 33 3 (.int .i64 0) 8 rfl Try.underlying33 info3 rfl (by decide) (by omega) (.slice Ao46 x6_3.length co46) x6_3 0 [.int .i64 0] (fun _ => True) (fun _ => False) rfl rfl ?aP (fun _ hk => hk.elim) ?aF ?aO ?aB ?aS ?aL ?_; (case aP => exact rfl); (case aB => exact (zB9_0)); (case aF => exact (fun _ _ => trivial)); (case aO => exact (zR9 HO_6.out)); (case aS => exact (below_size (zB9_0))); (case aL => have := LMc45.out; omega); intro v274 w47 ho hb hg hat; rw [← Ny273.out] at ho; have n0_ := Aside0.mk (hb); have n1_ := Aside0.mk (ho); clear HB; clear HO_6; have HB := n0_; have HO275 := n1_; clear n0_ n1_; clear ho hb hg hat))
        go_roundg k3
        case measure => have := HK1.out; have := HJ5.out; have := HK3.out; omega
        case rel => exact ⟨(y273), H', ⟨by have := HK1.out; have := HJ5.out; have := HK3.out; omega⟩, ⟨zR9 HO275.out⟩, ⟨zB9_0⟩⟩
     subst c8
     have H1 : (spec_Link.l1 kj5 l0 t240 t241 x6_1 x7_1 0) = some (r1, r2) := by rw [if_pos rfl] at H; exact H
     clear H
     have H := H1
     clear H1
     have H' := Aside0.mk H
     clear H
     go_wp2
     go_loopg [6, 8] kj5 (fun kq v6 v8 w' => ∃ (x6_3 : List Int) (x8_3 : Int), v8 = .int .i64 x8_3 ∧ Aside0 (spec_Link.l1 kq l0 t240 t241 x6_3 x7_1 x8_3 = some (r1, r2)) ∧ Aside0 (kq ≤ kj5) ∧ Aside0 (Kd.R (Kd.int .i64) 3 w' w.heap.size (fun k_ => some k_ ≠ (v6 : Value).ownBlock) v242 t240) ∧ Aside0 (Kd.R (Kd.int .i64) 3 w' w.heap.size (fun k_ => some k_ ≠ (v242 : Value).ownBlock) v6 x6_3) ∧ Aside0 (Below w.heap.size w w'))
     case atStart => exact ⟨(x6_1), (0), (by first | rfl | (simp; done) | (simp [*]; done)), H', ⟨Nat.le_refl _⟩, ⟨zR9 HO_4.out⟩, ⟨zR9 HO_6.out⟩, ⟨zB9_0⟩⟩
     case round =>
      clear H'
      try clear p2
      try clear c4
      try clear c5
      try clear c7
      try clear c7b0
      try clear c8
      try clear p2
      obtain ⟨x6_3, x8_3, rfl, HA, HK3, HO_4, HO_6, HB⟩ := hrel
      cases gk with
      | zero => exact absurd HA.out (by simp [spec_Link.l1])
      | succ k3 =>
       have H := HA.out
       clear HA
       simp only [spec_Link.l1] at H
       by_cases c9 : 0 ≤ x7_1
       rotate_left
       ·rw [if_neg c9] at H
        exact absurd H (by simp)
       rw [if_pos c9] at H
       have c9b0 : decide (0 ≤ x7_1) = true := decide_eq_true c9
       clear c9
       by_cases c10 : x7_1 < (l0.length : Int)
       rotate_left
       ·rw [if_neg c10] at H
        exact absurd H (by simp)
       rw [if_pos c10] at H
       have c10b0 : decide (x7_1 < (l0.length : Int)) = true := decide_eq_true c10
       clear c10
       by_cases c11 : x8_3 < (((rd_T107 l0 x7_1).f1).length : Int)
       rotate_left
       ·rw [if_neg c11] at H
        have c11b0 : decide (x8_3 < (((rd_T107 l0 x7_1).f1).length : Int)) = false := decide_eq_false c11
        clear c11
        have H' := Aside0.mk H
        clear H
        have p247 : 0 ≤ (x7_1 : Int) := zA9
        have q247 : x7_1 < (l0.length : Int) := zA9
        obtain ⟨ad247, A247_1, c247_1, A247_2, c247_2, e247, hx247_0, hx247_1, hx247_2, hl247_1, hi247_1, hl247_2, hi247_2⟩ := at_T107 HR0.out x7_1 p247 q247
        cases e247
        replace hx247_0 := (HB.out.cell (World.block_lt_of_cell? w _ hx247_0)).trans hx247_0
        replace hx247_1 := (HB.out.cell (World.block_lt_of_cell? w _ hx247_1)).trans hx247_1
        replace hx247_2 := (HB.out.cell (World.block_lt_of_cell? w _ hx247_2)).trans hx247_2
        have HR247_1 := Aside0.mk hi247_1
        have HC247_1 := Aside0.mk hl247_1
        clear hi247_1 hl247_1
        have HR247_2 := Aside0.mk hi247_2
        have HC247_2 := Aside0.mk hl247_2
        clear hi247_2 hl247_2
        replace p247 := eq_true p247
        replace q247 := eq_true q247
        go_wp2
        go_roundg k3
        case measure => have := HK1.out; have := HJ5.out; have := HK3.out; omega
        case rel => exact ⟨(x6_3), (wrap64 (x7_1 + 1)), (by first | rfl | (simp; done) | (simp [*]; done)), H', ⟨by have := HK1.out; have := HJ5.out; have := HK3.out; omega⟩, ⟨zR9 HO_4.out⟩, ⟨zR9 HO_6.out⟩, ⟨zB9_0⟩⟩
       rw [if_pos c11] at H
       have c11b0 : decide (x8_3 < (((rd_T107 l0 x7_1).f1).length : Int)) = true := decide_eq_true c11
       clear c11
       by_cases c12 : 0 ≤ x8_3
       rotate_left
       ·rw [if_neg c12] at H
        exact absurd H (by simp)
       rw [if_pos c12] at H
       have c12b0 : decide (0 ≤ x8_3) = true := decide_eq_true c12
       clear c12
       replace H := Option.bind_eq_some_iff.mp H
       obtain ⟨t252, A130, H⟩ := H
       replace H : (if t252 ≥ 0 then (if 0 ≤ t252 then (if t252 < (((rd_T107 l0 x7_1).f2).length : Int) then ((spec_PartAt.f k3 l0 ((rd_T118 ((rd_T107 l0 x7_1).f2) t252).f1)).bind fun t255 => (if t255 < 0 then (some ((([] : List Int)), false)) else (if 0 ≤ t255 then (if t255 < (t240.length : Int) then ((spec_Code.f ((rd_T115 ((rd_T107 l0 x7_1).f1) x8_3).f0) ((rd_T115 ((rd_T107 l0 x7_1).f1) x8_3).f1) ((rd_T115 ((rd_T107 l0 x7_1).f1) x8_3).f2) ((rd_T115 ((rd_T107 l0 x7_1).f1) x8_3).f3) (rd t240 t255)).bind fun bt260 => (if x6_3.length < 17592186044416 then (spec_Link.l1 k3 l0 t240 t241 (x6_3 ++ [bt260.1]) x7_1 (wrap64 (x8_3 + 1))) else (none))) else (none)) else (none)))) else (none)) else (none)) else ((spec_Code.f ((rd_T115 ((rd_T107 l0 x7_1).f1) x8_3).f0) ((rd_T115 ((rd_T107 l0 x7_1).f1) x8_3).f1) ((rd_T115 ((rd_T107 l0 x7_1).f1) x8_3).f2) ((rd_T115 ((rd_T107 l0 x7_1).f1) x8_3).f3) ((rd_T115 ((rd_T107 l0 x7_1).f1) x8_3).f4)).bind fun bt265 => (if x6_3.length < 17592186044416 then (spec_Link.l1 k3 l0 t240 t241 (x6_3 ++ [bt265.1]) x7_1 (wrap64 (x8_3 + 1))) else (none)))) = some (r1, r2) := H
       have A13 := Aside0.mk A130
       clear A130
       by_cases c14 : t252 ≥ 0
       rotate_left
       ·rw [if_neg c14] at H
        have c14b0 : decide (0 ≤ t252) = false := decide_eq_false c14
        clear c14
        replace H := Option.bind_eq_some_iff.mp H
        obtain ⟨⟨t265, t266⟩, A350, H⟩ := H
        replace H : (if x6_3.length < 17592186044416 then (spec_Link.l1 k3 l0 t240 t241 (x6_3 ++ [t265]) x7_1 (wrap64 (x8_3 + 1))) else (none)) = some (r1, r2) := H
        have A35 := Aside0.mk A350
        clear A350
        by_cases c36 : x6_3.length < 17592186044416
        rotate_left
        ·rw [if_neg c36] at H
         exact absurd H (by simp)
        rw [if_pos c36] at H
        have LMc36 := Aside0.mk c36
        clear c36
        obtain ⟨y267, hy267⟩ : ∃ y_ : List Int, y_ = (x6_3 ++ [t265]) := ⟨_, rfl⟩
        replace H : (spec_Link.l1 k3 l0 t240 t241 y267 x7_1 (wrap64 (x8_3 + 1))) = some (r1, r2) := by first | (rw [hy267]; with_reducible exact H) | (have H2_ := (Option.bind_some _ _).symm.trans H; rw [hy267]; with_reducible exact H2_) | (have H2_ := (Option.bind_some _ _).symm.trans H; with_reducible exact H2_) | with_reducible exact H | (rw [hy267]; exact H) | exact H
        have Ny267 := Aside0.mk hy267
        clear hy267
        have H' := Aside0.mk H
        clear H
        have p247 : 0 ≤ (x7_1 : Int) := zA9
        have q247 : x7_1 < (l0.length : Int) := zA9
        obtain ⟨ad247, A247_1, c247_1, A247_2, c247_2, e247, hx247_0, hx247_1, hx247_2, hl247_1, hi247_1, hl247_2, hi247_2⟩ := at_T107 HR0.out x7_1 p247 q247
        cases e247
        replace hx247_0 := (HB.out.cell (World.block_lt_of_cell? w _ hx247_0)).trans hx247_0
        replace hx247_1 := (HB.out.cell (World.block_lt_of_cell? w _ hx247_1)).trans hx247_1
        replace hx247_2 := (HB.out.cell (World.block_lt_of_cell? w _ hx247_2)).trans hx247_2
        have HR247_1 := Aside0.mk hi247_1
        have HC247_1 := Aside0.mk hl247_1
        clear hi247_1 hl247_1
        have HR247_2 := Aside0.mk hi247_2
        have HC247_2 := Aside0.mk hl247_2
        clear hi247_2 hl247_2
        replace p247 := eq_true p247
        replace q247 := eq_true q247
        have p248 : 0 ≤ (x7_1 : Int) := zA9
        have q248 : x7_1 < (l0.length : Int) := zA9
        obtain ⟨ad248, A248_1, c248_1, A248_2, c248_2, e248, hx248_0, hx248_1, hx248_2, hl248_1, hi248_1, hl248_2, hi248_2⟩ := at_T107 HR0.out x7_1 p248 q248
        obtain rfl : ad247 = ad248 := (by injection e248)
        replace hx248_0 := (HB.out.cell (World.block_lt_of_cell? w _ hx248_0)).trans hx248_0
        replace hx248_1 := (HB.out.cell (World.block_lt_of_cell? w _ hx248_1)).trans hx248_1
        replace hx248_2 := (HB.out.cell (World.block_lt_of_cell? w _ hx248_2)).trans hx248_2
        have HR248_1 := Aside0.mk hi248_1
        have HC248_1 := Aside0.mk hl248_1
        clear hi248_1 hl248_1
        have HR248_2 := Aside0.mk hi248_2
        have HC248_2 := Aside0.mk hl248_2
        clear hi248_2 hl248_2
        replace p248 := eq_true p248
        replace q248 := eq_true q248
        have ea_ := Option.some.inj (hx247_1.symm.trans hx248_1)
        injection ea_ with ea_ en_ ec_
        subst ea_
        subst ec_
        clear en_
        have ea_ := Option.some.inj (hx247_2.symm.trans hx248_2)
        injection ea_ with ea_ en_ ec_
        subst ea_
        subst ec_
        clear en_
        have p249 : 0 ≤ (x8_3 : Int) := zA9
        have q249 : x8_3 < (((rd_T107 l0 x7_1).f1).length : Int) := zA9
        obtain ⟨ad249, e249, hx249_0, hx249_1, hx249_2, hx249_3, hx249_4⟩ := at_T115 HR248_1.out x8_3 p249 q249
        cases e249
        replace hx249_0 := (HB.out.cell (World.block_lt_of_cell? w _ hx249_0)).trans hx249_0
        replace hx249_1 := (HB.out.cell (World.block_lt_of_cell? w _ hx249_1)).trans hx249_1
        replace hx249_2 := (HB.out.cell (World.block_lt_of_cell? w _ hx249_2)).trans hx249_2
        replace hx249_3 := (HB.out.cell (World.block_lt_of_cell? w _ hx249_3)).trans hx249_3
        replace hx249_4 := (HB.out.cell (World.block_lt_of_cell? w _ hx249_4)).trans hx249_4
        replace p249 := eq_true p249
        replace q249 := eq_true q249
        go_wp2_with (first | ((with_reducible refine gate_dst (N := 9) rfl ?_); refine box_event ?hg (N := 9) ?hd (cs := #[.int .i64 0, .int .i64 0, .int .i64 0, .int .i64 0, .int .i64 0]) (t := 115) ?hr ?_; (case hd => rfl); (case hg => rfl); (case hr => first | (go_simp; done) | (go_simp; rfl)); intro gb250 hg w37 hbox hb; have n0_ := Aside0.mk (Kd.R_below (zR9 HO_4.out) hb); have n1_ := Aside0.mk (Kd.R_below (zR9 HO_6.out) hb); have n2_ := Aside0.mk (below_step (zB9_0) hb); have n3_ := Aside0.mk (hbox); have n4_ := Aside0.mk ((by rw [hg]; exact (below_size (zB9_0)) : w.heap.size ≤ gb250)); have n5_ := Aside0.mk ((by rw [hg]; exact (below_size (zB9_0)) : w.heap.size ≤ gb250)); clear HO_4; clear HO_6; clear HB; have HO_4 := n0_; have HO_6 := n1_; have HB := n2_; have BK250 := n3_; have GW250 := n4_; have GE250 := n5_; clear n0_ n1_ n2_ n3_ n4_ n5_; clear hb hbox hg; obtain ⟨hcz38_0, hcz38_1, hcz38_2, hcz38_3, hcz38_4, hfz38_0, hfz38_1, hfz38_2, hfz38_3, hfz38_4⟩ := zc9_5 (w := w37) BK250.out; have p251 : 0 ≤ (x7_1 : Int) := zA9; have q251 : x7_1 < (l0.length : Int) := zA9; obtain ⟨ad251, A251_1, c251_1, A251_2, c251_2, e251, hx251_0, hx251_1, hx251_2, hl251_1, hi251_1, hl251_2, hi251_2⟩ := at_T107 HR0.out x7_1 p251 q251; obtain rfl : ad247 = ad251 := (by injection e251); have hn251_0 : ad247.block ≠ gb250 := Nat.ne_of_lt (Nat.lt_of_lt_of_le (by have := World.block_lt_of_cell? _ _ hx251_0; first | rwa [add_block] at this | exact this) GW250.out); have hn251_1 : ad247.block ≠ gb250 := Nat.ne_of_lt (Nat.lt_of_lt_of_le (by have := World.block_lt_of_cell? _ _ hx251_0; first | rwa [add_block] at this | exact this) GW250.out); have hn251_2 : ad247.block ≠ gb250 := Nat.ne_of_lt (Nat.lt_of_lt_of_le (by have := World.block_lt_of_cell? _ _ hx251_0; first | rwa [add_block] at this | exact this) GW250.out); have hn251_3 : ad247.block ≠ gb250 := Nat.ne_of_lt (Nat.lt_of_lt_of_le (by have := World.block_lt_of_cell? _ _ hx251_0; first | rwa [add_block] at this | exact this) GW250.out); have hn251_4 : ad247.block ≠ gb250 := Nat.ne_of_lt (Nat.lt_of_lt_of_le (by have := World.block_lt_of_cell? _ _ hx251_0; first | rwa [add_block] at this | exact this) GW250.out); replace hx251_0 := (HB.out.cell (World.block_lt_of_cell? w _ hx251_0)).trans hx251_0; replace hx251_1 := (HB.out.cell (World.block_lt_of_cell? w _ hx251_1)).trans hx251_1; replace hx251_2 := (HB.out.cell (World.block_lt_of_cell? w _ hx251_2)).trans hx251_2; have HR251_1 := Aside0.mk hi251_1; have HC251_1 := Aside0.mk hl251_1; clear hi251_1 hl251_1; have HR251_2 := Aside0.mk hi251_2; have HC251_2 := Aside0.mk hl251_2; clear hi251_2 hl251_2; replace hx251_0 := (cell_far (p := ⟨gb250, 0, none⟩) (by first | (rw [add_block]; exact hn251_0) | (show (Addr.add _ _).block ≠ _; rw [add_block]; exact hn251_0) | exact hn251_0) (.int .i64 ((rd_T115 ((rd_T107 l0 x7_1).f1) x8_3).f0))).trans hx251_0; replace hx251_1 := (cell_far (p := ⟨gb250, 0, none⟩) (by first | (rw [add_block]; exact hn251_0) | (show (Addr.add _ _).block ≠ _; rw [add_block]; exact hn251_0) | exact hn251_0) (.int .i64 ((rd_T115 ((rd_T107 l0 x7_1).f1) x8_3).f0))).trans hx251_1; replace hx251_2 := (cell_far (p := ⟨gb250, 0, none⟩) (by first | (rw [add_block]; exact hn251_0) | (show (Addr.add _ _).block ≠ _; rw [add_block]; exact hn251_0) | exact hn251_0) (.int .i64 ((rd_T115 ((rd_T107 l0 x7_1).f1) x8_3).f0))).trans hx251_2; replace hx251_0 := (cell_far (p := ⟨gb250, 1, none⟩) (by first | (rw [add_block]; exact hn251_1) | (show (Addr.add _ _).block ≠ _; rw [add_block]; exact hn251_1) | exact hn251_1) (.int .i64 ((rd_T115 ((rd_T107 l0 x7_1).f1) x8_3).f1))).trans hx251_0; replace hx251_1 := (cell_far (p := ⟨gb250, 1, none⟩) (by first | (rw [add_block]; exact hn251_1) | (show (Addr.add _ _).block ≠ _; rw [add_block]; exact hn251_1) | exact hn251_1) (.int .i64 ((rd_T115 ((rd_T107 l0 x7_1).f1) x8_3).f1))).trans hx251_1; replace hx251_2 := (cell_far (p := ⟨gb250, 1, none⟩) (by first | (rw [add_block]; exact hn251_1) | (show (Addr.add _ _).block ≠ _; rw [add_block]; exact hn251_1) | exact hn251_1) (.int .i64 ((rd_T115 ((rd_T107 l0 x7_1).f1) x8_3).f1))).trans hx251_2; replace hx251_0 := (cell_far (p := ⟨gb250, 2, none⟩) (by first | (rw [add_block]; exact hn251_2) | (show (Addr.add _ _).block ≠ _; rw [add_block]; exact hn251_2) | exact hn251_2) (.int .i64 ((rd_T115 ((rd_T107 l0 x7_1).f1) x8_3).f2))).trans hx251_0; replace hx251_1 := (cell_far (p := ⟨gb250, 2, none⟩) (by first | (rw [add_block]; exact hn251_2) | (show (Addr.add _ _).block ≠ _; rw [add_block]; exact hn251_2) | exact hn251_2) (.int .i64 ((rd_T115 ((rd_T107 l0 x7_1).f1) x8_3).f2))).trans hx251_1; replace hx251_2 := (cell_far (p := ⟨gb250, 2, none⟩) (by first | (rw [add_block]; exact hn251_2) | (show (Addr.add _ _).block ≠ _; rw [add_block]; exact hn251_2) | exact hn251_2) (.int .i64 ((rd_T115 ((rd_T107 l0 x7_1).f1) x8_3).f2))).trans hx251_2; replace hx251_0 := (cell_far (p := ⟨gb250, 3, none⟩) (by first | (rw [add_block]; exact hn251_3) | (show (Addr.add _ _).block ≠ _; rw [add_block]; exact hn251_3) | exact hn251_3) (.int .i64 ((rd_T115 ((rd_T107 l0 x7_1).f1) x8_3).f3))).trans hx251_0; replace hx251_1 := (cell_far (p := ⟨gb250, 3, none⟩) (by first | (rw [add_block]; exact hn251_3) | (show (Addr.add _ _).block ≠ _; rw [add_block]; exact hn251_3) | exact hn251_3) (.int .i64 ((rd_T115 ((rd_T107 l0 x7_1).f1) x8_3).f3))).trans hx251_1; replace hx251_2 := (cell_far (p := ⟨gb250, 3, none⟩) (by first | (rw [add_block]; exact hn251_3) | (show (Addr.add _ _).block ≠ _; rw [add_block]; exact hn251_3) | exact hn251_3) (.int .i64 ((rd_T115 ((rd_T107 l0 x7_1).f1) x8_3).f3))).trans hx251_2; replace hx251_0 := (cell_far (p := ⟨gb250, 4, none⟩) (by first | (rw [add_block]; exact hn251_4) | (show (Addr.add _ _).block ≠ _; rw [add_block]; exact hn251_4) | exact hn251_4) (.int .i64 ((rd_T115 ((rd_T107 l0 x7_1).f1) x8_3).f4))).trans hx251_0; replace hx251_1 := (cell_far (p := ⟨gb250, 4, none⟩) (by first | (rw [add_block]; exact hn251_4) | (show (Addr.add _ _).block ≠ _; rw [add_block]; exact hn251_4) | exact hn251_4) (.int .i64 ((rd_T115 ((rd_T107 l0 x7_1).f1) x8_3).f4))).trans hx251_1; replace hx251_2 := (cell_far (p := ⟨gb250, 4, none⟩) (by first | (rw [add_block]; exact hn251_4) | (show (Addr.add _ _).block ≠ _; rw [add_block]; exact hn251_4) | exact hn251_4) (.int .i64 ((rd_T115 ((rd_T107 l0 x7_1).f1) x8_3).f4))).trans hx251_2; clear hn251_0; clear hn251_1; clear hn251_2; clear hn251_3; clear hn251_4; replace p251 := eq_true p251; replace q251 := eq_true q251) | ((with_reducible refine gate_callee (f := 98) rfl ?_); refine goesL_ (some 52) rfl rfl Try.func98 (by kernel_rfl) rfl #[.agg #[.string ((rd_T107 l0 x7_1).f0), .slice A251_1 ((rd_T107 l0 x7_1).f1).length c251_1, .slice A251_2 ((rd_T107 l0 x7_1).f2).length c251_2], .int .i64 x8_3] rfl zT9 ?_; (with_reducible refine (spec_l27Ref.calls k3 ((rd_T107 l0 x7_1).f0) _ _ ((rd_T107 l0 x7_1).f1) _ _ ((rd_T107 l0 x7_1).f2) x8_3 t252 _ ?side1 ?side2 ?side3 ?side4 A13.out).mono ?_); (case side1 => exact Kd.C_below HR251_1.out (zB9_1)); (case side2 => exact HC251_1.out); (case side3 => exact Kd.C_below HR251_2.out (zB9_1)); (case side4 => exact HC251_2.out); rintro e w39 ⟨rfl, hb⟩; refine ⟨_, rfl, ?_⟩; have n0_ := Aside0.mk (Kd.R_below (by (with_reducible repeat (first | apply Kd.R_alloc | apply Kd.R_drewN | apply Kd.R_drew)); exact (Kd.R_mono (Kd.R_far (p := ⟨gb250, 4, none⟩) (Kd.R_far (p := ⟨gb250, 3, none⟩) (Kd.R_far (p := ⟨gb250, 2, none⟩) (Kd.R_far (p := ⟨gb250, 1, none⟩) (Kd.R_far (p := ⟨gb250, 0, none⟩) (Kd.R_types HO_4.out BK250.out (by decide)) (fun _ hk => hk.2) (.int .i64 ((rd_T115 ((rd_T107 l0 x7_1).f1) x8_3).f0))) (fun _ hk => hk.2) (.int .i64 ((rd_T115 ((rd_T107 l0 x7_1).f1) x8_3).f1))) (fun _ hk => hk.2) (.int .i64 ((rd_T115 ((rd_T107 l0 x7_1).f1) x8_3).f2))) (fun _ hk => hk.2) (.int .i64 ((rd_T115 ((rd_T107 l0 x7_1).f1) x8_3).f3))) (fun _ hk => hk.2) (.int .i64 ((rd_T115 ((rd_T107 l0 x7_1).f1) x8_3).f4))) (fun _ h_ => h_.1))) hb); have n1_ := Aside0.mk (Kd.R_below (by (with_reducible repeat (first | apply Kd.R_alloc | apply Kd.R_drewN | apply Kd.R_drew)); exact (Kd.R_mono (Kd.R_far (p := ⟨gb250, 4, none⟩) (Kd.R_far (p := ⟨gb250, 3, none⟩) (Kd.R_far (p := ⟨gb250, 2, none⟩) (Kd.R_far (p := ⟨gb250, 1, none⟩) (Kd.R_far (p := ⟨gb250, 0, none⟩) (Kd.R_types HO_6.out BK250.out (by decide)) (fun _ hk => hk.2) (.int .i64 ((rd_T115 ((rd_T107 l0 x7_1).f1) x8_3).f0))) (fun _ hk => hk.2) (.int .i64 ((rd_T115 ((rd_T107 l0 x7_1).f1) x8_3).f1))) (fun _ hk => hk.2) (.int .i64 ((rd_T115 ((rd_T107 l0 x7_1).f1) x8_3).f2))) (fun _ hk => hk.2) (.int .i64 ((rd_T115 ((rd_T107 l0 x7_1).f1) x8_3).f3))) (fun _ hk => hk.2) (.int .i64 ((rd_T115 ((rd_T107 l0 x7_1).f1) x8_3).f4))) (fun _ h_ => h_.1))) hb); have n2_ := Aside0.mk (blk_below (g := gb250) (o := .cells #[.int .i64 ((rd_T115 ((rd_T107 l0 x7_1).f1) x8_3).f0), .int .i64 ((rd_T115 ((rd_T107 l0 x7_1).f1) x8_3).f1), .int .i64 ((rd_T115 ((rd_T107 l0 x7_1).f1) x8_3).f2), .int .i64 ((rd_T115 ((rd_T107 l0 x7_1).f1) x8_3).f3), .int .i64 ((rd_T115 ((rd_T107 l0 x7_1).f1) x8_3).f4)] 115 (0, 0)) (by refine zP9 ?_; refine blk_put (cs := #[.int .i64 ((rd_T115 ((rd_T107 l0 x7_1).f1) x8_3).f0), .int .i64 ((rd_T115 ((rd_T107 l0 x7_1).f1) x8_3).f1), .int .i64 ((rd_T115 ((rd_T107 l0 x7_1).f1) x8_3).f2), .int .i64 ((rd_T115 ((rd_T107 l0 x7_1).f1) x8_3).f3), .int .i64 0]) ?_ 4 _ rfl; refine zP9 ?_; refine blk_put (cs := #[.int .i64 ((rd_T115 ((rd_T107 l0 x7_1).f1) x8_3).f0), .int .i64 ((rd_T115 ((rd_T107 l0 x7_1).f1) x8_3).f1), .int .i64 ((rd_T115 ((rd_T107 l0 x7_1).f1) x8_3).f2), .int .i64 0, .int .i64 0]) ?_ 3 _ rfl; refine zP9 ?_; refine blk_put (cs := #[.int .i64 ((rd_T115 ((rd_T107 l0 x7_1).f1) x8_3).f0), .int .i64 ((rd_T115 ((rd_T107 l0 x7_1).f1) x8_3).f1), .int .i64 0, .int .i64 0, .int .i64 0]) ?_ 2 _ rfl; refine zP9 ?_; refine blk_put (cs := #[.int .i64 ((rd_T115 ((rd_T107 l0 x7_1).f1) x8_3).f0), .int .i64 0, .int .i64 0, .int .i64 0, .int .i64 0]) ?_ 1 _ rfl; refine zP9 ?_; refine blk_put (cs := #[.int .i64 0, .int .i64 0, .int .i64 0, .int .i64 0, .int .i64 0]) ?_ 0 _ rfl; refine zP9 ?_; exact BK250.out) hb); have n3_ := Aside0.mk (below_step (zB9_1) hb); clear HO_4; clear HO_6; clear BK250; clear HB; have HO_4 := n0_; have HO_6 := n1_; have BK250 := n2_; have HB := n3_; clear n0_ n1_ n2_ n3_; (try clear hb); (try clear hb2); (try clear hk); (try clear hi); obtain ⟨hcz40_0, hcz40_1, hcz40_2, hcz40_3, hcz40_4, hfz40_0, hfz40_1, hfz40_2, hfz40_3, hfz40_4⟩ := zc9_5 (w := w39) BK250.out) | ((with_reducible refine gate_callee (f := 99) rfl ?_); refine goesL_ (some 76) rfl rfl Try.func99 (by kernel_rfl) rfl #[.agg #[.int .i64 ((rd_T115 ((rd_T107 l0 x7_1).f1) x8_3).f0), .int .i64 ((rd_T115 ((rd_T107 l0 x7_1).f1) x8_3).f1), .int .i64 ((rd_T115 ((rd_T107 l0 x7_1).f1) x8_3).f2), .int .i64 ((rd_T115 ((rd_T107 l0 x7_1).f1) x8_3).f3), .int .i64 ((rd_T115 ((rd_T107 l0 x7_1).f1) x8_3).f4)]] rfl zT9 ?_; (with_reducible refine (spec_Code.calls ((rd_T115 ((rd_T107 l0 x7_1).f1) x8_3).f0) ((rd_T115 ((rd_T107 l0 x7_1).f1) x8_3).f1) ((rd_T115 ((rd_T107 l0 x7_1).f1) x8_3).f2) ((rd_T115 ((rd_T107 l0 x7_1).f1) x8_3).f3) ((rd_T115 ((rd_T107 l0 x7_1).f1) x8_3).f4) t265 t266 _ A35.out).mono ?_); rintro e w41 ⟨rfl, hb⟩; refine ⟨_, rfl, ?_⟩; have n0_ := Aside0.mk (Kd.R_below (zR9 HO_4.out) hb); have n1_ := Aside0.mk (Kd.R_below (zR9 HO_6.out) hb); have n2_ := Aside0.mk (blk_below (g := gb250) (o := .cells #[.int .i64 ((rd_T115 ((rd_T107 l0 x7_1).f1) x8_3).f0), .int .i64 ((rd_T115 ((rd_T107 l0 x7_1).f1) x8_3).f1), .int .i64 ((rd_T115 ((rd_T107 l0 x7_1).f1) x8_3).f2), .int .i64 ((rd_T115 ((rd_T107 l0 x7_1).f1) x8_3).f3), .int .i64 ((rd_T115 ((rd_T107 l0 x7_1).f1) x8_3).f4)] 115 (0, 0)) (zK9 BK250.out) hb); have n3_ := Aside0.mk (below_step (zB9_1) hb); clear HO_4; clear HO_6; clear BK250; clear HB; have HO_4 := n0_; have HO_6 := n1_; have BK250 := n2_; have HB := n3_; clear n0_ n1_ n2_ n3_; (try clear hb); (try clear hb2); (try clear hk); (try clear hi)) | ((with_reducible refine gate_builtin (b := .append) (xs := #[.tmp 79, .tmp 81]) rfl ?_); at_builtin; refine Kd.R_append (Kd.int .i64) (w0 := w) w.heap.size rfl (.tmp 79) (.tmp 81) 33 3 (.int .i64 0) 8 rfl Try.underlying33 info3 rfl (by decide) (by omega) u6 x6_3 t265 [.int .i64 t265] (fun k_ => some k_ ≠ (v242 : Value).ownBlock) (fun _ => False) rfl rfl ?aP (fun _ hk => hk.elim) ?aF ?aO ?aB ?aS ?aL ?_; (case aP => exact rfl); (case aB => exact (zB9_1)); (case aF => exact (fun k_ hk => Kd.fresh' (Kd.R_lt (zR9 HO_4.out)) k_ hk)); (case aO => exact (zR9 HO_6.out)); (case aS => exact (below_size (zB9_1))); (case aL => have := LMc36.out; omega); intro v268 w42 ho hb hg hat; rw [← Ny267.out] at ho; have n0_ := Aside0.mk (Kd.R_after (ok := (fun _ => True)) (by (with_reducible repeat (first | apply Kd.R_alloc | apply Kd.R_drewN | apply Kd.R_drew)); exact Kd.R_mono HO_4.out (fun _ hk => ⟨trivial, hk⟩)) hg hat); have n1_ := Aside0.mk (blk_grown (g := gb250) (o := .cells #[.int .i64 ((rd_T115 ((rd_T107 l0 x7_1).f1) x8_3).f0), .int .i64 ((rd_T115 ((rd_T107 l0 x7_1).f1) x8_3).f1), .int .i64 ((rd_T115 ((rd_T107 l0 x7_1).f1) x8_3).f2), .int .i64 ((rd_T115 ((rd_T107 l0 x7_1).f1) x8_3).f3), .int .i64 ((rd_T115 ((rd_T107 l0 x7_1).f1) x8_3).f4)] 115 (0, 0)) (zK9 BK250.out) hg (Kd.R_ne HO_6.out BK250.out (by decide))); have n2_ := Aside0.mk (hb); have n3_ := Aside0.mk (ho); clear HO_4; clear BK250; clear HB; clear HO_6; have HO_4 := n0_; have BK250 := n1_; have HB := n2_; have HO269 := n3_; clear n0_ n1_ n2_ n3_; clear ho hb hg hat))
        go_roundg k3
        case measure => have := HK1.out; have := HJ5.out; have := HK3.out; omega
        case rel => exact ⟨(y267), (wrap64 (x8_3 + 1)), (by first | rfl | (simp; done) | (simp [*]; done)), H', ⟨by have := HK1.out; have := HJ5.out; have := HK3.out; omega⟩, ⟨by (with_reducible repeat (first | apply Kd.R_alloc | apply Kd.R_drewN | apply Kd.R_drew)); exact Kd.R_mono HO_4.out (fun _ hk => hk.2)⟩, ⟨zR9 HO269.out⟩, ⟨zB9_1⟩⟩
       rw [if_pos c14] at H
       have c14b0 : decide (0 ≤ t252) = true := decide_eq_true c14
       clear c14
       by_cases c15 : 0 ≤ t252
       rotate_left
       ·rw [if_neg c15] at H
        exact absurd H (by simp)
       rw [if_pos c15] at H
       have c15b0 : decide (0 ≤ t252) = true := decide_eq_true c15
       clear c15
       by_cases c16 : t252 < (((rd_T107 l0 x7_1).f2).length : Int)
       rotate_left
       ·rw [if_neg c16] at H
        exact absurd H (by simp)
       rw [if_pos c16] at H
       have c16b0 : decide (t252 < (((rd_T107 l0 x7_1).f2).length : Int)) = true := decide_eq_true c16
       clear c16
       replace H := Option.bind_eq_some_iff.mp H
       obtain ⟨t255, A170, H⟩ := H
       replace H : (if t255 < 0 then (some ((([] : List Int)), false)) else (if 0 ≤ t255 then (if t255 < (t240.length : Int) then ((spec_Code.f ((rd_T115 ((rd_T107 l0 x7_1).f1) x8_3).f0) ((rd_T115 ((rd_T107 l0 x7_1).f1) x8_3).f1) ((rd_T115 ((rd_T107 l0 x7_1).f1) x8_3).f2) ((rd_T115 ((rd_T107 l0 x7_1).f1) x8_3).f3) (rd t240 t255)).bind fun bt260 => (if x6_3.length < 17592186044416 then (spec_Link.l1 k3 l0 t240 t241 (x6_3 ++ [bt260.1]) x7_1 (wrap64 (x8_3 + 1))) else (none))) else (none)) else (none))) = some (r1, r2) := H
       have A17 := Aside0.mk A170
       clear A170
       by_cases c18 : t255 < 0
       ·rw [if_pos c18] at H
        have c18b0 : decide (t255 < 0) = true := decide_eq_true c18
        clear c18
        obtain ⟨y256, hy256⟩ : ∃ y_ : List Int, y_ = (([] : List Int)) := ⟨_, rfl⟩
        replace H : (some (y256, false)) = some (r1, r2) := by first | (rw [hy256]; with_reducible exact H) | (have H2_ := (Option.bind_some _ _).symm.trans H; rw [hy256]; with_reducible exact H2_) | (have H2_ := (Option.bind_some _ _).symm.trans H; with_reducible exact H2_) | with_reducible exact H | (rw [hy256]; exact H) | exact H
        have Ny256 := Aside0.mk hy256
        clear hy256
        simp only [Option.some.injEq, Prod.mk.injEq] at H
        obtain ⟨rfl, rfl⟩ := H
        have p247 : 0 ≤ (x7_1 : Int) := zA9
        have q247 : x7_1 < (l0.length : Int) := zA9
        obtain ⟨ad247, A247_1, c247_1, A247_2, c247_2, e247, hx247_0, hx247_1, hx247_2, hl247_1, hi247_1, hl247_2, hi247_2⟩ := at_T107 HR0.out x7_1 p247 q247
        cases e247
        replace hx247_0 := (HB.out.cell (World.block_lt_of_cell? w _ hx247_0)).trans hx247_0
        replace hx247_1 := (HB.out.cell (World.block_lt_of_cell? w _ hx247_1)).trans hx247_1
        replace hx247_2 := (HB.out.cell (World.block_lt_of_cell? w _ hx247_2)).trans hx247_2
        have HR247_1 := Aside0.mk hi247_1
        have HC247_1 := Aside0.mk hl247_1
        clear hi247_1 hl247_1
        have HR247_2 := Aside0.mk hi247_2
        have HC247_2 := Aside0.mk hl247_2
        clear hi247_2 hl247_2
        replace p247 := eq_true p247
        replace q247 := eq_true q247
        have p248 : 0 ≤ (x7_1 : Int) := zA9
        have q248 : x7_1 < (l0.length : Int) := zA9
        obtain ⟨ad248, A248_1, c248_1, A248_2, c248_2, e248, hx248_0, hx248_1, hx248_2, hl248_1, hi248_1, hl248_2, hi248_2⟩ := at_T107 HR0.out x7_1 p248 q248
        obtain rfl : ad247 = ad248 := (by injection e248)
        replace hx248_0 := (HB.out.cell (World.block_lt_of_cell? w _ hx248_0)).trans hx248_0
        replace hx248_1 := (HB.out.cell (World.block_lt_of_cell? w _ hx248_1)).trans hx248_1
        replace hx248_2 := (HB.out.cell (World.block_lt_of_cell? w _ hx248_2)).trans hx248_2
        have HR248_1 := Aside0.mk hi248_1
        have HC248_1 := Aside0.mk hl248_1
        clear hi248_1 hl248_1
        have HR248_2 := Aside0.mk hi248_2
        have HC248_2 := Aside0.mk hl248_2
        clear hi248_2 hl248_2
        replace p248 := eq_true p248
        replace q248 := eq_true q248
        have ea_ := Option.some.inj (hx247_1.symm.trans hx248_1)
        injection ea_ with ea_ en_ ec_
        subst ea_
        subst ec_
        clear en_
        have ea_ := Option.some.inj (hx247_2.symm.trans hx248_2)
        injection ea_ with ea_ en_ ec_
        subst ea_
        subst ec_
        clear en_
        have p249 : 0 ≤ (x8_3 : Int) := zA9
        have q249 : x8_3 < (((rd_T107 l0 x7_1).f1).length : Int) := zA9
        obtain ⟨ad249, e249, hx249_0, hx249_1, hx249_2, hx249_3, hx249_4⟩ := at_T115 HR248_1.out x8_3 p249 q249
        cases e249
        replace hx249_0 := (HB.out.cell (World.block_lt_of_cell? w _ hx249_0)).trans hx249_0
        replace hx249_1 := (HB.out.cell (World.block_lt_of_cell? w _ hx249_1)).trans hx249_1
        replace hx249_2 := (HB.out.cell (World.block_lt_of_cell? w _ hx249_2)).trans hx249_2
        replace hx249_3 := (HB.out.cell (World.block_lt_of_cell? w _ hx249_3)).trans hx249_3
        replace hx249_4 := (HB.out.cell (World.block_lt_of_cell? w _ hx249_4)).trans hx249_4
        replace p249 := eq_true p249
        replace q249 := eq_true q249
        go_wp2_with (first | ((with_reducible refine gate_dst (N := 9) rfl ?_); refine box_event ?hg (N := 9) ?hd (cs := #[.int .i64 0, .int .i64 0, .int .i64 0, .int .i64 0, .int .i64 0]) (t := 115) ?hr ?_; (case hd => rfl); (case hg => rfl); (case hr => first | (go_simp; done) | (go_simp; rfl)); intro gb250 hg w19 hbox hb; have n0_ := Aside0.mk (Kd.R_below (zR9 HO_4.out) hb); have n1_ := Aside0.mk (Kd.R_below (zR9 HO_6.out) hb); have n2_ := Aside0.mk (below_step (zB9_0) hb); have n3_ := Aside0.mk (hbox); have n4_ := Aside0.mk ((by rw [hg]; exact (below_size (zB9_0)) : w.heap.size ≤ gb250)); have n5_ := Aside0.mk ((by rw [hg]; exact (below_size (zB9_0)) : w.heap.size ≤ gb250)); clear HO_4; clear HO_6; clear HB; have HO_4 := n0_; have HO_6 := n1_; have HB := n2_; have BK250 := n3_; have GW250 := n4_; have GE250 := n5_; clear n0_ n1_ n2_ n3_ n4_ n5_; clear hb hbox hg; obtain ⟨hcz20_0, hcz20_1, hcz20_2, hcz20_3, hcz20_4, hfz20_0, hfz20_1, hfz20_2, hfz20_3, hfz20_4⟩ := zc9_5 (w := w19) BK250.out; have p251 : 0 ≤ (x7_1 : Int) := zA9; have q251 : x7_1 < (l0.length : Int) := zA9; obtain ⟨ad251, A251_1, c251_1, A251_2, c251_2, e251, hx251_0, hx251_1, hx251_2, hl251_1, hi251_1, hl251_2, hi251_2⟩ := at_T107 HR0.out x7_1 p251 q251; obtain rfl : ad247 = ad251 := (by injection e251); have hn251_0 : ad247.block ≠ gb250 := Nat.ne_of_lt (Nat.lt_of_lt_of_le (by have := World.block_lt_of_cell? _ _ hx251_0; first | rwa [add_block] at this | exact this) GW250.out); have hn251_1 : ad247.block ≠ gb250 := Nat.ne_of_lt (Nat.lt_of_lt_of_le (by have := World.block_lt_of_cell? _ _ hx251_0; first | rwa [add_block] at this | exact this) GW250.out); have hn251_2 : ad247.block ≠ gb250 := Nat.ne_of_lt (Nat.lt_of_lt_of_le (by have := World.block_lt_of_cell? _ _ hx251_0; first | rwa [add_block] at this | exact this) GW250.out); have hn251_3 : ad247.block ≠ gb250 := Nat.ne_of_lt (Nat.lt_of_lt_of_le (by have := World.block_lt_of_cell? _ _ hx251_0; first | rwa [add_block] at this | exact this) GW250.out); have hn251_4 : ad247.block ≠ gb250 := Nat.ne_of_lt (Nat.lt_of_lt_of_le (by have := World.block_lt_of_cell? _ _ hx251_0; first | rwa [add_block] at this | exact this) GW250.out); replace hx251_0 := (HB.out.cell (World.block_lt_of_cell? w _ hx251_0)).trans hx251_0; replace hx251_1 := (HB.out.cell (World.block_lt_of_cell? w _ hx251_1)).trans hx251_1; replace hx251_2 := (HB.out.cell (World.block_lt_of_cell? w _ hx251_2)).trans hx251_2; have HR251_1 := Aside0.mk hi251_1; have HC251_1 := Aside0.mk hl251_1; clear hi251_1 hl251_1; have HR251_2 := Aside0.mk hi251_2; have HC251_2 := Aside0.mk hl251_2; clear hi251_2 hl251_2; replace hx251_0 := (cell_far (p := ⟨gb250, 0, none⟩) (by first | (rw [add_block]; exact hn251_0) | (show (Addr.add _ _).block ≠ _; rw [add_block]; exact hn251_0) | exact hn251_0) (.int .i64 ((rd_T115 ((rd_T107 l0 x7_1).f1) x8_3).f0))).trans hx251_0; replace hx251_1 := (cell_far (p := ⟨gb250, 0, none⟩) (by first | (rw [add_block]; exact hn251_0) | (show (Addr.add _ _).block ≠ _; rw [add_block]; exact hn251_0) | exact hn251_0) (.int .i64 ((rd_T115 ((rd_T107 l0 x7_1).f1) x8_3).f0))).trans hx251_1; replace hx251_2 := (cell_far (p := ⟨gb250, 0, none⟩) (by first | (rw [add_block]; exact hn251_0) | (show (Addr.add _ _).block ≠ _; rw [add_block]; exact hn251_0) | exact hn251_0) (.int .i64 ((rd_T115 ((rd_T107 l0 x7_1).f1) x8_3).f0))).trans hx251_2; replace hx251_0 := (cell_far (p := ⟨gb250, 1, none⟩) (by first | (rw [add_block]; exact hn251_1) | (show (Addr.add _ _).block ≠ _; rw [add_block]; exact hn251_1) | exact hn251_1) (.int .i64 ((rd_T115 ((rd_T107 l0 x7_1).f1) x8_3).f1))).trans hx251_0; replace hx251_1 := (cell_far (p := ⟨gb250, 1, none⟩) (by first | (rw [add_block]; exact hn251_1) | (show (Addr.add _ _).block ≠ _; rw [add_block]; exact hn251_1) | exact hn251_1) (.int .i64 ((rd_T115 ((rd_T107 l0 x7_1).f1) x8_3).f1))).trans hx251_1; replace hx251_2 := (cell_far (p := ⟨gb250, 1, none⟩) (by first | (rw [add_block]; exact hn251_1) | (show (Addr.add _ _).block ≠ _; rw [add_block]; exact hn251_1) | exact hn251_1) (.int .i64 ((rd_T115 ((rd_T107 l0 x7_1).f1) x8_3).f1))).trans hx251_2; replace hx251_0 := (cell_far (p := ⟨gb250, 2, none⟩) (by first | (rw [add_block]; exact hn251_2) | (show (Addr.add _ _).block ≠ _; rw [add_block]; exact hn251_2) | exact hn251_2) (.int .i64 ((rd_T115 ((rd_T107 l0 x7_1).f1) x8_3).f2))).trans hx251_0; replace hx251_1 := (cell_far (p := ⟨gb250, 2, none⟩) (by first | (rw [add_block]; exact hn251_2) | (show (Addr.add _ _).block ≠ _; rw [add_block]; exact hn251_2) | exact hn251_2) (.int .i64 ((rd_T115 ((rd_T107 l0 x7_1).f1) x8_3).f2))).trans hx251_1; replace hx251_2 := (cell_far (p := ⟨gb250, 2, none⟩) (by first | (rw [add_block]; exact hn251_2) | (show (Addr.add _ _).block ≠ _; rw [add_block]; exact hn251_2) | exact hn251_2) (.int .i64 ((rd_T115 ((rd_T107 l0 x7_1).f1) x8_3).f2))).trans hx251_2; replace hx251_0 := (cell_far (p := ⟨gb250, 3, none⟩) (by first | (rw [add_block]; exact hn251_3) | (show (Addr.add _ _).block ≠ _; rw [add_block]; exact hn251_3) | exact hn251_3) (.int .i64 ((rd_T115 ((rd_T107 l0 x7_1).f1) x8_3).f3))).trans hx251_0; replace hx251_1 := (cell_far (p := ⟨gb250, 3, none⟩) (by first | (rw [add_block]; exact hn251_3) | (show (Addr.add _ _).block ≠ _; rw [add_block]; exact hn251_3) | exact hn251_3) (.int .i64 ((rd_T115 ((rd_T107 l0 x7_1).f1) x8_3).f3))).trans hx251_1; replace hx251_2 := (cell_far (p := ⟨gb250, 3, none⟩) (by first | (rw [add_block]; exact hn251_3) | (show (Addr.add _ _).block ≠ _; rw [add_block]; exact hn251_3) | exact hn251_3) (.int .i64 ((rd_T115 ((rd_T107 l0 x7_1).f1) x8_3).f3))).trans hx251_2; replace hx251_0 := (cell_far (p := ⟨gb250, 4, none⟩) (by first | (rw [add_block]; exact hn251_4) | (show (Addr.add _ _).block ≠ _; rw [add_block]; exact hn251_4) | exact hn251_4) (.int .i64 ((rd_T115 ((rd_T107 l0 x7_1).f1) x8_3).f4))).trans hx251_0; replace hx251_1 := (cell_far (p := ⟨gb250, 4, none⟩) (by first | (rw [add_block]; exact hn251_4) | (show (Addr.add _ _).block ≠ _; rw [add_block]; exact hn251_4) | exact hn251_4) (.int .i64 ((rd_T115 ((rd_T107 l0 x7_1).f1) x8_3).f4))).trans hx251_1; replace hx251_2 := (cell_far (p := ⟨gb250, 4, none⟩) (by first | (rw [add_block]; exact hn251_4) | (show (Addr.add _ _).block ≠ _; rw [add_block]; exact hn251_4) | exact hn251_4) (.int .i64 ((rd_T115 ((rd_T107 l0 x7_1).f1) x8_3).f4))).trans hx251_2; clear hn251_0; clear hn251_1; clear hn251_2; clear hn251_3; clear hn251_4; replace p251 := eq_true p251; replace q251 := eq_true q251) | ((with_reducible refine gate_callee (f := 98) rfl ?_); refine goesL_ (some 52) rfl rfl Try.func98 (by kernel_rfl) rfl #[.agg #[.string ((rd_T107 l0 x7_1).f0), .slice A251_1 ((rd_T107 l0 x7_1).f1).length c251_1, .slice A251_2 ((rd_T107 l0 x7_1).f2).length c251_2], .int .i64 x8_3] rfl zT9 ?_; (with_reducible refine (spec_l27Ref.calls k3 ((rd_T107 l0 x7_1).f0) _ _ ((rd_T107 l0 x7_1).f1) _ _ ((rd_T107 l0 x7_1).f2) x8_3 t252 _ ?side1 ?side2 ?side3 ?side4 A13.out).mono ?_); (case side1 => exact Kd.C_below HR251_1.out (zB9_1)); (case side2 => exact HC251_1.out); (case side3 => exact Kd.C_below HR251_2.out (zB9_1)); (case side4 => exact HC251_2.out); rintro e w21 ⟨rfl, hb⟩; refine ⟨_, rfl, ?_⟩; have n0_ := Aside0.mk (Kd.R_below (by (with_reducible repeat (first | apply Kd.R_alloc | apply Kd.R_drewN | apply Kd.R_drew)); exact (Kd.R_mono (Kd.R_far (p := ⟨gb250, 4, none⟩) (Kd.R_far (p := ⟨gb250, 3, none⟩) (Kd.R_far (p := ⟨gb250, 2, none⟩) (Kd.R_far (p := ⟨gb250, 1, none⟩) (Kd.R_far (p := ⟨gb250, 0, none⟩) (Kd.R_types HO_4.out BK250.out (by decide)) (fun _ hk => hk.2) (.int .i64 ((rd_T115 ((rd_T107 l0 x7_1).f1) x8_3).f0))) (fun _ hk => hk.2) (.int .i64 ((rd_T115 ((rd_T107 l0 x7_1).f1) x8_3).f1))) (fun _ hk => hk.2) (.int .i64 ((rd_T115 ((rd_T107 l0 x7_1).f1) x8_3).f2))) (fun _ hk => hk.2) (.int .i64 ((rd_T115 ((rd_T107 l0 x7_1).f1) x8_3).f3))) (fun _ hk => hk.2) (.int .i64 ((rd_T115 ((rd_T107 l0 x7_1).f1) x8_3).f4))) (fun _ h_ => h_.1))) hb); have n1_ := Aside0.mk (Kd.R_below (by (with_reducible repeat (first | apply Kd.R_alloc | apply Kd.R_drewN | apply Kd.R_drew)); exact (Kd.R_mono (Kd.R_far (p := ⟨gb250, 4, none⟩) (Kd.R_far (p := ⟨gb250, 3, none⟩) (Kd.R_far (p := ⟨gb250, 2, none⟩) (Kd.R_far (p := ⟨gb250, 1, none⟩) (Kd.R_far (p := ⟨gb250, 0, none⟩) (Kd.R_types HO_6.out BK250.out (by decide)) (fun _ hk => hk.2) (.int .i64 ((rd_T115 ((rd_T107 l0 x7_1).f1) x8_3).f0))) (fun _ hk => hk.2) (.int .i64 ((rd_T115 ((rd_T107 l0 x7_1).f1) x8_3).f1))) (fun _ hk => hk.2) (.int .i64 ((rd_T115 ((rd_T107 l0 x7_1).f1) x8_3).f2))) (fun _ hk => hk.2) (.int .i64 ((rd_T115 ((rd_T107 l0 x7_1).f1) x8_3).f3))) (fun _ hk => hk.2) (.int .i64 ((rd_T115 ((rd_T107 l0 x7_1).f1) x8_3).f4))) (fun _ h_ => h_.1))) hb); have n2_ := Aside0.mk (blk_below (g := gb250) (o := .cells #[.int .i64 ((rd_T115 ((rd_T107 l0 x7_1).f1) x8_3).f0), .int .i64 ((rd_T115 ((rd_T107 l0 x7_1).f1) x8_3).f1), .int .i64 ((rd_T115 ((rd_T107 l0 x7_1).f1) x8_3).f2), .int .i64 ((rd_T115 ((rd_T107 l0 x7_1).f1) x8_3).f3), .int .i64 ((rd_T115 ((rd_T107 l0 x7_1).f1) x8_3).f4)] 115 (0, 0)) (by refine zP9 ?_; refine blk_put (cs := #[.int .i64 ((rd_T115 ((rd_T107 l0 x7_1).f1) x8_3).f0), .int .i64 ((rd_T115 ((rd_T107 l0 x7_1).f1) x8_3).f1), .int .i64 ((rd_T115 ((rd_T107 l0 x7_1).f1) x8_3).f2), .int .i64 ((rd_T115 ((rd_T107 l0 x7_1).f1) x8_3).f3), .int .i64 0]) ?_ 4 _ rfl; refine zP9 ?_; refine blk_put (cs := #[.int .i64 ((rd_T115 ((rd_T107 l0 x7_1).f1) x8_3).f0), .int .i64 ((rd_T115 ((rd_T107 l0 x7_1).f1) x8_3).f1), .int .i64 ((rd_T115 ((rd_T107 l0 x7_1).f1) x8_3).f2), .int .i64 0, .int .i64 0]) ?_ 3 _ rfl; refine zP9 ?_; refine blk_put (cs := #[.int .i64 ((rd_T115 ((rd_T107 l0 x7_1).f1) x8_3).f0), .int .i64 ((rd_T115 ((rd_T107 l0 x7_1).f1) x8_3).f1), .int .i64 0, .int .i64 0, .int .i64 0]) ?_ 2 _ rfl; refine zP9 ?_; refine blk_put (cs := #[.int .i64 ((rd_T115 ((rd_T107 l0 x7_1).f1) x8_3).f0), .int .i64 0, .int .i64 0, .int .i64 0, .int .i64 0]) ?_ 1 _ rfl; refine zP9 ?_; refine blk_put (cs := #[.int .i64 0, .int .i64 0, .int .i64 0, .int .i64 0, .int .i64 0]) ?_ 0 _ rfl; refine zP9 ?_; exact BK250.out) hb); have n3_ := Aside0.mk (below_step (zB9_1) hb); clear HO_4; clear HO_6; clear BK250; clear HB; have HO_4 := n0_; have HO_6 := n1_; have BK250 := n2_; have HB := n3_; clear n0_ n1_ n2_ n3_; (try clear hb); (try clear hb2); (try clear hk); (try clear hi); have p253 : 0 ≤ (x7_1 : Int) := zA9; have q253 : x7_1 < (l0.length : Int) := zA9; obtain ⟨ad253, A253_1, c253_1, A253_2, c253_2, e253, hx253_0, hx253_1, hx253_2, hl253_1, hi253_1, hl253_2, hi253_2⟩ := at_T107 HR0.out x7_1 p253 q253; obtain rfl : ad247 = ad253 := (by injection e253); replace hx253_0 := (HB.out.cell (World.block_lt_of_cell? w _ hx253_0)).trans hx253_0; replace hx253_1 := (HB.out.cell (World.block_lt_of_cell? w _ hx253_1)).trans hx253_1; replace hx253_2 := (HB.out.cell (World.block_lt_of_cell? w _ hx253_2)).trans hx253_2; have HR253_1 := Aside0.mk hi253_1; have HC253_1 := Aside0.mk hl253_1; clear hi253_1 hl253_1; have HR253_2 := Aside0.mk hi253_2; have HC253_2 := Aside0.mk hl253_2; clear hi253_2 hl253_2; replace p253 := eq_true p253; replace q253 := eq_true q253; have p254 : 0 ≤ (t252 : Int) := zA9; have q254 : t252 < (((rd_T107 l0 x7_1).f2).length : Int) := zA9; obtain ⟨ad254, e254, hx254_0, hx254_1⟩ := at_T118 HR253_2.out t252 p254 q254; cases e254; replace hx254_0 := (HB.out.cell (World.block_lt_of_cell? w _ hx254_0)).trans hx254_0; replace hx254_1 := (HB.out.cell (World.block_lt_of_cell? w _ hx254_1)).trans hx254_1; replace p254 := eq_true p254; replace q254 := eq_true q254) | ((with_reducible refine gate_callee (f := 90) rfl ?_); refine goesL_ (some 65) rfl rfl Try.func90 (by kernel_rfl) rfl #[.slice (some ad247) l0.length c0, .string ((rd_T118 ((rd_T107 l0 x7_1).f2) t252).f1)] rfl zT9 ?_; (with_reducible refine (spec_PartAt.calls k3 _ _ l0 ((rd_T118 ((rd_T107 l0 x7_1).f2) t252).f1) t255 _ ?side1 ?side2 A17.out).mono ?_); (case side1 => exact zC9 (Kd.C_below HR0.out HB.out)); (case side2 => exact HC0.out); rintro e w' ⟨rfl, ⟨nd, rfl⟩⟩; refine ⟨_, rfl, ?_⟩) | ((with_reducible refine gate_dst (N := 68) rfl ?_); refine Kd.R_lit (Kd.int .i64) _ 3 ?hg (N := 68) ?hd (xs := ([] : List Int)) (inner := []) (ok := fun _ => True) (okp := fun _ => True) ?hr ?hp (fun _ hk => hk) trivial (Below.refl _ _) (Nat.le_refl _) (by simp) ?_; (case hd => rfl); (case hg => rfl); (case hr => first | (go_simp; done) | (go_simp; rfl)); (case hp => exact (Reps.none _ _)); intro v257 w22 ho23 hb hg_ hnew_; clear hg_ hnew_; (first | rw [← Ny256.out] at ho23 | (simp only [Int.reduceToNat] at ho23; rw [← Ny256.out] at ho23)); have n0_ := Aside0.mk (Kd.R_elder' (zR9 HO_4.out) (Kd.R_base ho23) hb); have n1_ := Aside0.mk (Kd.R_elder' (zR9 HO_6.out) (Kd.R_base ho23) hb); have n2_ := Aside0.mk (Kd.R_lower (Kd.R_new' (Kd.R_new' ho23 (Kd.R_lt (zR9 HO_4.out))) (Kd.R_lt (zR9 HO_6.out))) (below_size (zB9_1))); have n3_ := Aside0.mk (blk_below (g := gb250) (o := .cells #[.int .i64 ((rd_T115 ((rd_T107 l0 x7_1).f1) x8_3).f0), .int .i64 ((rd_T115 ((rd_T107 l0 x7_1).f1) x8_3).f1), .int .i64 ((rd_T115 ((rd_T107 l0 x7_1).f1) x8_3).f2), .int .i64 ((rd_T115 ((rd_T107 l0 x7_1).f1) x8_3).f3), .int .i64 ((rd_T115 ((rd_T107 l0 x7_1).f1) x8_3).f4)] 115 (0, 0)) (zK9 BK250.out) hb); have n4_ := Aside0.mk (below_step (zB9_1) hb); clear HO_4; clear HO_6; clear BK250; clear HB; have HO_4 := n0_; have HO_6 := n1_; have HO258 := n2_; have BK250 := n3_; have HB := n4_; clear n0_ n1_ n2_ n3_ n4_; clear hb ho23))
        go_ret2
        exact ⟨_, zE9, by (with_reducible repeat (first | apply Kd.R_alloc | apply Kd.R_drewN | apply Kd.R_drew)); exact Kd.R_mono HO258.out (fun _ hk => trivial), zB9_1⟩
       rw [if_neg c18] at H
       have c18b0 : decide (t255 < 0) = false := decide_eq_false c18
       clear c18
       by_cases c24 : 0 ≤ t255
       rotate_left
       ·rw [if_neg c24] at H
        exact absurd H (by simp)
       rw [if_pos c24] at H
       have c24b0 : decide (0 ≤ t255) = true := decide_eq_true c24
       clear c24
       by_cases c25 : t255 < (t240.length : Int)
       rotate_left
       ·rw [if_neg c25] at H
        exact absurd H (by simp)
       rw [if_pos c25] at H
       have c25b0 : decide (t255 < (t240.length : Int)) = true := decide_eq_true c25
       clear c25
       replace H := Option.bind_eq_some_iff.mp H
       obtain ⟨⟨t260, t261⟩, A260, H⟩ := H
       replace H : (if x6_3.length < 17592186044416 then (spec_Link.l1 k3 l0 t240 t241 (x6_3 ++ [t260]) x7_1 (wrap64 (x8_3 + 1))) else (none)) = some (r1, r2) := H
       have A26 := Aside0.mk A260
       clear A260
       by_cases c27 : x6_3.length < 17592186044416
       rotate_left
       ·rw [if_neg c27] at H
        exact absurd H (by simp)
       rw [if_pos c27] at H
       have LMc27 := Aside0.mk c27
       clear c27
       obtain ⟨y262, hy262⟩ : ∃ y_ : List Int, y_ = (x6_3 ++ [t260]) := ⟨_, rfl⟩
       replace H : (spec_Link.l1 k3 l0 t240 t241 y262 x7_1 (wrap64 (x8_3 + 1))) = some (r1, r2) := by first | (rw [hy262]; with_reducible exact H) | (have H2_ := (Option.bind_some _ _).symm.trans H; rw [hy262]; with_reducible exact H2_) | (have H2_ := (Option.bind_some _ _).symm.trans H; with_reducible exact H2_) | with_reducible exact H | (rw [hy262]; exact H) | exact H
       have Ny262 := Aside0.mk hy262
       clear hy262
       have H' := Aside0.mk H
       clear H
       have p247 : 0 ≤ (x7_1 : Int) := zA9
       have q247 : x7_1 < (l0.length : Int) := zA9
       obtain ⟨ad247, A247_1, c247_1, A247_2, c247_2, e247, hx247_0, hx247_1, hx247_2, hl247_1, hi247_1, hl247_2, hi247_2⟩ := at_T107 HR0.out x7_1 p247 q247
       cases e247
       replace hx247_0 := (HB.out.cell (World.block_lt_of_cell? w _ hx247_0)).trans hx247_0
       replace hx247_1 := (HB.out.cell (World.block_lt_of_cell? w _ hx247_1)).trans hx247_1
       replace hx247_2 := (HB.out.cell (World.block_lt_of_cell? w _ hx247_2)).trans hx247_2
       have HR247_1 := Aside0.mk hi247_1
       have HC247_1 := Aside0.mk hl247_1
       clear hi247_1 hl247_1
       have HR247_2 := Aside0.mk hi247_2
       have HC247_2 := Aside0.mk hl247_2
       clear hi247_2 hl247_2
       replace p247 := eq_true p247
       replace q247 := eq_true q247
       have p248 : 0 ≤ (x7_1 : Int) := zA9
       have q248 : x7_1 < (l0.length : Int) := zA9
       obtain ⟨ad248, A248_1, c248_1, A248_2, c248_2, e248, hx248_0, hx248_1, hx248_2, hl248_1, hi248_1, hl248_2, hi248_2⟩ := at_T107 HR0.out x7_1 p248 q248
       obtain rfl : ad247 = ad248 := (by injection e248)
       replace hx248_0 := (HB.out.cell (World.block_lt_of_cell? w _ hx248_0)).trans hx248_0
       replace hx248_1 := (HB.out.cell (World.block_lt_of_cell? w _ hx248_1)).trans hx248_1
       replace hx248_2 := (HB.out.cell (World.block_lt_of_cell? w _ hx248_2)).trans hx248_2
       have HR248_1 := Aside0.mk hi248_1
       have HC248_1 := Aside0.mk hl248_1
       clear hi248_1 hl248_1
       have HR248_2 := Aside0.mk hi248_2
       have HC248_2 := Aside0.mk hl248_2
       clear hi248_2 hl248_2
       replace p248 := eq_true p248
       replace q248 := eq_true q248
       have ea_ := Option.some.inj (hx247_1.symm.trans hx248_1)
       injection ea_ with ea_ en_ ec_
       subst ea_
       subst ec_
       clear en_
       have ea_ := Option.some.inj (hx247_2.symm.trans hx248_2)
       injection ea_ with ea_ en_ ec_
       subst ea_
       subst ec_
       clear en_
       have p249 : 0 ≤ (x8_3 : Int) := zA9
       have q249 : x8_3 < (((rd_T107 l0 x7_1).f1).length : Int) := zA9
       obtain ⟨ad249, e249, hx249_0, hx249_1, hx249_2, hx249_3, hx249_4⟩ := at_T115 HR248_1.out x8_3 p249 q249
       cases e249
       replace hx249_0 := (HB.out.cell (World.block_lt_of_cell? w _ hx249_0)).trans hx249_0
       replace hx249_1 := (HB.out.cell (World.block_lt_of_cell? w _ hx249_1)).trans hx249_1
       replace hx249_2 := (HB.out.cell (World.block_lt_of_cell? w _ hx249_2)).trans hx249_2
       replace hx249_3 := (HB.out.cell (World.block_lt_of_cell? w _ hx249_3)).trans hx249_3
       replace hx249_4 := (HB.out.cell (World.block_lt_of_cell? w _ hx249_4)).trans hx249_4
       replace p249 := eq_true p249
       replace q249 := eq_true q249
       go_wp2_with (first | ((with_reducible refine gate_dst (N := 9) rfl ?_); refine box_event ?hg (N := 9) ?hd (cs := #[.int .i64 0, .int .i64 0, .int .i64 0, .int .i64 0, .int .i64 0]) (t := 115) ?hr ?_; (case hd => rfl); (case hg => rfl); (case hr => first | (go_simp; done) | (go_simp; rfl)); intro gb250 hg w28 hbox hb; have n0_ := Aside0.mk (Kd.R_below (zR9 HO_4.out) hb); have n1_ := Aside0.mk (Kd.R_below (zR9 HO_6.out) hb); have n2_ := Aside0.mk (below_step (zB9_0) hb); have n3_ := Aside0.mk (hbox); have n4_ := Aside0.mk ((by rw [hg]; exact (below_size (zB9_0)) : w.heap.size ≤ gb250)); have n5_ := Aside0.mk ((by rw [hg]; exact (below_size (zB9_0)) : w.heap.size ≤ gb250)); clear HO_4; clear HO_6; clear HB; have HO_4 := n0_; have HO_6 := n1_; have HB := n2_; have BK250 := n3_; have GW250 := n4_; have GE250 := n5_; clear n0_ n1_ n2_ n3_ n4_ n5_; clear hb hbox hg; obtain ⟨hcz29_0, hcz29_1, hcz29_2, hcz29_3, hcz29_4, hfz29_0, hfz29_1, hfz29_2, hfz29_3, hfz29_4⟩ := zc9_5 (w := w28) BK250.out; have p251 : 0 ≤ (x7_1 : Int) := zA9; have q251 : x7_1 < (l0.length : Int) := zA9; obtain ⟨ad251, A251_1, c251_1, A251_2, c251_2, e251, hx251_0, hx251_1, hx251_2, hl251_1, hi251_1, hl251_2, hi251_2⟩ := at_T107 HR0.out x7_1 p251 q251; obtain rfl : ad247 = ad251 := (by injection e251); have hn251_0 : ad247.block ≠ gb250 := Nat.ne_of_lt (Nat.lt_of_lt_of_le (by have := World.block_lt_of_cell? _ _ hx251_0; first | rwa [add_block] at this | exact this) GW250.out); have hn251_1 : ad247.block ≠ gb250 := Nat.ne_of_lt (Nat.lt_of_lt_of_le (by have := World.block_lt_of_cell? _ _ hx251_0; first | rwa [add_block] at this | exact this) GW250.out); have hn251_2 : ad247.block ≠ gb250 := Nat.ne_of_lt (Nat.lt_of_lt_of_le (by have := World.block_lt_of_cell? _ _ hx251_0; first | rwa [add_block] at this | exact this) GW250.out); have hn251_3 : ad247.block ≠ gb250 := Nat.ne_of_lt (Nat.lt_of_lt_of_le (by have := World.block_lt_of_cell? _ _ hx251_0; first | rwa [add_block] at this | exact this) GW250.out); have hn251_4 : ad247.block ≠ gb250 := Nat.ne_of_lt (Nat.lt_of_lt_of_le (by have := World.block_lt_of_cell? _ _ hx251_0; first | rwa [add_block] at this | exact this) GW250.out); replace hx251_0 := (HB.out.cell (World.block_lt_of_cell? w _ hx251_0)).trans hx251_0; replace hx251_1 := (HB.out.cell (World.block_lt_of_cell? w _ hx251_1)).trans hx251_1; replace hx251_2 := (HB.out.cell (World.block_lt_of_cell? w _ hx251_2)).trans hx251_2; have HR251_1 := Aside0.mk hi251_1; have HC251_1 := Aside0.mk hl251_1; clear hi251_1 hl251_1; have HR251_2 := Aside0.mk hi251_2; have HC251_2 := Aside0.mk hl251_2; clear hi251_2 hl251_2; replace hx251_0 := (cell_far (p := ⟨gb250, 0, none⟩) (by first | (rw [add_block]; exact hn251_0) | (show (Addr.add _ _).block ≠ _; rw [add_block]; exact hn251_0) | exact hn251_0) (.int .i64 ((rd_T115 ((rd_T107 l0 x7_1).f1) x8_3).f0))).trans hx251_0; replace hx251_1 := (cell_far (p := ⟨gb250, 0, none⟩) (by first | (rw [add_block]; exact hn251_0) | (show (Addr.add _ _).block ≠ _; rw [add_block]; exact hn251_0) | exact hn251_0) (.int .i64 ((rd_T115 ((rd_T107 l0 x7_1).f1) x8_3).f0))).trans hx251_1; replace hx251_2 := (cell_far (p := ⟨gb250, 0, none⟩) (by first | (rw [add_block]; exact hn251_0) | (show (Addr.add _ _).block ≠ _; rw [add_block]; exact hn251_0) | exact hn251_0) (.int .i64 ((rd_T115 ((rd_T107 l0 x7_1).f1) x8_3).f0))).trans hx251_2; replace hx251_0 := (cell_far (p := ⟨gb250, 1, none⟩) (by first | (rw [add_block]; exact hn251_1) | (show (Addr.add _ _).block ≠ _; rw [add_block]; exact hn251_1) | exact hn251_1) (.int .i64 ((rd_T115 ((rd_T107 l0 x7_1).f1) x8_3).f1))).trans hx251_0; replace hx251_1 := (cell_far (p := ⟨gb250, 1, none⟩) (by first | (rw [add_block]; exact hn251_1) | (show (Addr.add _ _).block ≠ _; rw [add_block]; exact hn251_1) | exact hn251_1) (.int .i64 ((rd_T115 ((rd_T107 l0 x7_1).f1) x8_3).f1))).trans hx251_1; replace hx251_2 := (cell_far (p := ⟨gb250, 1, none⟩) (by first | (rw [add_block]; exact hn251_1) | (show (Addr.add _ _).block ≠ _; rw [add_block]; exact hn251_1) | exact hn251_1) (.int .i64 ((rd_T115 ((rd_T107 l0 x7_1).f1) x8_3).f1))).trans hx251_2; replace hx251_0 := (cell_far (p := ⟨gb250, 2, none⟩) (by first | (rw [add_block]; exact hn251_2) | (show (Addr.add _ _).block ≠ _; rw [add_block]; exact hn251_2) | exact hn251_2) (.int .i64 ((rd_T115 ((rd_T107 l0 x7_1).f1) x8_3).f2))).trans hx251_0; replace hx251_1 := (cell_far (p := ⟨gb250, 2, none⟩) (by first | (rw [add_block]; exact hn251_2) | (show (Addr.add _ _).block ≠ _; rw [add_block]; exact hn251_2) | exact hn251_2) (.int .i64 ((rd_T115 ((rd_T107 l0 x7_1).f1) x8_3).f2))).trans hx251_1; replace hx251_2 := (cell_far (p := ⟨gb250, 2, none⟩) (by first | (rw [add_block]; exact hn251_2) | (show (Addr.add _ _).block ≠ _; rw [add_block]; exact hn251_2) | exact hn251_2) (.int .i64 ((rd_T115 ((rd_T107 l0 x7_1).f1) x8_3).f2))).trans hx251_2; replace hx251_0 := (cell_far (p := ⟨gb250, 3, none⟩) (by first | (rw [add_block]; exact hn251_3) | (show (Addr.add _ _).block ≠ _; rw [add_block]; exact hn251_3) | exact hn251_3) (.int .i64 ((rd_T115 ((rd_T107 l0 x7_1).f1) x8_3).f3))).trans hx251_0; replace hx251_1 := (cell_far (p := ⟨gb250, 3, none⟩) (by first | (rw [add_block]; exact hn251_3) | (show (Addr.add _ _).block ≠ _; rw [add_block]; exact hn251_3) | exact hn251_3) (.int .i64 ((rd_T115 ((rd_T107 l0 x7_1).f1) x8_3).f3))).trans hx251_1; replace hx251_2 := (cell_far (p := ⟨gb250, 3, none⟩) (by first | (rw [add_block]; exact hn251_3) | (show (Addr.add _ _).block ≠ _; rw [add_block]; exact hn251_3) | exact hn251_3) (.int .i64 ((rd_T115 ((rd_T107 l0 x7_1).f1) x8_3).f3))).trans hx251_2; replace hx251_0 := (cell_far (p := ⟨gb250, 4, none⟩) (by first | (rw [add_block]; exact hn251_4) | (show (Addr.add _ _).block ≠ _; rw [add_block]; exact hn251_4) | exact hn251_4) (.int .i64 ((rd_T115 ((rd_T107 l0 x7_1).f1) x8_3).f4))).trans hx251_0; replace hx251_1 := (cell_far (p := ⟨gb250, 4, none⟩) (by first | (rw [add_block]; exact hn251_4) | (show (Addr.add _ _).block ≠ _; rw [add_block]; exact hn251_4) | exact hn251_4) (.int .i64 ((rd_T115 ((rd_T107 l0 x7_1).f1) x8_3).f4))).trans hx251_1; replace hx251_2 := (cell_far (p := ⟨gb250, 4, none⟩) (by first | (rw [add_block]; exact hn251_4) | (show (Addr.add _ _).block ≠ _; rw [add_block]; exact hn251_4) | exact hn251_4) (.int .i64 ((rd_T115 ((rd_T107 l0 x7_1).f1) x8_3).f4))).trans hx251_2; clear hn251_0; clear hn251_1; clear hn251_2; clear hn251_3; clear hn251_4; replace p251 := eq_true p251; replace q251 := eq_true q251) | ((with_reducible refine gate_callee (f := 98) rfl ?_); refine goesL_ (some 52) rfl rfl Try.func98 (by kernel_rfl) rfl #[.agg #[.string ((rd_T107 l0 x7_1).f0), .slice A251_1 ((rd_T107 l0 x7_1).f1).length c251_1, .slice A251_2 ((rd_T107 l0 x7_1).f2).length c251_2], .int .i64 x8_3] rfl zT9 ?_; (with_reducible refine (spec_l27Ref.calls k3 ((rd_T107 l0 x7_1).f0) _ _ ((rd_T107 l0 x7_1).f1) _ _ ((rd_T107 l0 x7_1).f2) x8_3 t252 _ ?side1 ?side2 ?side3 ?side4 A13.out).mono ?_); (case side1 => exact Kd.C_below HR251_1.out (zB9_1)); (case side2 => exact HC251_1.out); (case side3 => exact Kd.C_below HR251_2.out (zB9_1)); (case side4 => exact HC251_2.out); rintro e w30 ⟨rfl, hb⟩; refine ⟨_, rfl, ?_⟩; have n0_ := Aside0.mk (Kd.R_below (by (with_reducible repeat (first | apply Kd.R_alloc | apply Kd.R_drewN | apply Kd.R_drew)); exact (Kd.R_mono (Kd.R_far (p := ⟨gb250, 4, none⟩) (Kd.R_far (p := ⟨gb250, 3, none⟩) (Kd.R_far (p := ⟨gb250, 2, none⟩) (Kd.R_far (p := ⟨gb250, 1, none⟩) (Kd.R_far (p := ⟨gb250, 0, none⟩) (Kd.R_types HO_4.out BK250.out (by decide)) (fun _ hk => hk.2) (.int .i64 ((rd_T115 ((rd_T107 l0 x7_1).f1) x8_3).f0))) (fun _ hk => hk.2) (.int .i64 ((rd_T115 ((rd_T107 l0 x7_1).f1) x8_3).f1))) (fun _ hk => hk.2) (.int .i64 ((rd_T115 ((rd_T107 l0 x7_1).f1) x8_3).f2))) (fun _ hk => hk.2) (.int .i64 ((rd_T115 ((rd_T107 l0 x7_1).f1) x8_3).f3))) (fun _ hk => hk.2) (.int .i64 ((rd_T115 ((rd_T107 l0 x7_1).f1) x8_3).f4))) (fun _ h_ => h_.1))) hb); have n1_ := Aside0.mk (Kd.R_below (by (with_reducible repeat (first | apply Kd.R_alloc | apply Kd.R_drewN | apply Kd.R_drew)); exact (Kd.R_mono (Kd.R_far (p := ⟨gb250, 4, none⟩) (Kd.R_far (p := ⟨gb250, 3, none⟩) (Kd.R_far (p := ⟨gb250, 2, none⟩) (Kd.R_far (p := ⟨gb250, 1, none⟩) (Kd.R_far (p := ⟨gb250, 0, none⟩) (Kd.R_types HO_6.out BK250.out (by decide)) (fun _ hk => hk.2) (.int .i64 ((rd_T115 ((rd_T107 l0 x7_1).f1) x8_3).f0))) (fun _ hk => hk.2) (.int .i64 ((rd_T115 ((rd_T107 l0 x7_1).f1) x8_3).f1))) (fun _ hk => hk.2) (.int .i64 ((rd_T115 ((rd_T107 l0 x7_1).f1) x8_3).f2))) (fun _ hk => hk.2) (.int .i64 ((rd_T115 ((rd_T107 l0 x7_1).f1) x8_3).f3))) (fun _ hk => hk.2) (.int .i64 ((rd_T115 ((rd_T107 l0 x7_1).f1) x8_3).f4))) (fun _ h_ => h_.1))) hb); have n2_ := Aside0.mk (blk_below (g := gb250) (o := .cells #[.int .i64 ((rd_T115 ((rd_T107 l0 x7_1).f1) x8_3).f0), .int .i64 ((rd_T115 ((rd_T107 l0 x7_1).f1) x8_3).f1), .int .i64 ((rd_T115 ((rd_T107 l0 x7_1).f1) x8_3).f2), .int .i64 ((rd_T115 ((rd_T107 l0 x7_1).f1) x8_3).f3), .int .i64 ((rd_T115 ((rd_T107 l0 x7_1).f1) x8_3).f4)] 115 (0, 0)) (by refine zP9 ?_; refine blk_put (cs := #[.int .i64 ((rd_T115 ((rd_T107 l0 x7_1).f1) x8_3).f0), .int .i64 ((rd_T115 ((rd_T107 l0 x7_1).f1) x8_3).f1), .int .i64 ((rd_T115 ((rd_T107 l0 x7_1).f1) x8_3).f2), .int .i64 ((rd_T115 ((rd_T107 l0 x7_1).f1) x8_3).f3), .int .i64 0]) ?_ 4 _ rfl; refine zP9 ?_; refine blk_put (cs := #[.int .i64 ((rd_T115 ((rd_T107 l0 x7_1).f1) x8_3).f0), .int .i64 ((rd_T115 ((rd_T107 l0 x7_1).f1) x8_3).f1), .int .i64 ((rd_T115 ((rd_T107 l0 x7_1).f1) x8_3).f2), .int .i64 0, .int .i64 0]) ?_ 3 _ rfl; refine zP9 ?_; refine blk_put (cs := #[.int .i64 ((rd_T115 ((rd_T107 l0 x7_1).f1) x8_3).f0), .int .i64 ((rd_T115 ((rd_T107 l0 x7_1).f1) x8_3).f1), .int .i64 0, .int .i64 0, .int .i64 0]) ?_ 2 _ rfl; refine zP9 ?_; refine blk_put (cs := #[.int .i64 ((rd_T115 ((rd_T107 l0 x7_1).f1) x8_3).f0), .int .i64 0, .int .i64 0, .int .i64 0, .int .i64 0]) ?_ 1 _ rfl; refine zP9 ?_; refine blk_put (cs := #[.int .i64 0, .int .i64 0, .int .i64 0, .int .i64 0, .int .i64 0]) ?_ 0 _ rfl; refine zP9 ?_; exact BK250.out) hb); have n3_ := Aside0.mk (below_step (zB9_1) hb); clear HO_4; clear HO_6; clear BK250; clear HB; have HO_4 := n0_; have HO_6 := n1_; have BK250 := n2_; have HB := n3_; clear n0_ n1_ n2_ n3_; (try clear hb); (try clear hb2); (try clear hk); (try clear hi); have p253 : 0 ≤ (x7_1 : Int) := zA9; have q253 : x7_1 < (l0.length : Int) := zA9; obtain ⟨ad253, A253_1, c253_1, A253_2, c253_2, e253, hx253_0, hx253_1, hx253_2, hl253_1, hi253_1, hl253_2, hi253_2⟩ := at_T107 HR0.out x7_1 p253 q253; obtain rfl : ad247 = ad253 := (by injection e253); replace hx253_0 := (HB.out.cell (World.block_lt_of_cell? w _ hx253_0)).trans hx253_0; replace hx253_1 := (HB.out.cell (World.block_lt_of_cell? w _ hx253_1)).trans hx253_1; replace hx253_2 := (HB.out.cell (World.block_lt_of_cell? w _ hx253_2)).trans hx253_2; have HR253_1 := Aside0.mk hi253_1; have HC253_1 := Aside0.mk hl253_1; clear hi253_1 hl253_1; have HR253_2 := Aside0.mk hi253_2; have HC253_2 := Aside0.mk hl253_2; clear hi253_2 hl253_2; replace p253 := eq_true p253; replace q253 := eq_true q253; have p254 : 0 ≤ (t252 : Int) := zA9; have q254 : t252 < (((rd_T107 l0 x7_1).f2).length : Int) := zA9; obtain ⟨ad254, e254, hx254_0, hx254_1⟩ := at_T118 HR253_2.out t252 p254 q254; cases e254; replace hx254_0 := (HB.out.cell (World.block_lt_of_cell? w _ hx254_0)).trans hx254_0; replace hx254_1 := (HB.out.cell (World.block_lt_of_cell? w _ hx254_1)).trans hx254_1; replace p254 := eq_true p254; replace q254 := eq_true q254) | ((with_reducible refine gate_callee (f := 90) rfl ?_); refine goesL_ (some 65) rfl rfl Try.func90 (by kernel_rfl) rfl #[.slice (some ad247) l0.length c0, .string ((rd_T118 ((rd_T107 l0 x7_1).f2) t252).f1)] rfl zT9 ?_; (with_reducible refine (spec_PartAt.calls k3 _ _ l0 ((rd_T118 ((rd_T107 l0 x7_1).f2) t252).f1) t255 _ ?side1 ?side2 A17.out).mono ?_); (case side1 => exact zC9 (Kd.C_below HR0.out HB.out)); (case side2 => exact HC0.out); rintro e w' ⟨rfl, ⟨nd, rfl⟩⟩; refine ⟨_, rfl, ?_⟩; (try (rw [drewN_self w30]; generalize hq_ : World.drewN w30 _ = w30; have n0_ : Aside0 (Kd.R (Kd.int .i64) 3 w30 w.heap.size (fun k_ => some k_ ≠ (u6 : Value).ownBlock) v242 t240) := ⟨by rw [← hq_]; exact (zR9 HO_4.out)⟩; have n1_ : Aside0 (Kd.R (Kd.int .i64) 3 w30 w.heap.size (fun k_ => some k_ ≠ (v242 : Value).ownBlock) u6 x6_3) := ⟨by rw [← hq_]; exact (zR9 HO_6.out)⟩; have n2_ : Aside0 (w30.heap[gb250]? = some (.cells #[.int .i64 ((rd_T115 ((rd_T107 l0 x7_1).f1) x8_3).f0), .int .i64 ((rd_T115 ((rd_T107 l0 x7_1).f1) x8_3).f1), .int .i64 ((rd_T115 ((rd_T107 l0 x7_1).f1) x8_3).f2), .int .i64 ((rd_T115 ((rd_T107 l0 x7_1).f1) x8_3).f3), .int .i64 ((rd_T115 ((rd_T107 l0 x7_1).f1) x8_3).f4)] 115 (0, 0))) := ⟨by rw [← hq_]; exact (zK9 BK250.out)⟩; have n3_ : Aside0 (Below w.heap.size w w30) := ⟨by rw [← hq_]; exact (zB9_1)⟩; clear HO_4 HO_6 BK250 HB hq_; have HO_4 := n0_; have HO_6 := n1_; have BK250 := n2_; have HB := n3_; clear n0_ n1_ n2_ n3_)); obtain ⟨Ao31, co31, eo31⟩ := Kd.R_slice HO_4.out; subst eo31; have p259 : 0 ≤ (t255 : Int) := zA9; have q259 : t255 < (t240.length : Int) := zA9; obtain ⟨ad259, e259, hx259_0⟩ := Kd.at_int (Kd.R_reads' HO_4.out).2.2 t255 p259 q259; cases e259; replace p259 := eq_true p259; replace q259 := eq_true q259; obtain ⟨hcz32_0, hcz32_1, hcz32_2, hcz32_3, hcz32_4, hfz32_0, hfz32_1, hfz32_2, hfz32_3, hfz32_4⟩ := zc9_5 (w := w30) BK250.out) | ((with_reducible refine gate_callee (f := 99) rfl ?_); refine goesL_ (some 76) rfl rfl Try.func99 (by kernel_rfl) rfl #[.agg #[.int .i64 ((rd_T115 ((rd_T107 l0 x7_1).f1) x8_3).f0), .int .i64 ((rd_T115 ((rd_T107 l0 x7_1).f1) x8_3).f1), .int .i64 ((rd_T115 ((rd_T107 l0 x7_1).f1) x8_3).f2), .int .i64 ((rd_T115 ((rd_T107 l0 x7_1).f1) x8_3).f3), .int .i64 (rd t240 t255)]] rfl zT9 ?_; (with_reducible refine (spec_Code.calls ((rd_T115 ((rd_T107 l0 x7_1).f1) x8_3).f0) ((rd_T115 ((rd_T107 l0 x7_1).f1) x8_3).f1) ((rd_T115 ((rd_T107 l0 x7_1).f1) x8_3).f2) ((rd_T115 ((rd_T107 l0 x7_1).f1) x8_3).f3) (rd t240 t255) t260 t261 _ A26.out).mono ?_); rintro e w33 ⟨rfl, hb⟩; refine ⟨_, rfl, ?_⟩; have n0_ := Aside0.mk (Kd.R_below (by (with_reducible repeat (first | apply Kd.R_alloc | apply Kd.R_drewN | apply Kd.R_drew)); exact (Kd.R_mono (Kd.R_far (p := ⟨gb250, 4, none⟩) (Kd.R_types HO_4.out BK250.out (by decide)) (fun _ hk => hk.2) (.int .i64 (rd t240 t255))) (fun _ h_ => h_.1))) hb); have n1_ := Aside0.mk (Kd.R_below (by (with_reducible repeat (first | apply Kd.R_alloc | apply Kd.R_drewN | apply Kd.R_drew)); exact (Kd.R_mono (Kd.R_far (p := ⟨gb250, 4, none⟩) (Kd.R_types HO_6.out BK250.out (by decide)) (fun _ hk => hk.2) (.int .i64 (rd t240 t255))) (fun _ h_ => h_.1))) hb); have n2_ := Aside0.mk (blk_below (g := gb250) (o := .cells #[.int .i64 ((rd_T115 ((rd_T107 l0 x7_1).f1) x8_3).f0), .int .i64 ((rd_T115 ((rd_T107 l0 x7_1).f1) x8_3).f1), .int .i64 ((rd_T115 ((rd_T107 l0 x7_1).f1) x8_3).f2), .int .i64 ((rd_T115 ((rd_T107 l0 x7_1).f1) x8_3).f3), .int .i64 (rd t240 t255)] 115 (0, 0)) (by refine zP9 ?_; refine blk_put (cs := #[.int .i64 ((rd_T115 ((rd_T107 l0 x7_1).f1) x8_3).f0), .int .i64 ((rd_T115 ((rd_T107 l0 x7_1).f1) x8_3).f1), .int .i64 ((rd_T115 ((rd_T107 l0 x7_1).f1) x8_3).f2), .int .i64 ((rd_T115 ((rd_T107 l0 x7_1).f1) x8_3).f3), .int .i64 ((rd_T115 ((rd_T107 l0 x7_1).f1) x8_3).f4)]) ?_ 4 _ rfl; refine zP9 ?_; exact BK250.out) hb); have n3_ := Aside0.mk (below_step (zB9_1) hb); clear HO_4; clear HO_6; clear BK250; clear HB; have HO_4 := n0_; have HO_6 := n1_; have BK250 := n2_; have HB := n3_; clear n0_ n1_ n2_ n3_; (try clear hb); (try clear hb2); (try clear hk); (try clear hi)) | ((with_reducible refine gate_builtin (b := .append) (xs := #[.tmp 79, .tmp 81]) rfl ?_); at_builtin; refine Kd.R_append (Kd.int .i64) (w0 := w) w.heap.size rfl (.tmp 79) (.tmp 81) 33 3 (.int .i64 0) 8 rfl Try.underlying33 info3 rfl (by decide) (by omega) u6 x6_3 t260 [.int .i64 t260] (fun k_ => some k_ ≠ (.slice (some ad259) t240.length co31 : Value).ownBlock) (fun _ => False) rfl rfl ?aP (fun _ hk => hk.elim) ?aF ?aO ?aB ?aS ?aL ?_; (case aP => exact rfl); (case aB => exact (zB9_1)); (case aF => exact (fun k_ hk => Kd.fresh' (Kd.R_lt (zR9 HO_4.out)) k_ hk)); (case aO => exact (zR9 HO_6.out)); (case aS => exact (below_size (zB9_1))); (case aL => have := LMc27.out; omega); intro v263 w34 ho hb hg hat; rw [← Ny262.out] at ho; have n0_ := Aside0.mk (Kd.R_after (ok := (fun _ => True)) (by (with_reducible repeat (first | apply Kd.R_alloc | apply Kd.R_drewN | apply Kd.R_drew)); exact Kd.R_mono HO_4.out (fun _ hk => ⟨trivial, hk⟩)) hg hat); have n1_ := Aside0.mk (blk_grown (g := gb250) (o := .cells #[.int .i64 ((rd_T115 ((rd_T107 l0 x7_1).f1) x8_3).f0), .int .i64 ((rd_T115 ((rd_T107 l0 x7_1).f1) x8_3).f1), .int .i64 ((rd_T115 ((rd_T107 l0 x7_1).f1) x8_3).f2), .int .i64 ((rd_T115 ((rd_T107 l0 x7_1).f1) x8_3).f3), .int .i64 (rd t240 t255)] 115 (0, 0)) (zK9 BK250.out) hg (Kd.R_ne HO_6.out BK250.out (by decide))); have n2_ := Aside0.mk (hb); have n3_ := Aside0.mk (ho); clear HO_4; clear BK250; clear HB; clear HO_6; have HO_4 := n0_; have BK250 := n1_; have HB := n2_; have HO264 := n3_; clear n0_ n1_ n2_ n3_; clear ho hb hg hat))
       go_roundg k3
       case measure => have := HK1.out; have := HJ5.out; have := HK3.out; omega
       case rel => exact ⟨(y262), (wrap64 (x8_3 + 1)), (by first | rfl | (simp; done) | (simp [*]; done)), H', ⟨by have := HK1.out; have := HJ5.out; have := HK3.out; omega⟩, ⟨by (with_reducible repeat (first | apply Kd.R_alloc | apply Kd.R_drewN | apply Kd.R_drew)); exact Kd.R_mono HO_4.out (fun _ hk => hk.2)⟩, ⟨zR9 HO264.out⟩, ⟨zB9_1⟩⟩

/-! ### impl_from: function 64 -/
def impl_from.f (a0 : Int) (a1 : Int) (a2 : Int) : Option (Bool) := if a0 ≥ a1 then (some (decide (a0 ≤ a2))) else (some false)
set_option maxHeartbeats 8000000 in
set_option maxRecDepth 100000 in
theorem impl_from.calls (a0 : Int) (a1 : Int) (a2 : Int) (r : Bool) (w : World) (h : impl_from.f a0 a1 a2 = some r) :
  Calls Try.prog 64 #[.int .i64 a0, .int .i64 a1, .int .i64 a2] w fun e w' => e = .returned (.bool r) ∧ Drawn0 w w' := by
 have H : (if a0 ≥ a1 then (some (decide (a0 ≤ a2))) else (some false)) = some r := h
 clear h
 by_cases c4 : a0 ≥ a1
 ·rw [if_pos c4] at H
  have c4b0 : decide (a1 ≤ a0) = true := decide_eq_true c4
  clear c4
  obtain rfl := Option.some.inj H
  go_enter Try.func64, Try.ntmps64
  go_wp2
  go_ret
  exact ⟨by first | rfl | (simp; done) | (simp [*]; done), by repeat (first | exact Drawn0.refl _ | apply Drawn0.step)⟩
 rw [if_neg c4] at H
 have c4b0 : decide (a1 ≤ a0) = false := decide_eq_false c4
 clear c4
 obtain rfl := Option.some.inj H
 go_enter Try.func64, Try.ntmps64
 go_wp2
 go_ret
 exact ⟨by first | rfl | (simp; done) | (simp [*]; done), by repeat (first | exact Drawn0.refl _ | apply Drawn0.step)⟩

end Go.Proofs.Ytbbieaglfgipnaa.PFnExactLink
