-- made by wip/tools/myprint.py out of the seat's translation
import Derived.Test.YthmkclelkijhoaaPFnExactSeqOkx0
import Derived.Test.YthmkclelkijhoaaPFnExactSeqOkx1
namespace Go.Proofs.Ythmkclelkijhoaa.PFnExactSeqOk
open Go.RowKit Go.Proofs.YthmkclelkijhoaaW.PrintWords Go.Proofs.YthmkclelkijhoaaW.PrintLast Go.Proofs.YthmkclelkijhoaaW.PrintMore
attribute [local go_sem] max2_int min2_int max_two min_two max_three min_three max_four min_four   -- for this text's walks alone
set_option linter.unusedVariables false
set_option linter.unusedSimpArgs false
theorem zc2_3 {w : World} {g : Nat} {a0 a1 a2 : Value} {t : TypeId} (h : w.heap[g]? = some (.cells #[a0, a1, a2] t (0, 0))) : w.cell? ⟨g, 0, none⟩ = some a0 ∧ w.cell? ⟨g, 1, none⟩ = some a1 ∧ w.cell? ⟨g, 2, none⟩ = some a2 ∧ w.frozen? ⟨g, 0, none⟩ = false ∧ w.frozen? ⟨g, 1, none⟩ = false ∧ w.frozen? ⟨g, 2, none⟩ = false := ⟨(blk_cell h 0).trans rfl, (blk_cell h 1).trans rfl, (blk_cell h 2).trans rfl, blk_frozen h 0, blk_frozen h 1, blk_frozen h 2⟩
abbrev zq2_0 : Array Bool := #[false, false, false, false, false, false, false, false, false, false]
abbrev zq2_1 : Array Bool := #[true, false, false, false, false, false, false, false, false, false]
abbrev zq2_2 : Array Bool := #[true, true, false, false, false, false, false, false, false, false]
abbrev zq2_3 : Array Bool := #[true, true, true, false, false, false, false, false, false, false]
abbrev zq2_4 : Array Bool := #[true, true, true, false, true, false, false, false, false, false]
abbrev zq2_5 : Array Bool := #[true, true, true, false, true, true, false, false, false, false]
abbrev zq2_6 : Array Bool := #[true, true, true, false, true, true, true, false, false, false]
abbrev zq2_7 : Array Bool := #[true, true, true, true, true, true, true, false, false, false]
abbrev zq2_8 : Array Bool := #[true, true, true, true, true, true, true, true, false, false]
abbrev zq2_9 : Array Bool := #[true, true, true, true, true, true, true, true, true, false]
abbrev zq2_10 : Array Bool := #[true, true, true, true, true, true, true, true, true, true]
abbrev zq2_11 : Array Bool := #[false, false, false, false, false, false, false, false, false, false, false, false, false, false, false, false, false, false, false]
abbrev zq2_12 : Array Bool := #[true, false, false, false, false, false, false, false, false, false, false, false, false, false, false, false, false, false, false]
abbrev zq2_13 : Array Bool := #[true, true, false, false, false, false, false, false, false, false, false, false, false, false, false, false, false, false, false]
abbrev zq2_14 : Array Bool := #[true, true, true, false, false, false, false, false, false, false, false, false, false, false, false, false, false, false, false]
abbrev zq2_15 : Array Bool := #[true, true, true, true, false, false, false, false, false, false, false, false, false, false, false, false, false, false, false]
abbrev zq2_16 : Array Bool := #[true, true, true, true, true, false, false, false, false, false, false, false, false, false, false, false, false, false, false]
abbrev zq2_17 : Array Bool := #[true, true, true, true, true, true, false, false, false, false, false, false, false, false, false, false, false, false, false]
abbrev zq2_18 : Array Bool := #[true, true, true, true, true, true, true, false, false, false, false, false, false, false, false, false, false, false, false]
abbrev zq2_19 : Array Bool := #[true, true, true, true, true, true, true, true, false, false, false, false, false, false, false, false, false, false, false]
abbrev zq2_20 : Array Bool := #[true, true, true, true, true, true, true, true, true, false, false, false, false, false, false, false, false, false, false]
abbrev zq2_21 : Array Bool := #[true, true, true, true, true, true, true, true, true, true, false, false, false, false, false, false, false, false, false]
abbrev zq2_22 : Array Bool := #[true, true, true, true, true, true, true, true, true, true, true, true, true, false, false, false, false, false, false]
abbrev zq2_23 : Array Bool := #[true, true, true, true, true, true, true, true, true, true, true, true, true, true, false, false, false, false, false]
abbrev zq2_24 : Array Bool := #[true, true, true, true, true, true, true, true, true, true, true, true, true, true, true, false, false, false, false]
abbrev zq2_25 : Array Bool := #[true, true, true, true, true, true, true, true, true, true, true, true, true, true, true, true, false, false, false]
abbrev zq2_26 : Array Bool := #[true, true, true, true, true, true, true, true, true, true, true, true, true, true, true, true, true, false, false]
abbrev zq2_27 : Array Bool := #[true, true, true, true, true, true, true, true, true, true, true, true, true, true, true, true, true, true, false]
abbrev zq2_28 : Array Bool := #[true, true, true, true, true, true, true, true, true, true, true, true, true, true, true, true, true, true, true]
abbrev zq2_29 : Array Bool := #[true, true, true, true, true, true, true, true, true, true, true, false, false, false, false, false, false, false, false]
abbrev zq2_30 : Array Bool := #[true, true, true, true, true, true, true, true, true, true, true, true, false, false, false, false, false, false, false]
theorem zR2 {p q : Prop} (x : q) (h : q → p := by intro h; (with_reducible repeat (first | apply Kd.R_alloc | apply Kd.R_drewN | apply Kd.R_drew)); exact h) : p := h x
theorem zK2 {p q : Prop} (x : q) (h : q → p := by intro h; (with_reducible repeat (first | refine blk_drewN ?_ _ | refine blk_drew ?_ | refine blk_alloc ?_ _)); exact h) : p := h x
theorem zA2 {p : Prop} [Decidable p] (h : decide p = true := by first | (with_reducible assumption) | assumption) : p := of_decide_eq_true h
theorem zT2 {p : Prop} (h : p := by (try simp only [List.map_toArray, List.map_cons, List.map_nil]); first | done | rfl | (simp only [List.length_drop, List.length_take]; rfl)) : p := h
theorem zg2 {W w w1 : World} {g : Nat} {o : Obj} {row : Option Nat} (x : W.heap[g]? = some o) (hg : w.grownBy w1 row) (hne : some g ≠ row) (h : W.heap[g]? = some o → w.heap[g]? = some o := by intro h; (with_reducible repeat (first | refine blk_drewN ?_ _ | refine blk_drew ?_ | refine blk_alloc ?_ _)); exact h) : w1.heap[g]? = some o := blk_grown (h x) hg hne
theorem zP2 {p q : Prop} (x : q) (h : q → p := by intro h; (with_reducible repeat (first | refine blk_drewN ?_ _ | refine blk_drew ?_ | refine blk_alloc ?_ _)); exact h) : p := h x
theorem zV2 {a b : Act} (h : a = b := by simp only [Act.put, List.setIfInBounds_toArray, List.set_cons_zero, List.set_cons_succ, i64_w, i32_w]; rfl) : a = b := h
theorem zE2 {p : Prop} (h : p := by first | rfl | (simp [errW_none, errW_some] <;> rfl) | (simp [*, errW_none, errW_some] <;> rfl)) : p := h
theorem zB2_0 {p : Prop} (h : p := by repeat (first | (with_reducible first | exact HB.out | apply below_alloc | apply pw_below_drewN | apply below_drew1) | exact HB.out)) : p := h
theorem zB2_1 {p : Prop} (h : p := by repeat (first | (with_reducible first | exact HK.out | apply Kept.alloc | apply Kept.drewN | apply Kept.drew) | exact HK.out)) : p := h
theorem zB2_2 {p : Prop} (h : p := by repeat (first | (with_reducible first | exact HK.out | apply Kept.alloc | apply Kept.drewN | apply Kept.drew | refine Kept.setCell ?_ (.inr GW110.out) _) | exact HK.out)) : p := h
theorem zB2_3 {p : Prop} (h : p := by repeat (first | (with_reducible first | exact HB.out | apply below_alloc | apply pw_below_drewN | apply below_drew1 | refine below_set ?_ GE110.out) | exact HB.out)) : p := h

/-! ### spec_l21Go: function 13 -/
mutual
def spec_l21Go.l0 : Nat → List Int → List (List (S42)) → List Int → Int → Int → Option (Bool × List Int × List Int)
 | 0, _, _, _, _, _ => none
 | k + 1, x0, x1, x2, x3, x9 => if x9 < (x1.length : Int) then (if 0 ≤ x9 then (if x9 < (x2.length : Int) then (if (rd x2 x9) ≥ ((rd_L4 x1 x9).length : Int) then (spec_l21Go.l0 k x0 x1 x2 x3 (wrap64 (x9 + 1))) else (if 0 ≤ (rd x2 x9) then (if (rd x2 x9) < ((rd_L4 x1 x9).length : Int) then ((spec_l1In.f ((rd_T42 (rd_L4 x1 x9) (rd x2 x9)).f0) 0 23).bind fun t111 => (if t111 = true then (if ((rd_T42 (rd_L4 x1 x9) (rd x2 x9)).f1) ≥ 0 then (if 0 ≤ ((rd_T42 (rd_L4 x1 x9) (rd x2 x9)).f0) then (if ((rd_T42 (rd_L4 x1 x9) (rd x2 x9)).f0) < (x0.length : Int) then (spec_l21Go.j1 k x0 x1 x2 x3 x9 (((rd_T42 (rd_L4 x1 x9) (rd x2 x9)).f1) != (rd x0 ((rd_T42 (rd_L4 x1 x9) (rd x2 x9)).f0))) ((rd_T42 (rd_L4 x1 x9) (rd x2 x9)).f0) ((rd_T42 (rd_L4 x1 x9) (rd x2 x9)).f1) ((rd_T42 (rd_L4 x1 x9) (rd x2 x9)).f2)) else (none)) else (none)) else (spec_l21Go.j1 k x0 x1 x2 x3 x9 false ((rd_T42 (rd_L4 x1 x9) (rd x2 x9)).f0) ((rd_T42 (rd_L4 x1 x9) (rd x2 x9)).f1) ((rd_T42 (rd_L4 x1 x9) (rd x2 x9)).f2))) else (spec_l21Go.j1 k x0 x1 x2 x3 x9 true ((rd_T42 (rd_L4 x1 x9) (rd x2 x9)).f0) ((rd_T42 (rd_L4 x1 x9) (rd x2 x9)).f1) ((rd_T42 (rd_L4 x1 x9) (rd x2 x9)).f2)))) else (none)) else (none))) else (none)) else (none)) else (some (false, x0, x2))
def spec_l21Go.j1 : Nat → List Int → List (List (S42)) → List Int → Int → Int → Bool → Int → Int → Int → Option (Bool × List Int × List Int)
 | 0, _, _, _, _, _, _, _, _, _ => none
 | k + 1, x0, x1, x2, x3, x9, x58, x111000, x111001, x111002 => if x58 = true then (spec_l21Go.l0 k x0 x1 x2 x3 (wrap64 (x9 + 1))) else (if 0 ≤ x111000 then (if x111000 < (x0.length : Int) then (if x111002 ≥ 0 then (if 0 ≤ x9 then (if x9 < (x2.length : Int) then ((spec_l21Go.f k (x0.set (x111000 : Int).toNat x111002) x1 (x2.set (x9 : Int).toNat (wrap64 ((rd x2 x9) + 1))) (wrap64 (x3 - 1))).bind fun bt117 => (if bt117.1 = true then (some (true, bt117.2.1, bt117.2.2)) else (spec_l21Go.l0 k (bt117.2.1.set (x111000 : Int).toNat (rd x0 x111000)) x1 (bt117.2.2.set (x9 : Int).toNat (wrap64 ((rd bt117.2.2 x9) - 1))) x3 (wrap64 (x9 + 1))))) else (none)) else (none)) else (if 0 ≤ x9 then (if x9 < (x2.length : Int) then ((spec_l21Go.f k x0 x1 (x2.set (x9 : Int).toNat (wrap64 ((rd x2 x9) + 1))) (wrap64 (x3 - 1))).bind fun bt125 => (if bt125.1 = true then (some (true, bt125.2.1, bt125.2.2)) else (spec_l21Go.l0 k (bt125.2.1.set (x111000 : Int).toNat (rd x0 x111000)) x1 (bt125.2.2.set (x9 : Int).toNat (wrap64 ((rd bt125.2.2 x9) - 1))) x3 (wrap64 (x9 + 1))))) else (none)) else (none))) else (none)) else (none))
def spec_l21Go.f : Nat → List Int → List (List (S42)) → List Int → Int → Option (Bool × List Int × List Int)
 | 0, _, _, _, _ => none
 | k + 1, l0, l1, l2, a3 => if a3 = 0 then (some (true, l0, l2)) else (spec_l21Go.l0 k l0 l1 l2 a3 0)
end
theorem spec_l21Go.mono_l : ∀ k, (∀ y0 y1 y2 y3, LeO (spec_l21Go.f k y0 y1 y2 y3) (spec_l21Go.f (k + 1) y0 y1 y2 y3)) ∧ (∀ y0 y1 y2 y3 y4, LeO (spec_l21Go.l0 k y0 y1 y2 y3 y4) (spec_l21Go.l0 (k + 1) y0 y1 y2 y3 y4)) ∧ (∀ y0 y1 y2 y3 y4 y5 y6 y7 y8, LeO (spec_l21Go.j1 k y0 y1 y2 y3 y4 y5 y6 y7 y8) (spec_l21Go.j1 (k + 1) y0 y1 y2 y3 y4 y5 y6 y7 y8))
 | 0 => ⟨fun _ _ _ _ r h => by simp [spec_l21Go.f] at h, fun _ _ _ _ _ r h => by simp [spec_l21Go.l0] at h, fun _ _ _ _ _ _ _ _ _ r h => by simp [spec_l21Go.j1] at h⟩
 | k + 1 => by
  obtain ⟨ih0, ih1, ih2⟩ := spec_l21Go.mono_l k
  refine ⟨?_, ?_, ?_⟩
  ·intro y0 y1 y2 y3
   unfold spec_l21Go.f
   repeat' first
   | (with_reducible exact ih0 _ _ _ _)
   | (with_reducible exact ih1 _ _ _ _ _)
   | (with_reducible exact ih2 _ _ _ _ _ _ _ _ _)
   | (with_reducible exact LeO.refl _)
   | (with_reducible exact LeO.none _)
   | (with_reducible refine LeO.ite ?_ ?_)
   | (with_reducible refine LeO.bind ?_ (fun _ => ?_))
   | exact ih0 _ _ _ _
   | exact ih1 _ _ _ _ _
   | exact ih2 _ _ _ _ _ _ _ _ _
   | exact LeO.none _
   | refine LeO.ite ?_ ?_
   | refine LeO.bind ?_ (fun _ => ?_)
  ·intro y0 y1 y2 y3 y4
   unfold spec_l21Go.l0
   repeat' first
   | (with_reducible exact ih0 _ _ _ _)
   | (with_reducible exact ih1 _ _ _ _ _)
   | (with_reducible exact ih2 _ _ _ _ _ _ _ _ _)
   | (with_reducible exact LeO.refl _)
   | (with_reducible exact LeO.none _)
   | (with_reducible refine LeO.ite ?_ ?_)
   | (with_reducible refine LeO.bind ?_ (fun _ => ?_))
   | exact ih0 _ _ _ _
   | exact ih1 _ _ _ _ _
   | exact ih2 _ _ _ _ _ _ _ _ _
   | exact LeO.none _
   | refine LeO.ite ?_ ?_
   | refine LeO.bind ?_ (fun _ => ?_)
  ·intro y0 y1 y2 y3 y4 y5 y6 y7 y8
   unfold spec_l21Go.j1
   repeat' first
   | (with_reducible exact ih0 _ _ _ _)
   | (with_reducible exact ih1 _ _ _ _ _)
   | (with_reducible exact ih2 _ _ _ _ _ _ _ _ _)
   | (with_reducible exact LeO.refl _)
   | (with_reducible exact LeO.none _)
   | (with_reducible refine LeO.ite ?_ ?_)
   | (with_reducible refine LeO.bind ?_ (fun _ => ?_))
   | exact ih0 _ _ _ _
   | exact ih1 _ _ _ _ _
   | exact ih2 _ _ _ _ _ _ _ _ _
   | exact LeO.none _
   | refine LeO.ite ?_ ?_
   | refine LeO.bind ?_ (fun _ => ?_)
theorem spec_l21Go.mono : ∀ a0 a1 a2 a3 k, LeO (spec_l21Go.f k a0 a1 a2 a3) (spec_l21Go.f (k + 1) a0 a1 a2 a3) := by
 intro a0 a1 a2 a3 k
 obtain ⟨ih0, ih1, ih2⟩ := spec_l21Go.mono_l k
 exact ih0 a0 a1 a2 a3
def spec_l21Go.T6 : Bool × List (List Nat × List Nat) := (true, [([], []), ([], []), ([0, 1], [0, 1]), ([2], [2]), ([], []), ([], []), ([4, 5], [4, 5]), ([6], [6]), ([7], [7]), ([3, 8], [3, 8])])
def spec_l21Go.B6 : List Nat := [0, 0, 3, 7, 0, 0, 48, 112, 240, 511]
theorem spec_l21Go.tab6 : rtab .any (opsOf Try.f13 6) = spec_l21Go.T6 := by kernel_rfl
theorem spec_l21Go.bits6 : waitsOk spec_l21Go.T6.2 spec_l21Go.B6 = true := by kernel_rfl
def spec_l21Go.T7 : Bool × List (List Nat × List Nat) := (true, [([], []), ([], []), ([0, 1], [0, 1]), ([2], [2]), ([], []), ([], []), ([4, 5], [4, 5]), ([6], [6]), ([3, 7], [3, 7]), ([8], [8]), ([], []), ([10, 9, 0, 1, 2, 3, 4, 5, 6, 7, 8, 9, 10], [9, 10])])
def spec_l21Go.B7 : List Nat := [0, 0, 3, 7, 0, 0, 48, 112, 255, 511, 0, 2047]
theorem spec_l21Go.tab7 : rtab .any (opsOf Try.f13 7) = spec_l21Go.T7 := by kernel_rfl
theorem spec_l21Go.bits7 : waitsOk spec_l21Go.T7.2 spec_l21Go.B7 = true := by kernel_rfl
def spec_l21Go.T8 : Bool × List (List Nat × List Nat) := (true, [([], []), ([0], [0]), ([1], [1]), ([2], [2]), ([3, 2], [3]), ([4], [4]), ([5, 4], [4, 5]), ([6, 4], [4, 6]), ([7, 4, 4], [4, 7]), ([8], [8]), ([9, 8], [8, 9]), ([8], [8]), ([8], [8]), ([12, 8], [8, 12]), ([11, 13, 8], [8, 11, 13]), ([14, 8], [8, 14]), ([10, 15, 8], [8, 10, 15]), ([8, 16, 4], [4, 8, 16]), ([4, 17], [4, 17])])
def spec_l21Go.B8 : List Nat := [0, 1, 3, 7, 15, 31, 63, 127, 255, 511, 1023, 511, 511, 4607, 14847, 31231, 65535, 131071, 262143]
theorem spec_l21Go.tab8 : rtab .any (opsOf Try.f13 8) = spec_l21Go.T8 := by kernel_rfl
theorem spec_l21Go.bits8 : waitsOk spec_l21Go.T8.2 spec_l21Go.B8 = true := by kernel_rfl
theorem foot_in {α : Type} {d : Kd α} {e : Nat} {W W1 : World} {S : Nat → Prop} {ad b : Addr} {n m c : Nat} {xs : List (List α)} (h : ∀ W', Kept W W' S → (Kd.slice e d).C W' (some ad) n xs) (hk : Kept W W1 S) (i : Int) (h0 : 0 ≤ i) (h1 : i < n) (hc : W1.cell? (ad.add i.toNat) = some (.slice (some b) m c)) (hm : 0 < m) (hs : 0 < d.sz) : b.block < W.heap.size := by
 have hS := Kd.foot_neS h (by omega) (show 0 < (Kd.slice e d).sz from Nat.one_pos)
 obtain ⟨ad', cs, e', _, ⟨A, c', rfl, hl, hC⟩, hcell⟩ := Kd.C_get (h W (Kept.refl W S)) [] i h0 h1
 injection e' with e'
 subst e'
 have h2 : W.cell? (ad.add (i.toNat * 1 + 0)) = some _ := hcell 0 _ rfl
 rw [Nat.mul_one, Nat.add_zero] at h2
 have h3 := cell_kept h2 hk (by rw [add_block]; exact hS)
 rw [h3] at hc
 injection hc with hc
 injection hc with ha hb hc
 subst ha
 rw [← hb] at hm
 exact Kd.C_lt hC hm hs
set_option maxHeartbeats 8000000 in
set_option maxRecDepth 100000 in
theorem spec_l21Go.calls (k : Nat) : ∀ (P0_ : Nat → Prop) (u9000_ : Value) (l0 : List Int) (A1 : Option Addr) (c1 : Nat) (l1 : List (List (S42))) (P2_ : Nat → Prop) (u9001_ : Value) (l2 : List Int) (a3 : Int) (r1 : Bool) (r2 : List Int) (r3 : List Int) (w0 w : World) (hB : Below w0.heap.size w0 w) (ho0 : Kd.R (Kd.int .i64) 3 w w0.heap.size P0_ u9000_ l0) (hp0_2 : ∀ k_, P0_ k_ → ¬ P2_ k_) (hr1 : ∀ W_, Kept w W_ (fun k_ => P0_ k_ ∨ P2_ k_) → Kd.C (Kd.slice 42 k42) W_ A1 l1.length l1) (hc1 : l1.length ≤ c1) (ho2 : Kd.R (Kd.int .i64) 3 w w0.heap.size P2_ u9001_ l2) (hp2_0 : ∀ k_, P2_ k_ → ¬ P0_ k_) (h : spec_l21Go.f k l0 l1 l2 a3 = some (r1, r2, r3)),
  Calls Try.prog 13 #[u9000_, .slice A1 l1.length c1, u9001_, .int .i64 a3] w fun e w' => e = .returned (.bool r1) ∧ Kd.R (Kd.int .i64) 3 w' w0.heap.size (fun k_ => ((P0_ k_ ∨ P2_ k_) ∨ w.heap.size ≤ k_)) u9000_ r2 ∧ Kd.R (Kd.int .i64) 3 w' w0.heap.size (fun k_ => ((P0_ k_ ∨ P2_ k_) ∨ w.heap.size ≤ k_)) u9001_ r3 ∧ Below w0.heap.size w0 w' ∧ Kept w w' (fun k_ => P0_ k_ ∨ P2_ k_) := by
 induction k using Nat.strongRecOn with
 | _ k ih =>
 intro P0_ u9000_ l0 A1 c1 l1 P2_ u9001_ l2 a3 r1 r2 r3 w0 w hB ho0 hp0_2 hr1 hc1 ho2 hp2_0 h
 cases k with
 | zero => exact absurd h (by simp [spec_l21Go.f])
 | succ k =>
 simp only [spec_l21Go.f] at h
 have hu42 := Try.underlying42
 have HO0 := Aside0.mk (show Kd.R (Kd.int .i64) 3 w w0.heap.size (fun k_ => ((P0_ k_ ∨ P2_ k_) ∨ w.heap.size ≤ k_) ∧ some k_ ≠ (u9001_ : Value).ownBlock) u9000_ l0 from Kd.R_mono ho0 (fun k_ hk => ⟨(.inl (.inl hk)), fun e_ => hp0_2 k_ hk (ho2.1 k_ e_.symm)⟩))
 have HR1 := Aside0.mk hr1
 have HC1 := Aside0.mk hc1
 clear hr1 hc1
 have HO2 := Aside0.mk (show Kd.R (Kd.int .i64) 3 w w0.heap.size (fun k_ => ((P0_ k_ ∨ P2_ k_) ∨ w.heap.size ≤ k_) ∧ some k_ ≠ (u9000_ : Value).ownBlock) u9001_ l2 from Kd.R_mono ho2 (fun k_ hk => ⟨(.inl (.inr hk)), fun e_ => hp2_0 k_ hk (ho0.1 k_ e_.symm)⟩))
 have HK := Aside0.mk (Kept.refl w (fun k_ => P0_ k_ ∨ P2_ k_))
 have HW0 := Aside0.mk hB.size
 have HB := Aside0.mk hB
 clear hB
 have H : (if a3 = 0 then (some (true, l0, l2)) else (spec_l21Go.l0 k l0 l1 l2 a3 0)) = some (r1, r2, r3) := h
 clear h
 by_cases c5 : a3 = 0
 ·rw [if_pos c5] at H
  have c5b0 : (a3 == 0) = true := beq_iff_eq.mpr c5
  have c5b1 : (a3 != 0) = false := bne_eq_false_iff_eq.mpr c5
  clear c5
  simp only [Option.some.injEq, Prod.mk.injEq] at H
  obtain ⟨rfl, rfl, rfl⟩ := H
  go_enter Try.func13, Try.ntmps13
  go_wp2
  go_ret
  exact ⟨zE2, by (with_reducible repeat (first | apply Kd.R_alloc | apply Kd.R_drewN | apply Kd.R_drew)); exact Kd.R_mono HO0.out (fun _ hk => hk.1), by (with_reducible repeat (first | apply Kd.R_alloc | apply Kd.R_drewN | apply Kd.R_drew)); exact Kd.R_mono HO2.out (fun _ hk => hk.1), zB2_0, zB2_1⟩
 rw [if_neg c5] at H
 have c5b0 : (a3 == 0) = false := beq_eq_false_iff_ne.mpr c5
 have c5b1 : (a3 != 0) = true := bne_iff_ne.mpr c5
 have H' := Aside0.mk H
 clear H
 go_enter Try.func13, Try.ntmps13
 go_wp2
 go_loopg [9] k (fun kq v9 w' => ∃ (x0_1 : List Int) (x2_1 : List Int) (x9_1 : Int), v9 = .int .i64 x9_1 ∧ Aside0 (spec_l21Go.l0 kq x0_1 l1 x2_1 a3 x9_1 = some (r1, r2, r3)) ∧ Aside0 (kq ≤ k) ∧ Aside0 (Kd.R (Kd.int .i64) 3 w' w0.heap.size (fun k_ => ((P0_ k_ ∨ P2_ k_) ∨ w.heap.size ≤ k_) ∧ some k_ ≠ (u9001_ : Value).ownBlock) u9000_ x0_1) ∧ Aside0 (Kd.R (Kd.int .i64) 3 w' w0.heap.size (fun k_ => ((P0_ k_ ∨ P2_ k_) ∨ w.heap.size ≤ k_) ∧ some k_ ≠ (u9000_ : Value).ownBlock) u9001_ x2_1) ∧ Aside0 (Kept w w' (fun k_ => P0_ k_ ∨ P2_ k_)) ∧ Aside0 (Below w0.heap.size w0 w'))
 case atStart => exact ⟨(l0), (l2), (0), (by first | rfl | (simp; done) | (simp [*]; done)), H', ⟨Nat.le_refl _⟩, ⟨zR2 HO0.out⟩, ⟨zR2 HO2.out⟩, ⟨zB2_1⟩, ⟨zB2_0⟩⟩
 case round =>
  clear H'
  try clear c1
  try clear p2
  try clear c5
  try clear c5b0
  try clear c5b1
  obtain ⟨x0_1, x2_1, x9_1, rfl, HA, HK1, HO_0, HO_2, HK, HB⟩ := hrel
  cases gk with
  | zero => exact absurd HA.out (by simp [spec_l21Go.l0])
  | succ k1 =>
   have H := HA.out
   clear HA
   simp only [spec_l21Go.l0] at H
   by_cases c6 : x9_1 < (l1.length : Int)
   rotate_left
   ·rw [if_neg c6] at H
    have c6b0 : decide (x9_1 < (l1.length : Int)) = false := decide_eq_false c6
    clear c6
    simp only [Option.some.injEq, Prod.mk.injEq] at H
    obtain ⟨rfl, rfl, rfl⟩ := H
    go_wp2
    go_ret
    exact ⟨zE2, by (with_reducible repeat (first | apply Kd.R_alloc | apply Kd.R_drewN | apply Kd.R_drew)); exact Kd.R_mono HO_0.out (fun _ hk => hk.1), by (with_reducible repeat (first | apply Kd.R_alloc | apply Kd.R_drewN | apply Kd.R_drew)); exact Kd.R_mono HO_2.out (fun _ hk => hk.1), zB2_0, zB2_1⟩
   rw [if_pos c6] at H
   have c6b0 : decide (x9_1 < (l1.length : Int)) = true := decide_eq_true c6
   clear c6
   by_cases c7 : 0 ≤ x9_1
   rotate_left
   ·rw [if_neg c7] at H
    exact absurd H (by simp)
   rw [if_pos c7] at H
   have c7b0 : decide (0 ≤ x9_1) = true := decide_eq_true c7
   clear c7
   by_cases c8 : x9_1 < (x2_1.length : Int)
   rotate_left
   ·rw [if_neg c8] at H
    exact absurd H (by simp)
   rw [if_pos c8] at H
   have c8b0 : decide (x9_1 < (x2_1.length : Int)) = true := decide_eq_true c8
   clear c8
   by_cases c9 : (rd x2_1 x9_1) ≥ ((rd_L4 l1 x9_1).length : Int)
   ·rw [if_pos c9] at H
    have c9b0 : decide (((rd_L4 l1 x9_1).length : Int) ≤ (rd x2_1 x9_1)) = true := decide_eq_true c9
    clear c9
    have H' := Aside0.mk H
    clear H
    try go_wp2
    have n0_ := Aside0.mk (Kd.R_drew HO_0.out)
    have n1_ := Aside0.mk (Kd.R_drew HO_2.out)
    have n2_ := Aside0.mk (Kept.drew HK.out)
    have n3_ := Aside0.mk (below_drew1 HB.out)
    clear HO_0 HO_2 HK HB
    have HO_0 := n0_
    have HO_2 := n1_
    have HK := n2_
    have HB := n3_
    clear n0_ n1_ n2_ n3_
    obtain ⟨Ao11, co11, eo11⟩ := Kd.R_slice HO_2.out
    (first | subst eo11 | (injection eo11 with f1_ f2_ f3_; have f4_ := f1_.symm; have f5_ := f3_.symm; clear f1_ f2_ f3_; subst f4_; subst f5_))
    have p105 : 0 ≤ (x9_1 : Int) := zA2
    have q105 : x9_1 < (x2_1.length : Int) := zA2
    obtain ⟨ad105, e105, hx105_0⟩ := Kd.at_int (Kd.R_reads' HO_2.out).2.2 x9_1 p105 q105
    cases e105
    replace p105 := eq_true p105
    replace q105 := eq_true q105
    have p106 : 0 ≤ (x9_1 : Int) := zA2
    have q106 : x9_1 < (l1.length : Int) := zA2
    obtain ⟨ad106, A106_0, c106_0, e106, hx106_0, hl106_0, hi106_0⟩ := at_L4 (Kd.C_kept_now HR1.out HK.out) x9_1 p106 q106
    have hw106_0 := hx106_0
    cases e106
    have hlt106_0 := (Kd.foot_ltS HR1.out (by omega) (by decide))
    have HR106_0 := Aside0.mk hi106_0
    have HC106_0 := Aside0.mk hl106_0
    clear hi106_0 hl106_0
    replace p106 := eq_true p106
    replace q106 := eq_true q106
    refine start_ (n := 10) (S := fun w' => w'.cell? (ad105.add (x9_1).toNat) = some (.int .i64 (rd x2_1 x9_1)) ∧ w'.cell? (ad106.add (x9_1).toNat) = some (.slice A106_0 (rd_L4 l1 x9_1).length c106_0)) (ds := []) zq2_0 (by kernel_rfl) rfl rfl ⟨hx105_0, hx106_0⟩ (fun hHeld => ?_); refine with_tabW spec_l21Go.tab6 spec_l21Go.bits6 (fun HT_ HW_ => ?_)
    generalize wr.drew = w10 at HO_0 HO_2 HK HB HR106_0 hx105_0 hx106_0 hHeld ⊢
    refine pure_ (i := 0) (N := some 20) (v := ?_) (a' := ?_) zq2_1 rfl rfl (any_of HT_.out (by kernel_rfl)) (fun _ _ _ h => h) (Or.inl ⟨by rfl, ?_⟩) ?_ ?_
    rotate_left
    ·intro w'
     go_simp
     with_reducible rfl
    rotate_left
    ·exact zV2
    refine pure_ (i := 1) (N := some 21) (v := ?_) (a' := ?_) zq2_2 rfl rfl (any_of HT_.out (by kernel_rfl)) (fun _ _ _ h => h) (Or.inl ⟨by rfl, ?_⟩) ?_ ?_
    rotate_left
    ·intro w'
     go_simp
     with_reducible rfl
    rotate_left
    ·exact zV2
    refine pure_ (i := 2) (N := some 22) (v := ?_) (a' := ?_) zq2_3 rfl rfl (any_of HT_.out (by kernel_rfl)) (fun _ _ _ h => h) (Or.inl ⟨by rfl, ?_⟩) ?_ ?_
    rotate_left
    ·intro w'
     go_simp
     with_reducible rfl
    rotate_left
    ·exact zV2
    refine pure_ (i := 4) (N := some 24) (v := ?_) (a' := ?_) zq2_4 rfl rfl (any_of HT_.out (by kernel_rfl)) (fun _ _ _ h => h) (Or.inl ⟨by rfl, ?_⟩) ?_ ?_
    rotate_left
    ·intro w'
     go_simp
     with_reducible rfl
    rotate_left
    ·exact zV2
    refine pure_ (i := 5) (N := some 25) (v := ?_) (a' := ?_) zq2_5 rfl rfl (any_of HT_.out (by kernel_rfl)) (fun _ _ _ h => h) (Or.inl ⟨by rfl, ?_⟩) ?_ ?_
    rotate_left
    ·intro w'
     go_simp
     with_reducible rfl
    rotate_left
    ·exact zV2
    refine pure_ (i := 6) (N := some 26) (v := ?_) (a' := ?_) zq2_6 rfl rfl (any_of HT_.out (by kernel_rfl)) (fun _ _ _ h => h) (Or.inl ⟨by rfl, ?_⟩) ?_ ?_
    rotate_left
    ·intro w'
     go_simp
     with_reducible rfl
    rotate_left
    ·exact zV2
    refine take_ (i := 3) (N := some 23) (v := ?_) (a' := ?_) zq2_7 rfl rfl (take_ofW HT_.out HW_.out (by kernel_rfl)) (fun _ _ _ h => h) (Or.inl ⟨by rfl, ?_⟩) hHeld ?_ ?_
    rotate_left
    ·rintro w' ⟨s0, s1⟩
     go_simp
     with_reducible rfl
    rotate_left
    ·exact zV2
    refine take_ (i := 7) (N := some 27) (v := ?_) (a' := ?_) zq2_8 rfl rfl (take_ofW HT_.out HW_.out (by kernel_rfl)) (fun _ _ _ h => h) (Or.inl ⟨by rfl, ?_⟩) hHeld ?_ ?_
    rotate_left
    ·rintro w' ⟨s0, s1⟩
     go_simp
     with_reducible rfl
    rotate_left
    ·exact zV2
    refine pure_ (i := 8) (N := some 28) (v := ?_) (a' := ?_) zq2_9 rfl rfl (any_of HT_.out (by kernel_rfl)) (fun _ _ _ h => h) (Or.inl ⟨by rfl, ?_⟩) ?_ ?_
    rotate_left
    ·intro w'
     go_simp
     with_reducible rfl
    rotate_left
    ·exact zV2
    refine pure_ (i := 9) (N := some 29) (v := ?_) (a' := ?_) zq2_10 rfl rfl (any_of HT_.out (by kernel_rfl)) (fun _ _ _ h => h) (Or.inl ⟨by rfl, ?_⟩) ?_ ?_
    rotate_left
    ·intro w'
     go_simp
     with_reducible rfl
    rotate_left
    ·exact zV2
    refine done_ (done_of HT_.out (by kernel_rfl)) ?_
    try go_wp2
    go_roundg k1
    case measure => have := HK1.out; omega
    case rel => exact ⟨(x0_1), (x2_1), (wrap64 (x9_1 + 1)), (by first | rfl | (simp; done) | (simp [*]; done)), H', ⟨by have := HK1.out; omega⟩, ⟨zR2 HO_0.out⟩, ⟨zR2 HO_2.out⟩, ⟨zB2_1⟩, ⟨zB2_0⟩⟩
   rw [if_neg c9] at H
   have c9b0 : decide (((rd_L4 l1 x9_1).length : Int) ≤ (rd x2_1 x9_1)) = false := decide_eq_false c9
   clear c9
   by_cases c12 : 0 ≤ (rd x2_1 x9_1)
   rotate_left
   ·rw [if_neg c12] at H
    exact absurd H (by simp)
   rw [if_pos c12] at H
   have c12b0 : decide (0 ≤ (rd x2_1 x9_1)) = true := decide_eq_true c12
   clear c12
   by_cases c13 : (rd x2_1 x9_1) < ((rd_L4 l1 x9_1).length : Int)
   rotate_left
   ·rw [if_neg c13] at H
    exact absurd H (by simp)
   rw [if_pos c13] at H
   have c13b0 : decide ((rd x2_1 x9_1) < ((rd_L4 l1 x9_1).length : Int)) = true := decide_eq_true c13
   clear c13
   have HC14 := Aside0.mk H
   clear H
   try go_wp2
   have n0_ := Aside0.mk (Kd.R_drew HO_0.out)
   have n1_ := Aside0.mk (Kd.R_drew HO_2.out)
   have n2_ := Aside0.mk (Kept.drew HK.out)
   have n3_ := Aside0.mk (below_drew1 HB.out)
   clear HO_0 HO_2 HK HB
   have HO_0 := n0_
   have HO_2 := n1_
   have HK := n2_
   have HB := n3_
   clear n0_ n1_ n2_ n3_
   obtain ⟨Ao16, co16, eo16⟩ := Kd.R_slice HO_2.out
   (first | subst eo16 | (injection eo16 with f1_ f2_ f3_; have f4_ := f1_.symm; have f5_ := f3_.symm; clear f1_ f2_ f3_; subst f4_; subst f5_))
   have p105 : 0 ≤ (x9_1 : Int) := zA2
   have q105 : x9_1 < (x2_1.length : Int) := zA2
   obtain ⟨ad105, e105, hx105_0⟩ := Kd.at_int (Kd.R_reads' HO_2.out).2.2 x9_1 p105 q105
   cases e105
   replace p105 := eq_true p105
   replace q105 := eq_true q105
   have p106 : 0 ≤ (x9_1 : Int) := zA2
   have q106 : x9_1 < (l1.length : Int) := zA2
   obtain ⟨ad106, A106_0, c106_0, e106, hx106_0, hl106_0, hi106_0⟩ := at_L4 (Kd.C_kept_now HR1.out HK.out) x9_1 p106 q106
   have hw106_0 := hx106_0
   cases e106
   have hlt106_0 := (Kd.foot_ltS HR1.out (by omega) (by decide))
   have HR106_0 := Aside0.mk hi106_0
   have HC106_0 := Aside0.mk hl106_0
   clear hi106_0 hl106_0
   replace p106 := eq_true p106
   replace q106 := eq_true q106
   refine start_ (n := 10) (S := fun w' => w'.cell? (ad105.add (x9_1).toNat) = some (.int .i64 (rd x2_1 x9_1)) ∧ w'.cell? (ad106.add (x9_1).toNat) = some (.slice A106_0 (rd_L4 l1 x9_1).length c106_0)) (ds := []) zq2_0 (by kernel_rfl) rfl rfl ⟨hx105_0, hx106_0⟩ (fun hHeld => ?_); refine with_tabW spec_l21Go.tab6 spec_l21Go.bits6 (fun HT_ HW_ => ?_)
   generalize wr.drew = w15 at HO_0 HO_2 HK HB HR106_0 hx105_0 hx106_0 hHeld ⊢
   refine pure_ (i := 0) (N := some 20) (v := ?_) (a' := ?_) zq2_1 rfl rfl (any_of HT_.out (by kernel_rfl)) (fun _ _ _ h => h) (Or.inl ⟨by rfl, ?_⟩) ?_ ?_
   rotate_left
   ·intro w'
    go_simp
    with_reducible rfl
   rotate_left
   ·exact zV2
   refine pure_ (i := 1) (N := some 21) (v := ?_) (a' := ?_) zq2_2 rfl rfl (any_of HT_.out (by kernel_rfl)) (fun _ _ _ h => h) (Or.inl ⟨by rfl, ?_⟩) ?_ ?_
   rotate_left
   ·intro w'
    go_simp
    with_reducible rfl
   rotate_left
   ·exact zV2
   refine pure_ (i := 2) (N := some 22) (v := ?_) (a' := ?_) zq2_3 rfl rfl (any_of HT_.out (by kernel_rfl)) (fun _ _ _ h => h) (Or.inl ⟨by rfl, ?_⟩) ?_ ?_
   rotate_left
   ·intro w'
    go_simp
    with_reducible rfl
   rotate_left
   ·exact zV2
   refine pure_ (i := 4) (N := some 24) (v := ?_) (a' := ?_) zq2_4 rfl rfl (any_of HT_.out (by kernel_rfl)) (fun _ _ _ h => h) (Or.inl ⟨by rfl, ?_⟩) ?_ ?_
   rotate_left
   ·intro w'
    go_simp
    with_reducible rfl
   rotate_left
   ·exact zV2
   refine pure_ (i := 5) (N := some 25) (v := ?_) (a' := ?_) zq2_5 rfl rfl (any_of HT_.out (by kernel_rfl)) (fun _ _ _ h => h) (Or.inl ⟨by rfl, ?_⟩) ?_ ?_
   rotate_left
   ·intro w'
    go_simp
    with_reducible rfl
   rotate_left
   ·exact zV2
   refine pure_ (i := 6) (N := some 26) (v := ?_) (a' := ?_) zq2_6 rfl rfl (any_of HT_.out (by kernel_rfl)) (fun _ _ _ h => h) (Or.inl ⟨by rfl, ?_⟩) ?_ ?_
   rotate_left
   ·intro w'
    go_simp
    with_reducible rfl
   rotate_left
   ·exact zV2
   refine take_ (i := 3) (N := some 23) (v := ?_) (a' := ?_) zq2_7 rfl rfl (take_ofW HT_.out HW_.out (by kernel_rfl)) (fun _ _ _ h => h) (Or.inl ⟨by rfl, ?_⟩) hHeld ?_ ?_
   rotate_left
   ·rintro w' ⟨s0, s1⟩
    go_simp
    with_reducible rfl
   rotate_left
   ·exact zV2
   refine take_ (i := 7) (N := some 27) (v := ?_) (a' := ?_) zq2_8 rfl rfl (take_ofW HT_.out HW_.out (by kernel_rfl)) (fun _ _ _ h => h) (Or.inl ⟨by rfl, ?_⟩) hHeld ?_ ?_
   rotate_left
   ·rintro w' ⟨s0, s1⟩
    go_simp
    with_reducible rfl
   rotate_left
   ·exact zV2
   refine pure_ (i := 8) (N := some 28) (v := ?_) (a' := ?_) zq2_9 rfl rfl (any_of HT_.out (by kernel_rfl)) (fun _ _ _ h => h) (Or.inl ⟨by rfl, ?_⟩) ?_ ?_
   rotate_left
   ·intro w'
    go_simp
    with_reducible rfl
   rotate_left
   ·exact zV2
   refine pure_ (i := 9) (N := some 29) (v := ?_) (a' := ?_) zq2_10 rfl rfl (any_of HT_.out (by kernel_rfl)) (fun _ _ _ h => h) (Or.inl ⟨by rfl, ?_⟩) ?_ ?_
   rotate_left
   ·intro w'
    go_simp
    with_reducible rfl
   rotate_left
   ·exact zV2
   refine done_ (done_of HT_.out (by kernel_rfl)) ?_
   try go_wp2
   have n0_ := Aside0.mk (Kd.R_drew HO_0.out)
   have n1_ := Aside0.mk (Kd.R_drew HO_2.out)
   have n2_ := Aside0.mk (Kd.C_drew HR106_0.out)
   have n3_ := Aside0.mk (Kept.drew HK.out)
   have n4_ := Aside0.mk (below_drew1 HB.out)
   clear HO_0 HO_2 HR106_0 HK HB
   have HO_0 := n0_
   have HO_2 := n1_
   have HR106_0 := n2_
   have HK := n3_
   have HB := n4_
   clear n0_ n1_ n2_ n3_ n4_
   have p107 : 0 ≤ (x9_1 : Int) := zA2
   have q107 : x9_1 < (l1.length : Int) := zA2
   obtain ⟨ad107, A107_0, c107_0, e107, hx107_0, hl107_0, hi107_0⟩ := at_L4 (Kd.C_kept_now HR1.out HK.out) x9_1 p107 q107
   have hw107_0 := hx107_0
   obtain rfl : ad106 = ad107 := (by injection e107)
   have hlt107_0 := (Kd.foot_ltS HR1.out (by omega) (by decide))
   have HR107_0 := Aside0.mk hi107_0
   have HC107_0 := Aside0.mk hl107_0
   clear hi107_0 hl107_0
   replace p107 := eq_true p107
   replace q107 := eq_true q107
   have p108 : 0 ≤ (x9_1 : Int) := zA2
   have q108 : x9_1 < (x2_1.length : Int) := zA2
   obtain ⟨ad108, e108, hx108_0⟩ := Kd.at_int (Kd.R_reads' HO_2.out).2.2 x9_1 p108 q108
   obtain rfl : ad105 = ad108 := (by injection e108)
   replace p108 := eq_true p108
   replace q108 := eq_true q108
   have p109 : 0 ≤ ((rd x2_1 x9_1) : Int) := zA2
   have q109 : (rd x2_1 x9_1) < ((rd_L4 l1 x9_1).length : Int) := zA2
   obtain ⟨ad109, e109, hx109_0, hx109_1, hx109_2⟩ := at_T42 (by repeat (first | (with_reducible exact HR107_0.out) | (with_reducible refine Kd.C_alloc ?_ _) | (with_reducible refine Kd.C_drewN ?_ _) | (with_reducible refine Kd.C_drew ?_) | exact HR107_0.out)) (rd x2_1 x9_1) p109 q109
   cases e109
   have hlt109_2 := foot_in HR1.out HK.out _ (of_eq_true p107) (of_eq_true q107) hx107_0 (by omega) (by decide)
   have hlt109_1 := foot_in HR1.out HK.out _ (of_eq_true p107) (of_eq_true q107) hx107_0 (by omega) (by decide)
   have hlt109_0 := foot_in HR1.out HK.out _ (of_eq_true p107) (of_eq_true q107) hx107_0 (by omega) (by decide)
   replace p109 := eq_true p109
   replace q109 := eq_true q109
   refine start_ (n := 12) (S := fun w' => w'.cell? (ad106.add (x9_1).toNat) = some (.slice (some ad109) (rd_L4 l1 x9_1).length c107_0) ∧ w'.cell? (ad105.add (x9_1).toNat) = some (.int .i64 (rd x2_1 x9_1)) ∧ w'.cell? (ad109.add (((rd x2_1 x9_1)).toNat * 3)) = some (.int .i64 ((rd_T42 (rd_L4 l1 x9_1) (rd x2_1 x9_1)).f0)) ∧ w'.cell? ⟨(ad109.add (((rd x2_1 x9_1)).toNat * 3)).block, (ad109.add (((rd x2_1 x9_1)).toNat * 3)).off + 1, none⟩ = some (.int .i64 ((rd_T42 (rd_L4 l1 x9_1) (rd x2_1 x9_1)).f1)) ∧ w'.cell? ⟨(ad109.add (((rd x2_1 x9_1)).toNat * 3)).block, (ad109.add (((rd x2_1 x9_1)).toNat * 3)).off + 2, none⟩ = some (.int .i64 ((rd_T42 (rd_L4 l1 x9_1) (rd x2_1 x9_1)).f2))) (ds := []) #[false, false, false, false, false, false, false, false, false, false, false, false] (by kernel_rfl) rfl rfl ⟨hx107_0, hx108_0, hx109_0, hx109_1, hx109_2⟩ (fun hHeld => ?_); refine with_tabW spec_l21Go.tab7 spec_l21Go.bits7 (fun HT_ HW_ => ?_)
   generalize w15.drew = w17 at HO_0 HO_2 HR106_0 HK HB HR107_0 hx107_0 hx108_0 hx109_0 hx109_1 hx109_2 hHeld ⊢
   refine pure_ (i := 0) (N := some 30) (v := ?_) (a' := ?_) #[true, false, false, false, false, false, false, false, false, false, false, false] rfl rfl (any_of HT_.out (by kernel_rfl)) (fun _ _ _ h => h) (Or.inl ⟨by rfl, ?_⟩) ?_ ?_
   rotate_left
   ·intro w'
    go_simp
    with_reducible rfl
   rotate_left
   ·exact zV2
   refine pure_ (i := 1) (N := some 31) (v := ?_) (a' := ?_) #[true, true, false, false, false, false, false, false, false, false, false, false] rfl rfl (any_of HT_.out (by kernel_rfl)) (fun _ _ _ h => h) (Or.inl ⟨by rfl, ?_⟩) ?_ ?_
   rotate_left
   ·intro w'
    go_simp
    with_reducible rfl
   rotate_left
   ·exact zV2
   refine pure_ (i := 2) (N := some 32) (v := ?_) (a' := ?_) #[true, true, true, false, false, false, false, false, false, false, false, false] rfl rfl (any_of HT_.out (by kernel_rfl)) (fun _ _ _ h => h) (Or.inl ⟨by rfl, ?_⟩) ?_ ?_
   rotate_left
   ·intro w'
    go_simp
    with_reducible rfl
   rotate_left
   ·exact zV2
   refine pure_ (i := 4) (N := some 34) (v := ?_) (a' := ?_) #[true, true, true, false, true, false, false, false, false, false, false, false] rfl rfl (any_of HT_.out (by kernel_rfl)) (fun _ _ _ h => h) (Or.inl ⟨by rfl, ?_⟩) ?_ ?_
   rotate_left
   ·intro w'
    go_simp
    with_reducible rfl
   rotate_left
   ·exact zV2
   refine pure_ (i := 5) (N := some 35) (v := ?_) (a' := ?_) #[true, true, true, false, true, true, false, false, false, false, false, false] rfl rfl (any_of HT_.out (by kernel_rfl)) (fun _ _ _ h => h) (Or.inl ⟨by rfl, ?_⟩) ?_ ?_
   rotate_left
   ·intro w'
    go_simp
    with_reducible rfl
   rotate_left
   ·exact zV2
   refine pure_ (i := 6) (N := some 36) (v := ?_) (a' := ?_) #[true, true, true, false, true, true, true, false, false, false, false, false] rfl rfl (any_of HT_.out (by kernel_rfl)) (fun _ _ _ h => h) (Or.inl ⟨by rfl, ?_⟩) ?_ ?_
   rotate_left
   ·intro w'
    go_simp
    with_reducible rfl
   rotate_left
   ·exact zV2
   refine take_ (i := 3) (N := some 33) (v := ?_) (a' := ?_) #[true, true, true, true, true, true, true, false, false, false, false, false] rfl rfl (take_ofW HT_.out HW_.out (by kernel_rfl)) (fun _ _ _ h => h) (Or.inl ⟨by rfl, ?_⟩) hHeld ?_ ?_
   rotate_left
   ·rintro w' ⟨s0, s1, s2, s3, s4⟩
    go_simp
    with_reducible rfl
   rotate_left
   ·exact zV2
   refine take_ (i := 7) (N := some 37) (v := ?_) (a' := ?_) #[true, true, true, true, true, true, true, true, false, false, false, false] rfl rfl (take_ofW HT_.out HW_.out (by kernel_rfl)) (fun _ _ _ h => h) (Or.inl ⟨by rfl, ?_⟩) hHeld ?_ ?_
   rotate_left
   ·rintro w' ⟨s0, s1, s2, s3, s4⟩
    go_simp
    with_reducible rfl
   rotate_left
   ·exact zV2
   refine pure_ (i := 8) (N := some 38) (v := ?_) (a' := ?_) #[true, true, true, true, true, true, true, true, true, false, false, false] rfl rfl (any_of HT_.out (by kernel_rfl)) (fun _ _ _ h => h) (Or.inl ⟨by rfl, ?_⟩) ?_ ?_
   rotate_left
   ·intro w'
    go_simp
    with_reducible rfl
   rotate_left
   ·exact zV2
   refine take_ (i := 9) (N := some 39) (v := ?_) (a' := ?_) #[true, true, true, true, true, true, true, true, true, true, false, false] rfl rfl (take_ofW HT_.out HW_.out (by kernel_rfl)) (fun _ _ _ h => h) (Or.inl ⟨by rfl, ?_⟩) hHeld ?_ ?_
   rotate_left
   ·rintro w' ⟨s0, s1, s2, s3, s4⟩
    go_simp
    with_reducible rfl
   rotate_left
   ·exact zV2
   refine one_ (i := 10) (N := some 10) #[true, true, true, true, true, true, true, true, true, true, true, false] rfl rfl (one_of HT_.out (by kernel_rfl)) (by decide) (fun K hK => ?_)
   refine box_step ?hg (N := 10) ?hd (cs := #[.int .i64 0, .int .i64 0, .int .i64 0]) (t := 42) ?hr ?_; (case hd => rfl); (case hg => rfl); (case hr => first | (go_simp; done) | (go_simp; rfl))
   intro gb110 hg w18 hbox hb
   have HS0_ := (hb.cell (World.block_lt_of_cell? _ _ (hHeld.1))).trans (hHeld.1)
   have HS1_ := (hb.cell (World.block_lt_of_cell? _ _ (hHeld.2.1))).trans (hHeld.2.1)
   have HS2_ := (hb.cell (World.block_lt_of_cell? _ _ (hHeld.2.2.1))).trans (hHeld.2.2.1)
   have HS3_ := (hb.cell (World.block_lt_of_cell? _ _ (hHeld.2.2.2.1))).trans (hHeld.2.2.2.1)
   have HS4_ := (hb.cell (World.block_lt_of_cell? _ _ (hHeld.2.2.2.2))).trans (hHeld.2.2.2.2)
   have n0_ := Aside0.mk (Kd.R_below (zR2 HO_0.out) hb)
   have n1_ := Aside0.mk (Kd.R_below (zR2 HO_2.out) hb)
   have n2_ := Aside0.mk (Kd.C_below (by repeat (first | (with_reducible exact HR106_0.out) | (with_reducible refine Kd.C_alloc ?_ _) | (with_reducible refine Kd.C_drewN ?_ _) | (with_reducible refine Kd.C_drew ?_) | exact HR106_0.out)) hb)
   have n3_ := Aside0.mk (Kd.C_below (by repeat (first | (with_reducible exact HR107_0.out) | (with_reducible refine Kd.C_alloc ?_ _) | (with_reducible refine Kd.C_drewN ?_ _) | (with_reducible refine Kd.C_drew ?_) | exact HR107_0.out)) hb)
   have n4_ := Aside0.mk (Kept.below (S := (fun k_ => P0_ k_ ∨ P2_ k_)) (zB2_1) hb)
   have n5_ := Aside0.mk (below_step (zB2_0) hb)
   have n6_ := Aside0.mk (hbox)
   have n7_ := Aside0.mk ((by rw [hg]; exact (by first | exact HK.out.1 | exact (show Kept w _ (fun k_ => P0_ k_ ∨ P2_ k_) from zB2_1).1) : w.heap.size ≤ gb110))
   have n8_ := Aside0.mk ((by rw [hg]; exact (below_size (zB2_0)) : w0.heap.size ≤ gb110))
   clear HO_0 HO_2 HR106_0 HR107_0 HK HB
   have HO_0 := n0_
   have HO_2 := n1_
   have HR106_0 := n2_
   have HR107_0 := n3_
   have HK := n4_
   have HB := n5_
   have BK110 := n6_
   have GW110 := n7_
   have GE110 := n8_
   clear n0_ n1_ n2_ n3_ n4_ n5_ n6_ n7_ n8_ hb hbox hg
   refine hK.out _ _ ⟨HS0_, HS1_, HS2_, HS3_, HS4_⟩ (fun hHeld => ?_)
   clear hK K
   refine norm_ (a' := ?_) ?_ ?_
   rotate_left
   ·show Act.put _ (some 10) _ = _
    simp only [Act.put, List.setIfInBounds_toArray, List.set_cons_zero, List.set_cons_succ, i64_w, i32_w]
    rfl
   refine one_ (i := 11) (N := none) #[true, true, true, true, true, true, true, true, true, true, true, true] rfl rfl (one_of HT_.out (by kernel_rfl)) (by decide) (fun K hK => ?_)
   have hs19 : w18.cell? ⟨gb110, 0, none⟩ = some (.int .i64 0) := (blk_cell BK110.out 0).trans rfl
   have hfs19 := blk_frozen BK110.out 0
   have hs20 : w18.cell? ⟨gb110, 1, none⟩ = some (.int .i64 0) := (blk_cell BK110.out 1).trans rfl
   have hfs20 := blk_frozen BK110.out 1
   have hs21 : w18.cell? ⟨gb110, 2, none⟩ = some (.int .i64 0) := (blk_cell BK110.out 2).trans rfl
   have hfs21 := blk_frozen BK110.out 2
   refine skip_ (w1 := ?_) (by rfl) rfl ?_ ?_
   rotate_left
   ·go_simp
    rfl
   refine hK.out _ _ ⟨((cell_far (p := ⟨gb110, _, none⟩) (by first | exact Nat.ne_of_lt (Nat.lt_of_lt_of_le (by have h_ := hlt107_0; first | (rw [add_block]; exact h_) | (show (Addr.add _ _).block < _; rw [add_block]; exact h_) | exact h_) GW110.out) | (rw [add_block]; exact Nat.ne_of_lt (Nat.lt_of_lt_of_le (by have h_ := hlt107_0; first | (rw [add_block]; exact h_) | (show (Addr.add _ _).block < _; rw [add_block]; exact h_) | exact h_) GW110.out)) | (show (Addr.add _ _).block ≠ _; rw [add_block]; exact Nat.ne_of_lt (Nat.lt_of_lt_of_le (by have h_ := hlt107_0; first | (rw [add_block]; exact h_) | (show (Addr.add _ _).block < _; rw [add_block]; exact h_) | exact h_) GW110.out)) | (dsimp only; exact Nat.ne_of_lt (Nat.lt_of_lt_of_le (by have h_ := hlt107_0; first | (rw [add_block]; exact h_) | (show (Addr.add _ _).block < _; rw [add_block]; exact h_) | exact h_) GW110.out))) _).trans (((cell_far (p := ⟨gb110, _, none⟩) (by first | exact Nat.ne_of_lt (Nat.lt_of_lt_of_le (by have h_ := hlt107_0; first | (rw [add_block]; exact h_) | (show (Addr.add _ _).block < _; rw [add_block]; exact h_) | exact h_) GW110.out) | (rw [add_block]; exact Nat.ne_of_lt (Nat.lt_of_lt_of_le (by have h_ := hlt107_0; first | (rw [add_block]; exact h_) | (show (Addr.add _ _).block < _; rw [add_block]; exact h_) | exact h_) GW110.out)) | (show (Addr.add _ _).block ≠ _; rw [add_block]; exact Nat.ne_of_lt (Nat.lt_of_lt_of_le (by have h_ := hlt107_0; first | (rw [add_block]; exact h_) | (show (Addr.add _ _).block < _; rw [add_block]; exact h_) | exact h_) GW110.out)) | (dsimp only; exact Nat.ne_of_lt (Nat.lt_of_lt_of_le (by have h_ := hlt107_0; first | (rw [add_block]; exact h_) | (show (Addr.add _ _).block < _; rw [add_block]; exact h_) | exact h_) GW110.out))) _).trans (((cell_far (p := ⟨gb110, _, none⟩) (by first | exact Nat.ne_of_lt (Nat.lt_of_lt_of_le (by have h_ := hlt107_0; first | (rw [add_block]; exact h_) | (show (Addr.add _ _).block < _; rw [add_block]; exact h_) | exact h_) GW110.out) | (rw [add_block]; exact Nat.ne_of_lt (Nat.lt_of_lt_of_le (by have h_ := hlt107_0; first | (rw [add_block]; exact h_) | (show (Addr.add _ _).block < _; rw [add_block]; exact h_) | exact h_) GW110.out)) | (show (Addr.add _ _).block ≠ _; rw [add_block]; exact Nat.ne_of_lt (Nat.lt_of_lt_of_le (by have h_ := hlt107_0; first | (rw [add_block]; exact h_) | (show (Addr.add _ _).block < _; rw [add_block]; exact h_) | exact h_) GW110.out)) | (dsimp only; exact Nat.ne_of_lt (Nat.lt_of_lt_of_le (by have h_ := hlt107_0; first | (rw [add_block]; exact h_) | (show (Addr.add _ _).block < _; rw [add_block]; exact h_) | exact h_) GW110.out))) _).trans (hHeld.1)))))), ((cell_far (p := ⟨gb110, _, none⟩) (by first | exact Kd.own_blk (Kd.R_ne HO_2.out BK110.out (by decide)) | (rw [add_block]; exact Kd.own_blk (Kd.R_ne HO_2.out BK110.out (by decide))) | (show (Addr.add _ _).block ≠ _; rw [add_block]; exact Kd.own_blk (Kd.R_ne HO_2.out BK110.out (by decide))) | (dsimp only; exact Kd.own_blk (Kd.R_ne HO_2.out BK110.out (by decide)))) _).trans (((cell_far (p := ⟨gb110, _, none⟩) (by first | exact Kd.own_blk (Kd.R_ne HO_2.out BK110.out (by decide)) | (rw [add_block]; exact Kd.own_blk (Kd.R_ne HO_2.out BK110.out (by decide))) | (show (Addr.add _ _).block ≠ _; rw [add_block]; exact Kd.own_blk (Kd.R_ne HO_2.out BK110.out (by decide))) | (dsimp only; exact Kd.own_blk (Kd.R_ne HO_2.out BK110.out (by decide)))) _).trans (((cell_far (p := ⟨gb110, _, none⟩) (by first | exact Kd.own_blk (Kd.R_ne HO_2.out BK110.out (by decide)) | (rw [add_block]; exact Kd.own_blk (Kd.R_ne HO_2.out BK110.out (by decide))) | (show (Addr.add _ _).block ≠ _; rw [add_block]; exact Kd.own_blk (Kd.R_ne HO_2.out BK110.out (by decide))) | (dsimp only; exact Kd.own_blk (Kd.R_ne HO_2.out BK110.out (by decide)))) _).trans (hHeld.2.1)))))), ((cell_far (p := ⟨gb110, _, none⟩) (by first | exact Nat.ne_of_lt (Nat.lt_of_lt_of_le (by have h_ := hlt109_0; first | (rw [add_block]; exact h_) | (show (Addr.add _ _).block < _; rw [add_block]; exact h_) | exact h_) GW110.out) | (rw [add_block]; exact Nat.ne_of_lt (Nat.lt_of_lt_of_le (by have h_ := hlt109_0; first | (rw [add_block]; exact h_) | (show (Addr.add _ _).block < _; rw [add_block]; exact h_) | exact h_) GW110.out)) | (show (Addr.add _ _).block ≠ _; rw [add_block]; exact Nat.ne_of_lt (Nat.lt_of_lt_of_le (by have h_ := hlt109_0; first | (rw [add_block]; exact h_) | (show (Addr.add _ _).block < _; rw [add_block]; exact h_) | exact h_) GW110.out)) | (dsimp only; exact Nat.ne_of_lt (Nat.lt_of_lt_of_le (by have h_ := hlt109_0; first | (rw [add_block]; exact h_) | (show (Addr.add _ _).block < _; rw [add_block]; exact h_) | exact h_) GW110.out))) _).trans (((cell_far (p := ⟨gb110, _, none⟩) (by first | exact Nat.ne_of_lt (Nat.lt_of_lt_of_le (by have h_ := hlt109_0; first | (rw [add_block]; exact h_) | (show (Addr.add _ _).block < _; rw [add_block]; exact h_) | exact h_) GW110.out) | (rw [add_block]; exact Nat.ne_of_lt (Nat.lt_of_lt_of_le (by have h_ := hlt109_0; first | (rw [add_block]; exact h_) | (show (Addr.add _ _).block < _; rw [add_block]; exact h_) | exact h_) GW110.out)) | (show (Addr.add _ _).block ≠ _; rw [add_block]; exact Nat.ne_of_lt (Nat.lt_of_lt_of_le (by have h_ := hlt109_0; first | (rw [add_block]; exact h_) | (show (Addr.add _ _).block < _; rw [add_block]; exact h_) | exact h_) GW110.out)) | (dsimp only; exact Nat.ne_of_lt (Nat.lt_of_lt_of_le (by have h_ := hlt109_0; first | (rw [add_block]; exact h_) | (show (Addr.add _ _).block < _; rw [add_block]; exact h_) | exact h_) GW110.out))) _).trans (((cell_far (p := ⟨gb110, _, none⟩) (by first | exact Nat.ne_of_lt (Nat.lt_of_lt_of_le (by have h_ := hlt109_0; first | (rw [add_block]; exact h_) | (show (Addr.add _ _).block < _; rw [add_block]; exact h_) | exact h_) GW110.out) | (rw [add_block]; exact Nat.ne_of_lt (Nat.lt_of_lt_of_le (by have h_ := hlt109_0; first | (rw [add_block]; exact h_) | (show (Addr.add _ _).block < _; rw [add_block]; exact h_) | exact h_) GW110.out)) | (show (Addr.add _ _).block ≠ _; rw [add_block]; exact Nat.ne_of_lt (Nat.lt_of_lt_of_le (by have h_ := hlt109_0; first | (rw [add_block]; exact h_) | (show (Addr.add _ _).block < _; rw [add_block]; exact h_) | exact h_) GW110.out)) | (dsimp only; exact Nat.ne_of_lt (Nat.lt_of_lt_of_le (by have h_ := hlt109_0; first | (rw [add_block]; exact h_) | (show (Addr.add _ _).block < _; rw [add_block]; exact h_) | exact h_) GW110.out))) _).trans (hHeld.2.2.1)))))), ((cell_far (p := ⟨gb110, _, none⟩) (by first | exact Nat.ne_of_lt (Nat.lt_of_lt_of_le (by have h_ := hlt109_1; first | (rw [add_block]; exact h_) | (show (Addr.add _ _).block < _; rw [add_block]; exact h_) | exact h_) GW110.out) | (rw [add_block]; exact Nat.ne_of_lt (Nat.lt_of_lt_of_le (by have h_ := hlt109_1; first | (rw [add_block]; exact h_) | (show (Addr.add _ _).block < _; rw [add_block]; exact h_) | exact h_) GW110.out)) | (show (Addr.add _ _).block ≠ _; rw [add_block]; exact Nat.ne_of_lt (Nat.lt_of_lt_of_le (by have h_ := hlt109_1; first | (rw [add_block]; exact h_) | (show (Addr.add _ _).block < _; rw [add_block]; exact h_) | exact h_) GW110.out)) | (dsimp only; exact Nat.ne_of_lt (Nat.lt_of_lt_of_le (by have h_ := hlt109_1; first | (rw [add_block]; exact h_) | (show (Addr.add _ _).block < _; rw [add_block]; exact h_) | exact h_) GW110.out))) _).trans (((cell_far (p := ⟨gb110, _, none⟩) (by first | exact Nat.ne_of_lt (Nat.lt_of_lt_of_le (by have h_ := hlt109_1; first | (rw [add_block]; exact h_) | (show (Addr.add _ _).block < _; rw [add_block]; exact h_) | exact h_) GW110.out) | (rw [add_block]; exact Nat.ne_of_lt (Nat.lt_of_lt_of_le (by have h_ := hlt109_1; first | (rw [add_block]; exact h_) | (show (Addr.add _ _).block < _; rw [add_block]; exact h_) | exact h_) GW110.out)) | (show (Addr.add _ _).block ≠ _; rw [add_block]; exact Nat.ne_of_lt (Nat.lt_of_lt_of_le (by have h_ := hlt109_1; first | (rw [add_block]; exact h_) | (show (Addr.add _ _).block < _; rw [add_block]; exact h_) | exact h_) GW110.out)) | (dsimp only; exact Nat.ne_of_lt (Nat.lt_of_lt_of_le (by have h_ := hlt109_1; first | (rw [add_block]; exact h_) | (show (Addr.add _ _).block < _; rw [add_block]; exact h_) | exact h_) GW110.out))) _).trans (((cell_far (p := ⟨gb110, _, none⟩) (by first | exact Nat.ne_of_lt (Nat.lt_of_lt_of_le (by have h_ := hlt109_1; first | (rw [add_block]; exact h_) | (show (Addr.add _ _).block < _; rw [add_block]; exact h_) | exact h_) GW110.out) | (rw [add_block]; exact Nat.ne_of_lt (Nat.lt_of_lt_of_le (by have h_ := hlt109_1; first | (rw [add_block]; exact h_) | (show (Addr.add _ _).block < _; rw [add_block]; exact h_) | exact h_) GW110.out)) | (show (Addr.add _ _).block ≠ _; rw [add_block]; exact Nat.ne_of_lt (Nat.lt_of_lt_of_le (by have h_ := hlt109_1; first | (rw [add_block]; exact h_) | (show (Addr.add _ _).block < _; rw [add_block]; exact h_) | exact h_) GW110.out)) | (dsimp only; exact Nat.ne_of_lt (Nat.lt_of_lt_of_le (by have h_ := hlt109_1; first | (rw [add_block]; exact h_) | (show (Addr.add _ _).block < _; rw [add_block]; exact h_) | exact h_) GW110.out))) _).trans (hHeld.2.2.2.1)))))), ((cell_far (p := ⟨gb110, _, none⟩) (by first | exact Nat.ne_of_lt (Nat.lt_of_lt_of_le (by have h_ := hlt109_2; first | (rw [add_block]; exact h_) | (show (Addr.add _ _).block < _; rw [add_block]; exact h_) | exact h_) GW110.out) | (rw [add_block]; exact Nat.ne_of_lt (Nat.lt_of_lt_of_le (by have h_ := hlt109_2; first | (rw [add_block]; exact h_) | (show (Addr.add _ _).block < _; rw [add_block]; exact h_) | exact h_) GW110.out)) | (show (Addr.add _ _).block ≠ _; rw [add_block]; exact Nat.ne_of_lt (Nat.lt_of_lt_of_le (by have h_ := hlt109_2; first | (rw [add_block]; exact h_) | (show (Addr.add _ _).block < _; rw [add_block]; exact h_) | exact h_) GW110.out)) | (dsimp only; exact Nat.ne_of_lt (Nat.lt_of_lt_of_le (by have h_ := hlt109_2; first | (rw [add_block]; exact h_) | (show (Addr.add _ _).block < _; rw [add_block]; exact h_) | exact h_) GW110.out))) _).trans (((cell_far (p := ⟨gb110, _, none⟩) (by first | exact Nat.ne_of_lt (Nat.lt_of_lt_of_le (by have h_ := hlt109_2; first | (rw [add_block]; exact h_) | (show (Addr.add _ _).block < _; rw [add_block]; exact h_) | exact h_) GW110.out) | (rw [add_block]; exact Nat.ne_of_lt (Nat.lt_of_lt_of_le (by have h_ := hlt109_2; first | (rw [add_block]; exact h_) | (show (Addr.add _ _).block < _; rw [add_block]; exact h_) | exact h_) GW110.out)) | (show (Addr.add _ _).block ≠ _; rw [add_block]; exact Nat.ne_of_lt (Nat.lt_of_lt_of_le (by have h_ := hlt109_2; first | (rw [add_block]; exact h_) | (show (Addr.add _ _).block < _; rw [add_block]; exact h_) | exact h_) GW110.out)) | (dsimp only; exact Nat.ne_of_lt (Nat.lt_of_lt_of_le (by have h_ := hlt109_2; first | (rw [add_block]; exact h_) | (show (Addr.add _ _).block < _; rw [add_block]; exact h_) | exact h_) GW110.out))) _).trans (((cell_far (p := ⟨gb110, _, none⟩) (by first | exact Nat.ne_of_lt (Nat.lt_of_lt_of_le (by have h_ := hlt109_2; first | (rw [add_block]; exact h_) | (show (Addr.add _ _).block < _; rw [add_block]; exact h_) | exact h_) GW110.out) | (rw [add_block]; exact Nat.ne_of_lt (Nat.lt_of_lt_of_le (by have h_ := hlt109_2; first | (rw [add_block]; exact h_) | (show (Addr.add _ _).block < _; rw [add_block]; exact h_) | exact h_) GW110.out)) | (show (Addr.add _ _).block ≠ _; rw [add_block]; exact Nat.ne_of_lt (Nat.lt_of_lt_of_le (by have h_ := hlt109_2; first | (rw [add_block]; exact h_) | (show (Addr.add _ _).block < _; rw [add_block]; exact h_) | exact h_) GW110.out)) | (dsimp only; exact Nat.ne_of_lt (Nat.lt_of_lt_of_le (by have h_ := hlt109_2; first | (rw [add_block]; exact h_) | (show (Addr.add _ _).block < _; rw [add_block]; exact h_) | exact h_) GW110.out))) _).trans (hHeld.2.2.2.2))))))⟩ (fun hHeld => ?_)
   clear hK K
   refine done_ (done_of HT_.out (by kernel_rfl)) ?_
   go_upto_region 8 with (fail)
   go_cut [58] (fun v58 wc => ∃ (kq : Nat) (x58_13 : Bool), v58 = .bool x58_13 ∧ Aside0 (spec_l21Go.j1 kq x0_1 l1 x2_1 a3 x9_1 x58_13 ((rd_T42 (rd_L4 l1 x9_1) (rd x2_1 x9_1)).f0) ((rd_T42 (rd_L4 l1 x9_1) (rd x2_1 x9_1)).f1) ((rd_T42 (rd_L4 l1 x9_1) (rd x2_1 x9_1)).f2) = some (r1, r2, r3)) ∧ Aside0 (kq ≤ k1) ∧ Aside0 (Kd.R (Kd.int .i64) 3 wc w0.heap.size (fun k_ => ((P0_ k_ ∨ P2_ k_) ∨ w.heap.size ≤ k_) ∧ some k_ ≠ ((.slice (some ad105) x2_1.length co16) : Value).ownBlock) u9000_ x0_1) ∧ Aside0 (Kd.R (Kd.int .i64) 3 wc w0.heap.size (fun k_ => ((P0_ k_ ∨ P2_ k_) ∨ w.heap.size ≤ k_) ∧ some k_ ≠ (u9000_ : Value).ownBlock) (.slice (some ad105) x2_1.length co16) x2_1) ∧ Aside0 (wc.heap[gb110]? = some (.cells #[.int .i64 ((rd_T42 (rd_L4 l1 x9_1) (rd x2_1 x9_1)).f0), .int .i64 ((rd_T42 (rd_L4 l1 x9_1) (rd x2_1 x9_1)).f1), .int .i64 ((rd_T42 (rd_L4 l1 x9_1) (rd x2_1 x9_1)).f2)] 42 (0, 0))) ∧ Aside0 (Kept w wc (fun k_ => P0_ k_ ∨ P2_ k_)) ∧ Aside0 (Below w0.heap.size w0 wc))
   case first =>
    have H := HC14.out
    clear HC14
    replace H := Option.bind_eq_some_iff.mp H
    obtain ⟨t111, A220, H⟩ := H
    replace H : (if t111 = true then (if ((rd_T42 (rd_L4 l1 x9_1) (rd x2_1 x9_1)).f1) ≥ 0 then (if 0 ≤ ((rd_T42 (rd_L4 l1 x9_1) (rd x2_1 x9_1)).f0) then (if ((rd_T42 (rd_L4 l1 x9_1) (rd x2_1 x9_1)).f0) < (x0_1.length : Int) then (spec_l21Go.j1 k1 x0_1 l1 x2_1 a3 x9_1 (((rd_T42 (rd_L4 l1 x9_1) (rd x2_1 x9_1)).f1) != (rd x0_1 ((rd_T42 (rd_L4 l1 x9_1) (rd x2_1 x9_1)).f0))) ((rd_T42 (rd_L4 l1 x9_1) (rd x2_1 x9_1)).f0) ((rd_T42 (rd_L4 l1 x9_1) (rd x2_1 x9_1)).f1) ((rd_T42 (rd_L4 l1 x9_1) (rd x2_1 x9_1)).f2)) else (none)) else (none)) else (spec_l21Go.j1 k1 x0_1 l1 x2_1 a3 x9_1 false ((rd_T42 (rd_L4 l1 x9_1) (rd x2_1 x9_1)).f0) ((rd_T42 (rd_L4 l1 x9_1) (rd x2_1 x9_1)).f1) ((rd_T42 (rd_L4 l1 x9_1) (rd x2_1 x9_1)).f2))) else (spec_l21Go.j1 k1 x0_1 l1 x2_1 a3 x9_1 true ((rd_T42 (rd_L4 l1 x9_1) (rd x2_1 x9_1)).f0) ((rd_T42 (rd_L4 l1 x9_1) (rd x2_1 x9_1)).f1) ((rd_T42 (rd_L4 l1 x9_1) (rd x2_1 x9_1)).f2))) = some (r1, r2, r3) := H
    have A22 := Aside0.mk A220
    clear A220
    by_cases c23 : t111 = true
    rotate_left
    ·replace c23 := Bool.eq_false_iff.mpr c23
     subst c23
     have H1 : (spec_l21Go.j1 k1 x0_1 l1 x2_1 a3 x9_1 true ((rd_T42 (rd_L4 l1 x9_1) (rd x2_1 x9_1)).f0) ((rd_T42 (rd_L4 l1 x9_1) (rd x2_1 x9_1)).f1) ((rd_T42 (rd_L4 l1 x9_1) (rd x2_1 x9_1)).f2)) = some (r1, r2, r3) := by rw [if_neg (show ¬ (false = true) by decide)] at H; exact H
     clear H
     have H := H1
     clear H1
     have H' := Aside0.mk H
     clear H
     try go_wp2
     have n0_ : Aside0 (Kd.R (Kd.int .i64) 3 (((w18.setCell ⟨gb110, 0, none⟩ (.int .i64 ((rd_T42 (rd_L4 l1 x9_1) (rd x2_1 x9_1)).f0))).setCell ⟨gb110, 1, none⟩ (.int .i64 ((rd_T42 (rd_L4 l1 x9_1) (rd x2_1 x9_1)).f1))).setCell ⟨gb110, 2, none⟩ (.int .i64 ((rd_T42 (rd_L4 l1 x9_1) (rd x2_1 x9_1)).f2))) w0.heap.size (fun k_ => ((P0_ k_ ∨ P2_ k_) ∨ w.heap.size ≤ k_) ∧ some k_ ≠ (.slice (some ad105) x2_1.length co16 : Value).ownBlock) u9000_ x0_1) := ⟨by (with_reducible repeat (first | apply Kd.R_alloc | apply Kd.R_drewN | apply Kd.R_drew)); exact Kd.R_mono (Kd.R_far (p := ⟨gb110, 2, none⟩) (Kd.R_far (p := ⟨gb110, 1, none⟩) (Kd.R_far (p := ⟨gb110, 0, none⟩) (Kd.R_types HO_0.out BK110.out (by decide)) (fun _ hk => hk.2) (.int .i64 ((rd_T42 (rd_L4 l1 x9_1) (rd x2_1 x9_1)).f0))) (fun _ hk => hk.2) (.int .i64 ((rd_T42 (rd_L4 l1 x9_1) (rd x2_1 x9_1)).f1))) (fun _ hk => hk.2) (.int .i64 ((rd_T42 (rd_L4 l1 x9_1) (rd x2_1 x9_1)).f2))) (fun _ hk => ⟨hk.1.1, hk.1.2⟩)⟩
     have n1_ : Aside0 (Kd.R (Kd.int .i64) 3 (((w18.setCell ⟨gb110, 0, none⟩ (.int .i64 ((rd_T42 (rd_L4 l1 x9_1) (rd x2_1 x9_1)).f0))).setCell ⟨gb110, 1, none⟩ (.int .i64 ((rd_T42 (rd_L4 l1 x9_1) (rd x2_1 x9_1)).f1))).setCell ⟨gb110, 2, none⟩ (.int .i64 ((rd_T42 (rd_L4 l1 x9_1) (rd x2_1 x9_1)).f2))) w0.heap.size (fun k_ => ((P0_ k_ ∨ P2_ k_) ∨ w.heap.size ≤ k_) ∧ some k_ ≠ (u9000_ : Value).ownBlock) (.slice (some ad105) x2_1.length co16) x2_1) := ⟨by (with_reducible repeat (first | apply Kd.R_alloc | apply Kd.R_drewN | apply Kd.R_drew)); exact Kd.R_mono (Kd.R_far (p := ⟨gb110, 2, none⟩) (Kd.R_far (p := ⟨gb110, 1, none⟩) (Kd.R_far (p := ⟨gb110, 0, none⟩) (Kd.R_types HO_2.out BK110.out (by decide)) (fun _ hk => hk.2) (.int .i64 ((rd_T42 (rd_L4 l1 x9_1) (rd x2_1 x9_1)).f0))) (fun _ hk => hk.2) (.int .i64 ((rd_T42 (rd_L4 l1 x9_1) (rd x2_1 x9_1)).f1))) (fun _ hk => hk.2) (.int .i64 ((rd_T42 (rd_L4 l1 x9_1) (rd x2_1 x9_1)).f2))) (fun _ hk => ⟨hk.1.1, hk.1.2⟩)⟩
     have n2_ : Aside0 ((((w18.setCell ⟨gb110, 0, none⟩ (.int .i64 ((rd_T42 (rd_L4 l1 x9_1) (rd x2_1 x9_1)).f0))).setCell ⟨gb110, 1, none⟩ (.int .i64 ((rd_T42 (rd_L4 l1 x9_1) (rd x2_1 x9_1)).f1))).setCell ⟨gb110, 2, none⟩ (.int .i64 ((rd_T42 (rd_L4 l1 x9_1) (rd x2_1 x9_1)).f2))).heap[gb110]? = some (.cells #[.int .i64 ((rd_T42 (rd_L4 l1 x9_1) (rd x2_1 x9_1)).f0), .int .i64 ((rd_T42 (rd_L4 l1 x9_1) (rd x2_1 x9_1)).f1), .int .i64 ((rd_T42 (rd_L4 l1 x9_1) (rd x2_1 x9_1)).f2)] 42 (0, 0))) := ⟨by refine zP2 ?_; refine blk_put (cs := #[.int .i64 ((rd_T42 (rd_L4 l1 x9_1) (rd x2_1 x9_1)).f0), .int .i64 ((rd_T42 (rd_L4 l1 x9_1) (rd x2_1 x9_1)).f1), .int .i64 0]) ?_ 2 _ rfl; refine zP2 ?_; refine blk_put (cs := #[.int .i64 ((rd_T42 (rd_L4 l1 x9_1) (rd x2_1 x9_1)).f0), .int .i64 0, .int .i64 0]) ?_ 1 _ rfl; refine zP2 ?_; refine blk_put (cs := #[.int .i64 0, .int .i64 0, .int .i64 0]) ?_ 0 _ rfl; refine zP2 ?_; exact BK110.out⟩
     have n3_ : Aside0 (Kept w (((w18.setCell ⟨gb110, 0, none⟩ (.int .i64 ((rd_T42 (rd_L4 l1 x9_1) (rd x2_1 x9_1)).f0))).setCell ⟨gb110, 1, none⟩ (.int .i64 ((rd_T42 (rd_L4 l1 x9_1) (rd x2_1 x9_1)).f1))).setCell ⟨gb110, 2, none⟩ (.int .i64 ((rd_T42 (rd_L4 l1 x9_1) (rd x2_1 x9_1)).f2))) (fun k_ => P0_ k_ ∨ P2_ k_)) := ⟨zB2_2⟩
     have n4_ : Aside0 (Below w0.heap.size w0 (((w18.setCell ⟨gb110, 0, none⟩ (.int .i64 ((rd_T42 (rd_L4 l1 x9_1) (rd x2_1 x9_1)).f0))).setCell ⟨gb110, 1, none⟩ (.int .i64 ((rd_T42 (rd_L4 l1 x9_1) (rd x2_1 x9_1)).f1))).setCell ⟨gb110, 2, none⟩ (.int .i64 ((rd_T42 (rd_L4 l1 x9_1) (rd x2_1 x9_1)).f2)))) := ⟨zB2_3⟩
     (try clear HO_0)
     (try clear HO_2)
     (try clear BK110)
     (try clear HK)
     (try clear HB)
     generalize (((w18.setCell ⟨gb110, 0, none⟩ (.int .i64 ((rd_T42 (rd_L4 l1 x9_1) (rd x2_1 x9_1)).f0))).setCell ⟨gb110, 1, none⟩ (.int .i64 ((rd_T42 (rd_L4 l1 x9_1) (rd x2_1 x9_1)).f1))).setCell ⟨gb110, 2, none⟩ (.int .i64 ((rd_T42 (rd_L4 l1 x9_1) (rd x2_1 x9_1)).f2))) = w32 at n0_ n1_ n2_ n3_ n4_ ⊢
     have HO_0 := n0_
     have HO_2 := n1_
     have BK110 := n2_
     have HK := n3_
     have HB := n4_
     clear n0_ n1_ n2_ n3_ n4_
     have n0_ := Aside0.mk (Kd.R_drew HO_0.out)
     have n1_ := Aside0.mk (Kd.R_drew HO_2.out)
     have n2_ := Aside0.mk (blk_drew BK110.out)
     have n3_ := Aside0.mk (Kept.drew HK.out)
     have n4_ := Aside0.mk (below_drew1 HB.out)
     clear HO_0 HO_2 BK110 HK HB
     have HO_0 := n0_
     have HO_2 := n1_
     have BK110 := n2_
     have HK := n3_
     have HB := n4_
     clear n0_ n1_ n2_ n3_ n4_
     refine start_ (n := 19) (S := fun w' => w'.cell? ⟨gb110, 0, none⟩ = some (.int .i64 ((rd_T42 (rd_L4 l1 x9_1) (rd x2_1 x9_1)).f0)) ∧ w'.cell? ⟨gb110, 1, none⟩ = some (.int .i64 ((rd_T42 (rd_L4 l1 x9_1) (rd x2_1 x9_1)).f1)) ∧ w'.cell? ⟨gb110, 2, none⟩ = some (.int .i64 ((rd_T42 (rd_L4 l1 x9_1) (rd x2_1 x9_1)).f2))) (ds := []) zq2_11 (by kernel_rfl) rfl rfl ⟨(blk_cell BK110.out 0).trans rfl, (blk_cell BK110.out 1).trans rfl, (blk_cell BK110.out 2).trans rfl⟩ (fun hHeld => ?_); refine with_tabW spec_l21Go.tab8 spec_l21Go.bits8 (fun HT_ HW_ => ?_)
     generalize w32.drew = w33 at HO_0 HO_2 BK110 HK HB hHeld ⊢
     refine pure_ (i := 0) (N := some 40) (v := ?_) (a' := ?_) zq2_12 rfl rfl (any_of HT_.out (by kernel_rfl)) (fun _ _ _ h => h) (Or.inl ⟨by rfl, ?_⟩) ?_ ?_
     rotate_left
     ·intro w'
      go_simp
      with_reducible rfl
     rotate_left
     ·exact zV2
     refine take_ (i := 1) (N := some 41) (v := ?_) (a' := ?_) zq2_13 rfl rfl (take_ofW HT_.out HW_.out (by kernel_rfl)) (fun _ _ _ h => h) (Or.inl ⟨by rfl, ?_⟩) hHeld ?_ ?_
     rotate_left
     ·rintro w' ⟨s0, s1, s2⟩
      go_simp
      with_reducible rfl
     rotate_left
     ·exact zV2
     refine one_ (i := 2) (N := some 42) zq2_14 rfl rfl (one_of HT_.out (by kernel_rfl)) (by decide) (fun K hK => ?_)
     refine goes_ Try.func18 (by kernel_rfl) rfl #[.int .i64 ((rd_T42 (rd_L4 l1 x9_1) (rd x2_1 x9_1)).f0), .int .i64 0, .int .i64 23] (by rfl) rfl rfl zT2 ?_
     with_reducible refine (spec_l1In.calls ((rd_T42 (rd_L4 l1 x9_1) (rd x2_1 x9_1)).f0) 0 23 false _ A22.out).mono ?_
     rintro e w' ⟨rfl, ⟨nd, rfl⟩⟩
     refine ⟨_, rfl, ?_⟩
     refine hK.out _ _ ⟨(blk_cell BK110.out 0).trans rfl, (blk_cell BK110.out 1).trans rfl, (blk_cell BK110.out 2).trans rfl⟩ (fun hHeld => ?_)
     clear hK K
     refine norm_ (a' := ?_) ?_ ?_
     rotate_left
     ·show Act.put _ (some 42) _ = _
      simp only [Act.put, List.setIfInBounds_toArray, List.set_cons_zero, List.set_cons_succ, i64_w, i32_w]
      rfl
     refine pure_ (i := 3) (N := some 43) (v := ?_) (a' := ?_) zq2_15 rfl rfl (any_of HT_.out (by kernel_rfl)) (fun _ _ _ h => h) (Or.inl ⟨by rfl, ?_⟩) ?_ ?_
     rotate_left
     ·intro w'
      go_simp
      with_reducible rfl
     rotate_left
     ·exact zV2
     refine pure_ (i := 4) (N := some 44) (v := ?_) (a' := ?_) zq2_16 rfl rfl (any_of HT_.out (by kernel_rfl)) (fun _ _ _ h => h) (Or.inl ⟨by rfl, ?_⟩) ?_ ?_
     rotate_left
     ·intro w'
      go_simp
      with_reducible rfl
     rotate_left
     ·exact zV2
     refine pure_ (i := 5) (N := some 45) (v := undef) (a' := ?_) zq2_17 rfl rfl (any_of HT_.out (by kernel_rfl)) (fun _ _ _ h => h) (Or.inr ⟨by rfl, rfl⟩) ?_ ?_
     rotate_left
     ·exact zV2
     refine pure_ (i := 6) (N := some 46) (v := undef) (a' := ?_) zq2_18 rfl rfl (any_of HT_.out (by kernel_rfl)) (fun _ _ _ h => h) (Or.inr ⟨by rfl, rfl⟩) ?_ ?_
     rotate_left
     ·exact zV2
     refine pure_ (i := 7) (N := some 47) (v := undef) (a' := ?_) zq2_19 rfl rfl (any_of HT_.out (by kernel_rfl)) (fun _ _ _ h => h) (Or.inr ⟨by rfl, rfl⟩) ?_ ?_
     rotate_left
     ·exact zV2
     refine pure_ (i := 8) (N := some 48) (v := undef) (a' := ?_) zq2_20 rfl rfl (any_of HT_.out (by kernel_rfl)) (fun _ _ _ h => h) (Or.inr ⟨by rfl, rfl⟩) ?_ ?_
     rotate_left
     ·exact zV2
     refine pure_ (i := 9) (N := some 49) (v := undef) (a' := ?_) zq2_21 rfl rfl (any_of HT_.out (by kernel_rfl)) (fun _ _ _ h => h) (Or.inr ⟨by rfl, rfl⟩) ?_ ?_
     rotate_left
     ·exact zV2
     refine pure_ (i := 10) (N := some 50) (v := undef) (a' := ?_) zq2_29 rfl rfl (any_of HT_.out (by kernel_rfl)) (fun _ _ _ h => h) (Or.inr ⟨by rfl, rfl⟩) ?_ ?_
     rotate_left
     ·exact zV2
     refine pure_ (i := 11) (N := some 51) (v := undef) (a' := ?_) zq2_30 rfl rfl (any_of HT_.out (by kernel_rfl)) (fun _ _ _ h => h) (Or.inr ⟨by rfl, rfl⟩) ?_ ?_
     rotate_left
     ·exact zV2
     refine pure_ (i := 12) (N := some 52) (v := undef) (a' := ?_) zq2_22 rfl rfl (any_of HT_.out (by kernel_rfl)) (fun _ _ _ h => h) (Or.inr ⟨by rfl, rfl⟩) ?_ ?_
     rotate_left
     ·exact zV2
     refine pure_ (i := 13) (N := some 53) (v := undef) (a' := ?_) zq2_23 rfl rfl (any_of HT_.out (by kernel_rfl)) (fun _ _ _ h => h) (Or.inr ⟨by rfl, rfl⟩) ?_ ?_
     rotate_left
     ·exact zV2
     refine pure_ (i := 14) (N := some 54) (v := undef) (a' := ?_) zq2_24 rfl rfl (any_of HT_.out (by kernel_rfl)) (fun _ _ _ h => h) (Or.inr ⟨by rfl, rfl⟩) ?_ ?_
     rotate_left
     ·exact zV2
     refine pure_ (i := 15) (N := some 55) (v := undef) (a' := ?_) zq2_25 rfl rfl (any_of HT_.out (by kernel_rfl)) (fun _ _ _ h => h) (Or.inr ⟨by rfl, rfl⟩) ?_ ?_
     rotate_left
     ·exact zV2
     refine pure_ (i := 16) (N := some 56) (v := undef) (a' := ?_) zq2_26 rfl rfl (any_of HT_.out (by kernel_rfl)) (fun _ _ _ h => h) (Or.inr ⟨by rfl, rfl⟩) ?_ ?_
     rotate_left
     ·exact zV2
     refine pure_ (i := 17) (N := some 57) (v := undef) (a' := ?_) zq2_27 rfl rfl (any_of HT_.out (by kernel_rfl)) (fun _ _ _ h => h) (Or.inr ⟨by rfl, rfl⟩) ?_ ?_
     rotate_left
     ·exact zV2
     refine pure_ (i := 18) (N := some 58) (v := ?_) (a' := ?_) zq2_28 rfl rfl (any_of HT_.out (by kernel_rfl)) (fun _ _ _ h => h) (Or.inl ⟨by rfl, ?_⟩) ?_ ?_
     rotate_left
     ·intro w'
      go_simp
      with_reducible rfl
     rotate_left
     ·exact zV2
     refine done_ (done_of HT_.out (by kernel_rfl)) ?_
     try go_wp2
     go_meet
     case rel => exact ⟨_, (true), (by first | rfl | (simp; done) | (simp [*]; done)), H', ⟨by have := HK1.out; first | omega | exact Nat.le_refl _⟩, ⟨zR2 HO_0.out⟩, ⟨zR2 HO_2.out⟩, ⟨zK2 BK110.out⟩, ⟨zB2_2⟩, ⟨zB2_3⟩⟩
    subst c23
    have H1 : (if ((rd_T42 (rd_L4 l1 x9_1) (rd x2_1 x9_1)).f1) ≥ 0 then (if 0 ≤ ((rd_T42 (rd_L4 l1 x9_1) (rd x2_1 x9_1)).f0) then (if ((rd_T42 (rd_L4 l1 x9_1) (rd x2_1 x9_1)).f0) < (x0_1.length : Int) then (spec_l21Go.j1 k1 x0_1 l1 x2_1 a3 x9_1 (((rd_T42 (rd_L4 l1 x9_1) (rd x2_1 x9_1)).f1) != (rd x0_1 ((rd_T42 (rd_L4 l1 x9_1) (rd x2_1 x9_1)).f0))) ((rd_T42 (rd_L4 l1 x9_1) (rd x2_1 x9_1)).f0) ((rd_T42 (rd_L4 l1 x9_1) (rd x2_1 x9_1)).f1) ((rd_T42 (rd_L4 l1 x9_1) (rd x2_1 x9_1)).f2)) else (none)) else (none)) else (spec_l21Go.j1 k1 x0_1 l1 x2_1 a3 x9_1 false ((rd_T42 (rd_L4 l1 x9_1) (rd x2_1 x9_1)).f0) ((rd_T42 (rd_L4 l1 x9_1) (rd x2_1 x9_1)).f1) ((rd_T42 (rd_L4 l1 x9_1) (rd x2_1 x9_1)).f2))) = some (r1, r2, r3) := by rw [if_pos rfl] at H; exact H
    clear H
    have H := H1
    clear H1
    by_cases c24 : ((rd_T42 (rd_L4 l1 x9_1) (rd x2_1 x9_1)).f1) ≥ 0
    rotate_left
    ·rw [if_neg c24] at H
     have c24b0 : decide (0 ≤ ((rd_T42 (rd_L4 l1 x9_1) (rd x2_1 x9_1)).f1)) = false := decide_eq_false c24
     clear c24
     (first | rw [c24b0] | (simp only [i64_w, i32_w]; rw [c24b0]) | skip)
     have H' := Aside0.mk H
     clear H
     try go_wp2
     have n0_ : Aside0 (Kd.R (Kd.int .i64) 3 (((w18.setCell ⟨gb110, 0, none⟩ (.int .i64 ((rd_T42 (rd_L4 l1 x9_1) (rd x2_1 x9_1)).f0))).setCell ⟨gb110, 1, none⟩ (.int .i64 ((rd_T42 (rd_L4 l1 x9_1) (rd x2_1 x9_1)).f1))).setCell ⟨gb110, 2, none⟩ (.int .i64 ((rd_T42 (rd_L4 l1 x9_1) (rd x2_1 x9_1)).f2))) w0.heap.size (fun k_ => ((P0_ k_ ∨ P2_ k_) ∨ w.heap.size ≤ k_) ∧ some k_ ≠ (.slice (some ad105) x2_1.length co16 : Value).ownBlock) u9000_ x0_1) := ⟨by (with_reducible repeat (first | apply Kd.R_alloc | apply Kd.R_drewN | apply Kd.R_drew)); exact Kd.R_mono (Kd.R_far (p := ⟨gb110, 2, none⟩) (Kd.R_far (p := ⟨gb110, 1, none⟩) (Kd.R_far (p := ⟨gb110, 0, none⟩) (Kd.R_types HO_0.out BK110.out (by decide)) (fun _ hk => hk.2) (.int .i64 ((rd_T42 (rd_L4 l1 x9_1) (rd x2_1 x9_1)).f0))) (fun _ hk => hk.2) (.int .i64 ((rd_T42 (rd_L4 l1 x9_1) (rd x2_1 x9_1)).f1))) (fun _ hk => hk.2) (.int .i64 ((rd_T42 (rd_L4 l1 x9_1) (rd x2_1 x9_1)).f2))) (fun _ hk => ⟨hk.1.1, hk.1.2⟩)⟩
     have n1_ : Aside0 (Kd.R (Kd.int .i64) 3 (((w18.setCell ⟨gb110, 0, none⟩ (.int .i64 ((rd_T42 (rd_L4 l1 x9_1) (rd x2_1 x9_1)).f0))).setCell ⟨gb110, 1, none⟩ (.int .i64 ((rd_T42 (rd_L4 l1 x9_1) (rd x2_1 x9_1)).f1))).setCell ⟨gb110, 2, none⟩ (.int .i64 ((rd_T42 (rd_L4 l1 x9_1) (rd x2_1 x9_1)).f2))) w0.heap.size (fun k_ => ((P0_ k_ ∨ P2_ k_) ∨ w.heap.size ≤ k_) ∧ some k_ ≠ (u9000_ : Value).ownBlock) (.slice (some ad105) x2_1.length co16) x2_1) := ⟨by (with_reducible repeat (first | apply Kd.R_alloc | apply Kd.R_drewN | apply Kd.R_drew)); exact Kd.R_mono (Kd.R_far (p := ⟨gb110, 2, none⟩) (Kd.R_far (p := ⟨gb110, 1, none⟩) (Kd.R_far (p := ⟨gb110, 0, none⟩) (Kd.R_types HO_2.out BK110.out (by decide)) (fun _ hk => hk.2) (.int .i64 ((rd_T42 (rd_L4 l1 x9_1) (rd x2_1 x9_1)).f0))) (fun _ hk => hk.2) (.int .i64 ((rd_T42 (rd_L4 l1 x9_1) (rd x2_1 x9_1)).f1))) (fun _ hk => hk.2) (.int .i64 ((rd_T42 (rd_L4 l1 x9_1) (rd x2_1 x9_1)).f2))) (fun _ hk => ⟨hk.1.1, hk.1.2⟩)⟩
     have n2_ : Aside0 ((((w18.setCell ⟨gb110, 0, none⟩ (.int .i64 ((rd_T42 (rd_L4 l1 x9_1) (rd x2_1 x9_1)).f0))).setCell ⟨gb110, 1, none⟩ (.int .i64 ((rd_T42 (rd_L4 l1 x9_1) (rd x2_1 x9_1)).f1))).setCell ⟨gb110, 2, none⟩ (.int .i64 ((rd_T42 (rd_L4 l1 x9_1) (rd x2_1 x9_1)).f2))).heap[gb110]? = some (.cells #[.int .i64 ((rd_T42 (rd_L4 l1 x9_1) (rd x2_1 x9_1)).f0), .int .i64 ((rd_T42 (rd_L4 l1 x9_1) (rd x2_1 x9_1)).f1), .int .i64 ((rd_T42 (rd_L4 l1 x9_1) (rd x2_1 x9_1)).f2)] 42 (0, 0))) := ⟨by refine zP2 ?_; refine blk_put (cs := #[.int .i64 ((rd_T42 (rd_L4 l1 x9_1) (rd x2_1 x9_1)).f0), .int .i64 ((rd_T42 (rd_L4 l1 x9_1) (rd x2_1 x9_1)).f1), .int .i64 0]) ?_ 2 _ rfl; refine zP2 ?_; refine blk_put (cs := #[.int .i64 ((rd_T42 (rd_L4 l1 x9_1) (rd x2_1 x9_1)).f0), .int .i64 0, .int .i64 0]) ?_ 1 _ rfl; refine zP2 ?_; refine blk_put (cs := #[.int .i64 0, .int .i64 0, .int .i64 0]) ?_ 0 _ rfl; refine zP2 ?_; exact BK110.out⟩
     have n3_ : Aside0 (Kept w (((w18.setCell ⟨gb110, 0, none⟩ (.int .i64 ((rd_T42 (rd_L4 l1 x9_1) (rd x2_1 x9_1)).f0))).setCell ⟨gb110, 1, none⟩ (.int .i64 ((rd_T42 (rd_L4 l1 x9_1) (rd x2_1 x9_1)).f1))).setCell ⟨gb110, 2, none⟩ (.int .i64 ((rd_T42 (rd_L4 l1 x9_1) (rd x2_1 x9_1)).f2))) (fun k_ => P0_ k_ ∨ P2_ k_)) := ⟨zB2_2⟩
     have n4_ : Aside0 (Below w0.heap.size w0 (((w18.setCell ⟨gb110, 0, none⟩ (.int .i64 ((rd_T42 (rd_L4 l1 x9_1) (rd x2_1 x9_1)).f0))).setCell ⟨gb110, 1, none⟩ (.int .i64 ((rd_T42 (rd_L4 l1 x9_1) (rd x2_1 x9_1)).f1))).setCell ⟨gb110, 2, none⟩ (.int .i64 ((rd_T42 (rd_L4 l1 x9_1) (rd x2_1 x9_1)).f2)))) := ⟨zB2_3⟩
     (try clear HO_0)
     (try clear HO_2)
     (try clear BK110)
     (try clear HK)
     (try clear HB)
     generalize (((w18.setCell ⟨gb110, 0, none⟩ (.int .i64 ((rd_T42 (rd_L4 l1 x9_1) (rd x2_1 x9_1)).f0))).setCell ⟨gb110, 1, none⟩ (.int .i64 ((rd_T42 (rd_L4 l1 x9_1) (rd x2_1 x9_1)).f1))).setCell ⟨gb110, 2, none⟩ (.int .i64 ((rd_T42 (rd_L4 l1 x9_1) (rd x2_1 x9_1)).f2))) = w30 at n0_ n1_ n2_ n3_ n4_ ⊢
     have HO_0 := n0_
     have HO_2 := n1_
     have BK110 := n2_
     have HK := n3_
     have HB := n4_
     clear n0_ n1_ n2_ n3_ n4_
     have n0_ := Aside0.mk (Kd.R_drew HO_0.out)
     have n1_ := Aside0.mk (Kd.R_drew HO_2.out)
     have n2_ := Aside0.mk (blk_drew BK110.out)
     have n3_ := Aside0.mk (Kept.drew HK.out)
     have n4_ := Aside0.mk (below_drew1 HB.out)
     clear HO_0 HO_2 BK110 HK HB
     have HO_0 := n0_
     have HO_2 := n1_
     have BK110 := n2_
     have HK := n3_
     have HB := n4_
     clear n0_ n1_ n2_ n3_ n4_
     refine start_ (n := 19) (S := fun w' => w'.cell? ⟨gb110, 0, none⟩ = some (.int .i64 ((rd_T42 (rd_L4 l1 x9_1) (rd x2_1 x9_1)).f0)) ∧ w'.cell? ⟨gb110, 1, none⟩ = some (.int .i64 ((rd_T42 (rd_L4 l1 x9_1) (rd x2_1 x9_1)).f1)) ∧ w'.cell? ⟨gb110, 2, none⟩ = some (.int .i64 ((rd_T42 (rd_L4 l1 x9_1) (rd x2_1 x9_1)).f2))) (ds := []) zq2_11 (by kernel_rfl) rfl rfl ⟨(blk_cell BK110.out 0).trans rfl, (blk_cell BK110.out 1).trans rfl, (blk_cell BK110.out 2).trans rfl⟩ (fun hHeld => ?_); refine with_tabW spec_l21Go.tab8 spec_l21Go.bits8 (fun HT_ HW_ => ?_)
     generalize w30.drew = w31 at HO_0 HO_2 BK110 HK HB hHeld ⊢
     refine pure_ (i := 0) (N := some 40) (v := ?_) (a' := ?_) zq2_12 rfl rfl (any_of HT_.out (by kernel_rfl)) (fun _ _ _ h => h) (Or.inl ⟨by rfl, ?_⟩) ?_ ?_
     rotate_left
     ·intro w'
      go_simp
      with_reducible rfl
     rotate_left
     ·exact zV2
     refine take_ (i := 1) (N := some 41) (v := ?_) (a' := ?_) zq2_13 rfl rfl (take_ofW HT_.out HW_.out (by kernel_rfl)) (fun _ _ _ h => h) (Or.inl ⟨by rfl, ?_⟩) hHeld ?_ ?_
     rotate_left
     ·rintro w' ⟨s0, s1, s2⟩
      go_simp
      with_reducible rfl
     rotate_left
     ·exact zV2
     refine one_ (i := 2) (N := some 42) zq2_14 rfl rfl (one_of HT_.out (by kernel_rfl)) (by decide) (fun K hK => ?_)
     refine goes_ Try.func18 (by kernel_rfl) rfl #[.int .i64 ((rd_T42 (rd_L4 l1 x9_1) (rd x2_1 x9_1)).f0), .int .i64 0, .int .i64 23] (by rfl) rfl rfl zT2 ?_
     with_reducible refine (spec_l1In.calls ((rd_T42 (rd_L4 l1 x9_1) (rd x2_1 x9_1)).f0) 0 23 true _ A22.out).mono ?_
     rintro e w' ⟨rfl, ⟨nd, rfl⟩⟩
     refine ⟨_, rfl, ?_⟩
     refine hK.out _ _ ⟨(blk_cell BK110.out 0).trans rfl, (blk_cell BK110.out 1).trans rfl, (blk_cell BK110.out 2).trans rfl⟩ (fun hHeld => ?_)
     clear hK K
     refine norm_ (a' := ?_) ?_ ?_
     rotate_left
     ·show Act.put _ (some 42) _ = _
      simp only [Act.put, List.setIfInBounds_toArray, List.set_cons_zero, List.set_cons_succ, i64_w, i32_w]
      rfl
     refine pure_ (i := 3) (N := some 43) (v := ?_) (a' := ?_) zq2_15 rfl rfl (any_of HT_.out (by kernel_rfl)) (fun _ _ _ h => h) (Or.inl ⟨by rfl, ?_⟩) ?_ ?_
     rotate_left
     ·intro w'
      go_simp
      with_reducible rfl
     rotate_left
     ·exact zV2
     refine pure_ (i := 4) (N := some 44) (v := ?_) (a' := ?_) zq2_16 rfl rfl (any_of HT_.out (by kernel_rfl)) (fun _ _ _ h => h) (Or.inl ⟨by rfl, ?_⟩) ?_ ?_
     rotate_left
     ·intro w'
      go_simp
      with_reducible rfl
     rotate_left
     ·exact zV2
     refine pure_ (i := 5) (N := some 45) (v := ?_) (a' := ?_) zq2_17 rfl rfl (any_of HT_.out (by kernel_rfl)) (fun _ _ _ h => h) (Or.inl ⟨by rfl, ?_⟩) ?_ ?_
     rotate_left
     ·intro w'
      go_simp
      with_reducible rfl
     rotate_left
     ·exact zV2
     refine take_ (i := 6) (N := some 46) (v := ?_) (a' := ?_) zq2_18 rfl rfl (take_ofW HT_.out HW_.out (by kernel_rfl)) (fun _ _ _ h => h) (Or.inl ⟨by rfl, ?_⟩) hHeld ?_ ?_
     rotate_left
     ·rintro w' ⟨s0, s1, s2⟩
      go_simp
      with_reducible rfl
     rotate_left
     ·exact zV2
     refine pure_ (i := 7) (N := some 47) (v := ?_) (a' := ?_) zq2_19 rfl rfl (any_of HT_.out (by kernel_rfl)) (fun _ _ _ h => h) (Or.inl ⟨by rfl, ?_⟩) ?_ ?_
     rotate_left
     ·intro w'
      go_simp
      with_reducible rfl
     rotate_left
     ·exact zV2
     refine pure_ (i := 8) (N := some 48) (v := ?_) (a' := ?_) zq2_20 rfl rfl (any_of HT_.out (by kernel_rfl)) (fun _ _ _ h => h) (Or.inl ⟨by rfl, ?_⟩) ?_ ?_
     rotate_left
     ·intro w'
      go_simp
      with_reducible rfl
     rotate_left
     ·exact zV2
     refine pure_ (i := 9) (N := some 49) (v := undef) (a' := ?_) zq2_21 rfl rfl (any_of HT_.out (by kernel_rfl)) (fun _ _ _ h => h) (Or.inr ⟨by rfl, rfl⟩) ?_ ?_
     rotate_left
     ·exact zV2
     refine pure_ (i := 10) (N := some 50) (v := undef) (a' := ?_) zq2_29 rfl rfl (any_of HT_.out (by kernel_rfl)) (fun _ _ _ h => h) (Or.inr ⟨by rfl, rfl⟩) ?_ ?_
     rotate_left
     ·exact zV2
     refine pure_ (i := 11) (N := some 51) (v := undef) (a' := ?_) zq2_30 rfl rfl (any_of HT_.out (by kernel_rfl)) (fun _ _ _ h => h) (Or.inr ⟨by rfl, rfl⟩) ?_ ?_
     rotate_left
     ·exact zV2
     refine pure_ (i := 12) (N := some 52) (v := undef) (a' := ?_) zq2_22 rfl rfl (any_of HT_.out (by kernel_rfl)) (fun _ _ _ h => h) (Or.inr ⟨by rfl, rfl⟩) ?_ ?_
     rotate_left
     ·exact zV2
     refine pure_ (i := 13) (N := some 53) (v := undef) (a' := ?_) zq2_23 rfl rfl (any_of HT_.out (by kernel_rfl)) (fun _ _ _ h => h) (Or.inr ⟨by rfl, rfl⟩) ?_ ?_
     rotate_left
     ·exact zV2
     refine pure_ (i := 14) (N := some 54) (v := undef) (a' := ?_) zq2_24 rfl rfl (any_of HT_.out (by kernel_rfl)) (fun _ _ _ h => h) (Or.inr ⟨by rfl, rfl⟩) ?_ ?_
     rotate_left
     ·exact zV2
     refine pure_ (i := 15) (N := some 55) (v := undef) (a' := ?_) zq2_25 rfl rfl (any_of HT_.out (by kernel_rfl)) (fun _ _ _ h => h) (Or.inr ⟨by rfl, rfl⟩) ?_ ?_
     rotate_left
     ·exact zV2
     refine pure_ (i := 16) (N := some 56) (v := undef) (a' := ?_) zq2_26 rfl rfl (any_of HT_.out (by kernel_rfl)) (fun _ _ _ h => h) (Or.inr ⟨by rfl, rfl⟩) ?_ ?_
     rotate_left
     ·exact zV2
     refine pure_ (i := 17) (N := some 57) (v := ?_) (a' := ?_) zq2_27 rfl rfl (any_of HT_.out (by kernel_rfl)) (fun _ _ _ h => h) (Or.inl ⟨by rfl, ?_⟩) ?_ ?_
     rotate_left
     ·intro w'
      go_simp
      with_reducible rfl
     rotate_left
     ·exact zV2
     refine pure_ (i := 18) (N := some 58) (v := ?_) (a' := ?_) zq2_28 rfl rfl (any_of HT_.out (by kernel_rfl)) (fun _ _ _ h => h) (Or.inl ⟨by rfl, ?_⟩) ?_ ?_
     rotate_left
     ·intro w'
      go_simp
      with_reducible rfl
     rotate_left
     ·exact zV2
     refine done_ (done_of HT_.out (by kernel_rfl)) ?_
     try go_wp2
     go_meet
     case rel => exact ⟨_, (false), (by first | rfl | (simp; done) | (simp [*]; done)), H', ⟨by have := HK1.out; first | omega | exact Nat.le_refl _⟩, ⟨zR2 HO_0.out⟩, ⟨zR2 HO_2.out⟩, ⟨zK2 BK110.out⟩, ⟨zB2_2⟩, ⟨zB2_3⟩⟩
    rw [if_pos c24] at H
    have c24b0 : decide (0 ≤ ((rd_T42 (rd_L4 l1 x9_1) (rd x2_1 x9_1)).f1)) = true := decide_eq_true c24
    clear c24
    (first | rw [c24b0] | (simp only [i64_w, i32_w]; rw [c24b0]) | skip)
    by_cases c25 : 0 ≤ ((rd_T42 (rd_L4 l1 x9_1) (rd x2_1 x9_1)).f0)
    rotate_left
    ·rw [if_neg c25] at H
     exact absurd H (by simp)
    rw [if_pos c25] at H
    have c25b0 : decide (0 ≤ ((rd_T42 (rd_L4 l1 x9_1) (rd x2_1 x9_1)).f0)) = true := decide_eq_true c25
    clear c25
    by_cases c26 : ((rd_T42 (rd_L4 l1 x9_1) (rd x2_1 x9_1)).f0) < (x0_1.length : Int)
    rotate_left
    ·rw [if_neg c26] at H
     exact absurd H (by simp)
    rw [if_pos c26] at H
    have c26b0 : decide (((rd_T42 (rd_L4 l1 x9_1) (rd x2_1 x9_1)).f0) < (x0_1.length : Int)) = true := decide_eq_true c26
    clear c26
    have H' := Aside0.mk H
    clear H
    try go_wp2
    have n0_ : Aside0 (Kd.R (Kd.int .i64) 3 (((w18.setCell ⟨gb110, 0, none⟩ (.int .i64 ((rd_T42 (rd_L4 l1 x9_1) (rd x2_1 x9_1)).f0))).setCell ⟨gb110, 1, none⟩ (.int .i64 ((rd_T42 (rd_L4 l1 x9_1) (rd x2_1 x9_1)).f1))).setCell ⟨gb110, 2, none⟩ (.int .i64 ((rd_T42 (rd_L4 l1 x9_1) (rd x2_1 x9_1)).f2))) w0.heap.size (fun k_ => ((P0_ k_ ∨ P2_ k_) ∨ w.heap.size ≤ k_) ∧ some k_ ≠ (.slice (some ad105) x2_1.length co16 : Value).ownBlock) u9000_ x0_1) := ⟨by (with_reducible repeat (first | apply Kd.R_alloc | apply Kd.R_drewN | apply Kd.R_drew)); exact Kd.R_mono (Kd.R_far (p := ⟨gb110, 2, none⟩) (Kd.R_far (p := ⟨gb110, 1, none⟩) (Kd.R_far (p := ⟨gb110, 0, none⟩) (Kd.R_types HO_0.out BK110.out (by decide)) (fun _ hk => hk.2) (.int .i64 ((rd_T42 (rd_L4 l1 x9_1) (rd x2_1 x9_1)).f0))) (fun _ hk => hk.2) (.int .i64 ((rd_T42 (rd_L4 l1 x9_1) (rd x2_1 x9_1)).f1))) (fun _ hk => hk.2) (.int .i64 ((rd_T42 (rd_L4 l1 x9_1) (rd x2_1 x9_1)).f2))) (fun _ hk => ⟨hk.1.1, hk.1.2⟩)⟩
    have n1_ : Aside0 (Kd.R (Kd.int .i64) 3 (((w18.setCell ⟨gb110, 0, none⟩ (.int .i64 ((rd_T42 (rd_L4 l1 x9_1) (rd x2_1 x9_1)).f0))).setCell ⟨gb110, 1, none⟩ (.int .i64 ((rd_T42 (rd_L4 l1 x9_1) (rd x2_1 x9_1)).f1))).setCell ⟨gb110, 2, none⟩ (.int .i64 ((rd_T42 (rd_L4 l1 x9_1) (rd x2_1 x9_1)).f2))) w0.heap.size (fun k_ => ((P0_ k_ ∨ P2_ k_) ∨ w.heap.size ≤ k_) ∧ some k_ ≠ (u9000_ : Value).ownBlock) (.slice (some ad105) x2_1.length co16) x2_1) := ⟨by (with_reducible repeat (first | apply Kd.R_alloc | apply Kd.R_drewN | apply Kd.R_drew)); exact Kd.R_mono (Kd.R_far (p := ⟨gb110, 2, none⟩) (Kd.R_far (p := ⟨gb110, 1, none⟩) (Kd.R_far (p := ⟨gb110, 0, none⟩) (Kd.R_types HO_2.out BK110.out (by decide)) (fun _ hk => hk.2) (.int .i64 ((rd_T42 (rd_L4 l1 x9_1) (rd x2_1 x9_1)).f0))) (fun _ hk => hk.2) (.int .i64 ((rd_T42 (rd_L4 l1 x9_1) (rd x2_1 x9_1)).f1))) (fun _ hk => hk.2) (.int .i64 ((rd_T42 (rd_L4 l1 x9_1) (rd x2_1 x9_1)).f2))) (fun _ hk => ⟨hk.1.1, hk.1.2⟩)⟩
    have n2_ : Aside0 ((((w18.setCell ⟨gb110, 0, none⟩ (.int .i64 ((rd_T42 (rd_L4 l1 x9_1) (rd x2_1 x9_1)).f0))).setCell ⟨gb110, 1, none⟩ (.int .i64 ((rd_T42 (rd_L4 l1 x9_1) (rd x2_1 x9_1)).f1))).setCell ⟨gb110, 2, none⟩ (.int .i64 ((rd_T42 (rd_L4 l1 x9_1) (rd x2_1 x9_1)).f2))).heap[gb110]? = some (.cells #[.int .i64 ((rd_T42 (rd_L4 l1 x9_1) (rd x2_1 x9_1)).f0), .int .i64 ((rd_T42 (rd_L4 l1 x9_1) (rd x2_1 x9_1)).f1), .int .i64 ((rd_T42 (rd_L4 l1 x9_1) (rd x2_1 x9_1)).f2)] 42 (0, 0))) := ⟨by refine zP2 ?_; refine blk_put (cs := #[.int .i64 ((rd_T42 (rd_L4 l1 x9_1) (rd x2_1 x9_1)).f0), .int .i64 ((rd_T42 (rd_L4 l1 x9_1) (rd x2_1 x9_1)).f1), .int .i64 0]) ?_ 2 _ rfl; refine zP2 ?_; refine blk_put (cs := #[.int .i64 ((rd_T42 (rd_L4 l1 x9_1) (rd x2_1 x9_1)).f0), .int .i64 0, .int .i64 0]) ?_ 1 _ rfl; refine zP2 ?_; refine blk_put (cs := #[.int .i64 0, .int .i64 0, .int .i64 0]) ?_ 0 _ rfl; refine zP2 ?_; exact BK110.out⟩
    have n3_ : Aside0 (Kept w (((w18.setCell ⟨gb110, 0, none⟩ (.int .i64 ((rd_T42 (rd_L4 l1 x9_1) (rd x2_1 x9_1)).f0))).setCell ⟨gb110, 1, none⟩ (.int .i64 ((rd_T42 (rd_L4 l1 x9_1) (rd x2_1 x9_1)).f1))).setCell ⟨gb110, 2, none⟩ (.int .i64 ((rd_T42 (rd_L4 l1 x9_1) (rd x2_1 x9_1)).f2))) (fun k_ => P0_ k_ ∨ P2_ k_)) := ⟨zB2_2⟩
    have n4_ : Aside0 (Below w0.heap.size w0 (((w18.setCell ⟨gb110, 0, none⟩ (.int .i64 ((rd_T42 (rd_L4 l1 x9_1) (rd x2_1 x9_1)).f0))).setCell ⟨gb110, 1, none⟩ (.int .i64 ((rd_T42 (rd_L4 l1 x9_1) (rd x2_1 x9_1)).f1))).setCell ⟨gb110, 2, none⟩ (.int .i64 ((rd_T42 (rd_L4 l1 x9_1) (rd x2_1 x9_1)).f2)))) := ⟨zB2_3⟩
    (try clear HO_0)
    (try clear HO_2)
    (try clear BK110)
    (try clear HK)
    (try clear HB)
    generalize (((w18.setCell ⟨gb110, 0, none⟩ (.int .i64 ((rd_T42 (rd_L4 l1 x9_1) (rd x2_1 x9_1)).f0))).setCell ⟨gb110, 1, none⟩ (.int .i64 ((rd_T42 (rd_L4 l1 x9_1) (rd x2_1 x9_1)).f1))).setCell ⟨gb110, 2, none⟩ (.int .i64 ((rd_T42 (rd_L4 l1 x9_1) (rd x2_1 x9_1)).f2))) = w27 at n0_ n1_ n2_ n3_ n4_ ⊢
    have HO_0 := n0_
    have HO_2 := n1_
    have BK110 := n2_
    have HK := n3_
    have HB := n4_
    clear n0_ n1_ n2_ n3_ n4_
    have n0_ := Aside0.mk (Kd.R_drew HO_0.out)
    have n1_ := Aside0.mk (Kd.R_drew HO_2.out)
    have n2_ := Aside0.mk (blk_drew BK110.out)
    have n3_ := Aside0.mk (Kept.drew HK.out)
    have n4_ := Aside0.mk (below_drew1 HB.out)
    clear HO_0 HO_2 BK110 HK HB
    have HO_0 := n0_
    have HO_2 := n1_
    have BK110 := n2_
    have HK := n3_
    have HB := n4_
    clear n0_ n1_ n2_ n3_ n4_
    have p112 : 0 ≤ (((rd_T42 (rd_L4 l1 x9_1) (rd x2_1 x9_1)).f0) : Int) := zA2
    have q112 : ((rd_T42 (rd_L4 l1 x9_1) (rd x2_1 x9_1)).f0) < (x0_1.length : Int) := zA2
    (try (obtain ⟨Aoz_, coz_, eoz_⟩ := Kd.R_slice HO_0.out; subst eoz_))
    obtain ⟨ad112, e112, hx112_0⟩ := Kd.at_int (Kd.R_reads' HO_0.out).2.2 ((rd_T42 (rd_L4 l1 x9_1) (rd x2_1 x9_1)).f0) p112 q112
    cases e112
    replace p112 := eq_true p112
    replace q112 := eq_true q112
    refine start_ (n := 19) (S := fun w' => w'.cell? ⟨gb110, 0, none⟩ = some (.int .i64 ((rd_T42 (rd_L4 l1 x9_1) (rd x2_1 x9_1)).f0)) ∧ w'.cell? ⟨gb110, 1, none⟩ = some (.int .i64 ((rd_T42 (rd_L4 l1 x9_1) (rd x2_1 x9_1)).f1)) ∧ w'.cell? ⟨gb110, 2, none⟩ = some (.int .i64 ((rd_T42 (rd_L4 l1 x9_1) (rd x2_1 x9_1)).f2)) ∧ w'.cell? (ad112.add (((rd_T42 (rd_L4 l1 x9_1) (rd x2_1 x9_1)).f0)).toNat) = some (.int .i64 (rd x0_1 ((rd_T42 (rd_L4 l1 x9_1) (rd x2_1 x9_1)).f0)))) (ds := []) zq2_11 (by kernel_rfl) rfl rfl ⟨(blk_cell BK110.out 0).trans rfl, (blk_cell BK110.out 1).trans rfl, (blk_cell BK110.out 2).trans rfl, hx112_0⟩ (fun hHeld => ?_); refine with_tabW spec_l21Go.tab8 spec_l21Go.bits8 (fun HT_ HW_ => ?_)
    generalize w27.drew = w28 at HO_0 HO_2 BK110 HK HB hx112_0 hHeld ⊢
    refine pure_ (i := 0) (N := some 40) (v := ?_) (a' := ?_) zq2_12 rfl rfl (any_of HT_.out (by kernel_rfl)) (fun _ _ _ h => h) (Or.inl ⟨by rfl, ?_⟩) ?_ ?_
    rotate_left
    ·intro w'
     go_simp
     with_reducible rfl
    rotate_left
    ·exact zV2
    refine take_ (i := 1) (N := some 41) (v := ?_) (a' := ?_) zq2_13 rfl rfl (take_ofW HT_.out HW_.out (by kernel_rfl)) (fun _ _ _ h => h) (Or.inl ⟨by rfl, ?_⟩) hHeld ?_ ?_
    rotate_left
    ·rintro w' ⟨s0, s1, s2, s3⟩
     go_simp
     with_reducible rfl
    rotate_left
    ·exact zV2
    refine one_ (i := 2) (N := some 42) zq2_14 rfl rfl (one_of HT_.out (by kernel_rfl)) (by decide) (fun K hK => ?_)
    refine goes_ Try.func18 (by kernel_rfl) rfl #[.int .i64 ((rd_T42 (rd_L4 l1 x9_1) (rd x2_1 x9_1)).f0), .int .i64 0, .int .i64 23] (by rfl) rfl rfl zT2 ?_
    with_reducible refine (spec_l1In.calls ((rd_T42 (rd_L4 l1 x9_1) (rd x2_1 x9_1)).f0) 0 23 true _ A22.out).mono ?_
    rintro e w' ⟨rfl, ⟨nd, rfl⟩⟩
    refine ⟨_, rfl, ?_⟩
    obtain ⟨Ao29, co29, eo29⟩ := Kd.R_slice HO_0.out
    (first | subst eo29 | (injection eo29 with f1_ f2_ f3_; have f4_ := f1_.symm; have f5_ := f3_.symm; clear f1_ f2_ f3_; subst f4_; subst f5_))
    refine hK.out _ _ ⟨(blk_cell BK110.out 0).trans rfl, (blk_cell BK110.out 1).trans rfl, (blk_cell BK110.out 2).trans rfl, hHeld.2.2.2⟩ (fun hHeld => ?_)
    clear hK K
    refine norm_ (a' := ?_) ?_ ?_
    rotate_left
    ·show Act.put _ (some 42) _ = _
     simp only [Act.put, List.setIfInBounds_toArray, List.set_cons_zero, List.set_cons_succ, i64_w, i32_w]
     rfl
    refine pure_ (i := 3) (N := some 43) (v := ?_) (a' := ?_) zq2_15 rfl rfl (any_of HT_.out (by kernel_rfl)) (fun _ _ _ h => h) (Or.inl ⟨by rfl, ?_⟩) ?_ ?_
    rotate_left
    ·intro w'
     go_simp
     with_reducible rfl
    rotate_left
    ·exact zV2
    refine pure_ (i := 4) (N := some 44) (v := ?_) (a' := ?_) zq2_16 rfl rfl (any_of HT_.out (by kernel_rfl)) (fun _ _ _ h => h) (Or.inl ⟨by rfl, ?_⟩) ?_ ?_
    rotate_left
    ·intro w'
     go_simp
     with_reducible rfl
    rotate_left
    ·exact zV2
    refine pure_ (i := 5) (N := some 45) (v := ?_) (a' := ?_) zq2_17 rfl rfl (any_of HT_.out (by kernel_rfl)) (fun _ _ _ h => h) (Or.inl ⟨by rfl, ?_⟩) ?_ ?_
    rotate_left
    ·intro w'
     go_simp
     with_reducible rfl
    rotate_left
    ·exact zV2
    refine take_ (i := 6) (N := some 46) (v := ?_) (a' := ?_) zq2_18 rfl rfl (take_ofW HT_.out HW_.out (by kernel_rfl)) (fun _ _ _ h => h) (Or.inl ⟨by rfl, ?_⟩) hHeld ?_ ?_
    rotate_left
    ·rintro w' ⟨s0, s1, s2, s3⟩
     go_simp
     with_reducible rfl
    rotate_left
    ·exact zV2
    refine pure_ (i := 7) (N := some 47) (v := ?_) (a' := ?_) zq2_19 rfl rfl (any_of HT_.out (by kernel_rfl)) (fun _ _ _ h => h) (Or.inl ⟨by rfl, ?_⟩) ?_ ?_
    rotate_left
    ·intro w'
     go_simp
     with_reducible rfl
    rotate_left
    ·exact zV2
    refine pure_ (i := 8) (N := some 48) (v := ?_) (a' := ?_) zq2_20 rfl rfl (any_of HT_.out (by kernel_rfl)) (fun _ _ _ h => h) (Or.inl ⟨by rfl, ?_⟩) ?_ ?_
    rotate_left
    ·intro w'
     go_simp
     with_reducible rfl
    rotate_left
    ·exact zV2
    refine pure_ (i := 9) (N := some 49) (v := ?_) (a' := ?_) zq2_21 rfl rfl (any_of HT_.out (by kernel_rfl)) (fun _ _ _ h => h) (Or.inl ⟨by rfl, ?_⟩) ?_ ?_
    rotate_left
    ·intro w'
     go_simp
     with_reducible rfl
    rotate_left
    ·exact zV2
    refine pure_ (i := 11) (N := some 51) (v := ?_) (a' := ?_) #[true, true, true, true, true, true, true, true, true, true, false, true, false, false, false, false, false, false, false] rfl rfl (any_of HT_.out (by kernel_rfl)) (fun _ _ _ h => h) (Or.inl ⟨by rfl, ?_⟩) ?_ ?_
    rotate_left
    ·intro w'
     go_simp
     with_reducible rfl
    rotate_left
    ·exact zV2
    refine pure_ (i := 12) (N := some 52) (v := ?_) (a' := ?_) #[true, true, true, true, true, true, true, true, true, true, false, true, true, false, false, false, false, false, false] rfl rfl (any_of HT_.out (by kernel_rfl)) (fun _ _ _ h => h) (Or.inl ⟨by rfl, ?_⟩) ?_ ?_
    rotate_left
    ·intro w'
     go_simp
     with_reducible rfl
    rotate_left
    ·exact zV2
    refine take_ (i := 10) (N := some 50) (v := ?_) (a' := ?_) zq2_22 rfl rfl (take_ofW HT_.out HW_.out (by kernel_rfl)) (fun _ _ _ h => h) (Or.inl ⟨by rfl, ?_⟩) hHeld ?_ ?_
    rotate_left
    ·rintro w' ⟨s0, s1, s2, s3⟩
     go_simp
     with_reducible rfl
    rotate_left
    ·exact zV2
    refine take_ (i := 13) (N := some 53) (v := ?_) (a' := ?_) zq2_23 rfl rfl (take_ofW HT_.out HW_.out (by kernel_rfl)) (fun _ _ _ h => h) (Or.inl ⟨by rfl, ?_⟩) hHeld ?_ ?_
    rotate_left
    ·rintro w' ⟨s0, s1, s2, s3⟩
     go_simp
     with_reducible rfl
    rotate_left
    ·exact zV2
    refine pure_ (i := 14) (N := some 54) (v := ?_) (a' := ?_) zq2_24 rfl rfl (any_of HT_.out (by kernel_rfl)) (fun _ _ _ h => h) (Or.inl ⟨by rfl, ?_⟩) ?_ ?_
    rotate_left
    ·intro w'
     go_simp
     with_reducible rfl
    rotate_left
    ·exact zV2
    refine take_ (i := 15) (N := some 55) (v := ?_) (a' := ?_) zq2_25 rfl rfl (take_ofW HT_.out HW_.out (by kernel_rfl)) (fun _ _ _ h => h) (Or.inl ⟨by rfl, ?_⟩) hHeld ?_ ?_
    rotate_left
    ·rintro w' ⟨s0, s1, s2, s3⟩
     go_simp
     with_reducible rfl
    rotate_left
    ·exact zV2
    refine pure_ (i := 16) (N := some 56) (v := ?_) (a' := ?_) zq2_26 rfl rfl (any_of HT_.out (by kernel_rfl)) (fun _ _ _ h => h) (Or.inl ⟨by rfl, ?_⟩) ?_ ?_
    rotate_left
    ·intro w'
     go_simp
     with_reducible rfl
    rotate_left
    ·exact zV2
    refine pure_ (i := 17) (N := some 57) (v := ?_) (a' := ?_) zq2_27 rfl rfl (any_of HT_.out (by kernel_rfl)) (fun _ _ _ h => h) (Or.inl ⟨by rfl, ?_⟩) ?_ ?_
    rotate_left
    ·intro w'
     go_simp
     with_reducible rfl
    rotate_left
    ·exact zV2
    refine pure_ (i := 18) (N := some 58) (v := ?_) (a' := ?_) zq2_28 rfl rfl (any_of HT_.out (by kernel_rfl)) (fun _ _ _ h => h) (Or.inl ⟨by rfl, ?_⟩) ?_ ?_
    rotate_left
    ·intro w'
     go_simp
     with_reducible rfl
    rotate_left
    ·exact zV2
    refine done_ (done_of HT_.out (by kernel_rfl)) ?_
    try go_wp2
    go_meet
    case rel => exact ⟨_, ((((rd_T42 (rd_L4 l1 x9_1) (rd x2_1 x9_1)).f1) != (rd x0_1 ((rd_T42 (rd_L4 l1 x9_1) (rd x2_1 x9_1)).f0)))), (by first | rfl | (simp; done) | (simp [*]; done)), H', ⟨by have := HK1.out; first | omega | exact Nat.le_refl _⟩, ⟨zR2 HO_0.out⟩, ⟨zR2 HO_2.out⟩, ⟨zK2 BK110.out⟩, ⟨zB2_2⟩, ⟨zB2_3⟩⟩
   case rest =>
    clear HC14
    try clear c1
    try clear p1
    try clear q1
    try clear hx1
    try clear c2
    try clear p2
    try clear p11
    try clear q11
    try clear hx11
    try clear c18
    try clear c23
    try clear c24
    try clear c24b0
    try clear c25
    try clear c25b0
    try clear c26
    try clear c26b0
    try clear hx112_0
    try clear p112
    try clear q112
    obtain ⟨kq, x58_13, rfl, HA, HJ13, HO_0, HO_2, BK110, HK, HB⟩ := hcut
    cases kq with
    | zero => exact absurd HA.out (by simp [spec_l21Go.j1])
    | succ kj13 =>
     have H := HA.out
     clear HA
     simp only [spec_l21Go.j1] at H
     by_cases c34 : x58_13 = true
     ·subst c34
      have H1 : (spec_l21Go.l0 kj13 x0_1 l1 x2_1 a3 (wrap64 (x9_1 + 1))) = some (r1, r2, r3) := by rw [if_pos rfl] at H; exact H
      clear H
      have H := H1
      clear H1
      have H' := Aside0.mk H
      clear H
      go_wp2
      go_roundg kj13
      case measure => have := HK1.out; have := HJ13.out; omega
      case rel => exact ⟨(x0_1), (x2_1), (wrap64 (x9_1 + 1)), (by first | rfl | (simp; done) | (simp [*]; done)), H', ⟨by have := HK1.out; have := HJ13.out; omega⟩, ⟨zR2 HO_0.out⟩, ⟨zR2 HO_2.out⟩, ⟨zB2_2⟩, ⟨zB2_3⟩⟩
     replace c34 := Bool.eq_false_iff.mpr c34
     subst c34
     have H1 : (if 0 ≤ ((rd_T42 (rd_L4 l1 x9_1) (rd x2_1 x9_1)).f0) then (if ((rd_T42 (rd_L4 l1 x9_1) (rd x2_1 x9_1)).f0) < (x0_1.length : Int) then (if ((rd_T42 (rd_L4 l1 x9_1) (rd x2_1 x9_1)).f2) ≥ 0 then (if 0 ≤ x9_1 then (if x9_1 < (x2_1.length : Int) then ((spec_l21Go.f kj13 (x0_1.set (((rd_T42 (rd_L4 l1 x9_1) (rd x2_1 x9_1)).f0) : Int).toNat ((rd_T42 (rd_L4 l1 x9_1) (rd x2_1 x9_1)).f2)) l1 (x2_1.set (x9_1 : Int).toNat (wrap64 ((rd x2_1 x9_1) + 1))) (wrap64 (a3 - 1))).bind fun bt117 => (if bt117.1 = true then (some (true, bt117.2.1, bt117.2.2)) else (spec_l21Go.l0 kj13 (bt117.2.1.set (((rd_T42 (rd_L4 l1 x9_1) (rd x2_1 x9_1)).f0) : Int).toNat (rd x0_1 ((rd_T42 (rd_L4 l1 x9_1) (rd x2_1 x9_1)).f0))) l1 (bt117.2.2.set (x9_1 : Int).toNat (wrap64 ((rd bt117.2.2 x9_1) - 1))) a3 (wrap64 (x9_1 + 1))))) else (none)) else (none)) else (if 0 ≤ x9_1 then (if x9_1 < (x2_1.length : Int) then ((spec_l21Go.f kj13 x0_1 l1 (x2_1.set (x9_1 : Int).toNat (wrap64 ((rd x2_1 x9_1) + 1))) (wrap64 (a3 - 1))).bind fun bt125 => (if bt125.1 = true then (some (true, bt125.2.1, bt125.2.2)) else (spec_l21Go.l0 kj13 (bt125.2.1.set (((rd_T42 (rd_L4 l1 x9_1) (rd x2_1 x9_1)).f0) : Int).toNat (rd x0_1 ((rd_T42 (rd_L4 l1 x9_1) (rd x2_1 x9_1)).f0))) l1 (bt125.2.2.set (x9_1 : Int).toNat (wrap64 ((rd bt125.2.2 x9_1) - 1))) a3 (wrap64 (x9_1 + 1))))) else (none)) else (none))) else (none)) else (none)) = some (r1, r2, r3) := by rw [if_neg (show ¬ (false = true) by decide)] at H; exact H
     clear H
     have H := H1
     clear H1
     by_cases c35 : 0 ≤ ((rd_T42 (rd_L4 l1 x9_1) (rd x2_1 x9_1)).f0)
     rotate_left
     ·rw [if_neg c35] at H
      exact absurd H (by simp)
     rw [if_pos c35] at H
     have c35b0 : decide (0 ≤ ((rd_T42 (rd_L4 l1 x9_1) (rd x2_1 x9_1)).f0)) = true := decide_eq_true c35
     clear c35
     by_cases c36 : ((rd_T42 (rd_L4 l1 x9_1) (rd x2_1 x9_1)).f0) < (x0_1.length : Int)
     rotate_left
     ·rw [if_neg c36] at H
      exact absurd H (by simp)
     rw [if_pos c36] at H
     have c36b0 : decide (((rd_T42 (rd_L4 l1 x9_1) (rd x2_1 x9_1)).f0) < (x0_1.length : Int)) = true := decide_eq_true c36
     clear c36
     by_cases c37 : ((rd_T42 (rd_L4 l1 x9_1) (rd x2_1 x9_1)).f2) ≥ 0
     rotate_left
     ·rw [if_neg c37] at H
      have c37b0 : decide (0 ≤ ((rd_T42 (rd_L4 l1 x9_1) (rd x2_1 x9_1)).f2)) = false := decide_eq_false c37
      clear c37
      by_cases c65 : 0 ≤ x9_1
      rotate_left
      ·rw [if_neg c65] at H
       exact absurd H (by simp)
      rw [if_pos c65] at H
      have c65b0 : decide (0 ≤ x9_1) = true := decide_eq_true c65
      clear c65
      by_cases c66 : x9_1 < (x2_1.length : Int)
      rotate_left
      ·rw [if_neg c66] at H
       exact absurd H (by simp)
      rw [if_pos c66] at H
      have c66b0 : decide (x9_1 < (x2_1.length : Int)) = true := decide_eq_true c66
      clear c66
      obtain ⟨y124, hy124⟩ : ∃ y_ : List Int, y_ = (x2_1.set (x9_1 : Int).toNat (wrap64 ((rd x2_1 x9_1) + 1))) := ⟨_, rfl⟩
      replace H : ((spec_l21Go.f kj13 x0_1 l1 y124 (wrap64 (a3 - 1))).bind fun bt125 => (if bt125.1 = true then (some (true, bt125.2.1, bt125.2.2)) else (spec_l21Go.l0 kj13 (bt125.2.1.set (((rd_T42 (rd_L4 l1 x9_1) (rd x2_1 x9_1)).f0) : Int).toNat (rd x0_1 ((rd_T42 (rd_L4 l1 x9_1) (rd x2_1 x9_1)).f0))) l1 (bt125.2.2.set (x9_1 : Int).toNat (wrap64 ((rd bt125.2.2 x9_1) - 1))) a3 (wrap64 (x9_1 + 1))))) = some (r1, r2, r3) := by first | (rw [hy124]; with_reducible exact H) | (have H2_ := (Option.bind_some _ _).symm.trans H; rw [hy124]; with_reducible exact H2_) | (have H2_ := (Option.bind_some _ _).symm.trans H; with_reducible exact H2_) | with_reducible exact H | (rw [hy124]; exact H) | exact H
      have Ny124 := Aside0.mk hy124
      clear hy124
      replace H := Option.bind_eq_some_iff.mp H
      obtain ⟨⟨t125, t126, t127⟩, A680, H⟩ := H
      replace H : (if t125 = true then (some (true, t126, t127)) else (spec_l21Go.l0 kj13 (t126.set (((rd_T42 (rd_L4 l1 x9_1) (rd x2_1 x9_1)).f0) : Int).toNat (rd x0_1 ((rd_T42 (rd_L4 l1 x9_1) (rd x2_1 x9_1)).f0))) l1 (t127.set (x9_1 : Int).toNat (wrap64 ((rd t127 x9_1) - 1))) a3 (wrap64 (x9_1 + 1)))) = some (r1, r2, r3) := H
      have A68 := Aside0.mk A680
      clear A680
      by_cases c69 : t125 = true
      ·subst c69
       have H1 : (some (true, t126, t127)) = some (r1, r2, r3) := by rw [if_pos rfl] at H; exact H
       clear H
       have H := H1
       clear H1
       simp only [Option.some.injEq, Prod.mk.injEq] at H
       obtain ⟨rfl, rfl, rfl⟩ := H
       obtain ⟨hcz70_0, hcz70_1, hcz70_2, hfz70_0, hfz70_1, hfz70_2⟩ := zc2_3 (w := wc) BK110.out
       obtain ⟨Ao71, co71, eo71⟩ := Kd.R_slice HO_0.out
       subst eo71
       have p113 : 0 ≤ (((rd_T42 (rd_L4 l1 x9_1) (rd x2_1 x9_1)).f0) : Int) := zA2
       have q113 : ((rd_T42 (rd_L4 l1 x9_1) (rd x2_1 x9_1)).f0) < (x0_1.length : Int) := zA2
       (try (obtain ⟨Aoz_, coz_, eoz_⟩ := Kd.R_slice HO_0.out; subst eoz_))
       obtain ⟨ad113, e113, hx113_0⟩ := Kd.at_int (Kd.R_reads' HO_0.out).2.2 ((rd_T42 (rd_L4 l1 x9_1) (rd x2_1 x9_1)).f0) p113 q113
       cases e113
       replace p113 := eq_true p113
       replace q113 := eq_true q113
       have p123 : 0 ≤ (x9_1 : Int) := zA2
       have q123 : x9_1 < (x2_1.length : Int) := zA2
       obtain ⟨ad123, e123, hx123_0⟩ := Kd.at_int (Kd.R_reads' HO_2.out).2.2 x9_1 p123 q123
       obtain rfl : ad105 = ad123 := (by injection e123)
       replace p123 := eq_true p123
       replace q123 := eq_true q123
       have p67 : 0 ≤ (x9_1 : Int) := zA2
       have q67 : (x9_1 : Int) < ((x2_1.length : Int) : Int) := zA2
       obtain ⟨go67, co67, eo67, gb67, gl67, cl67, HG67⟩ := Kd.R_form HO_2.out (by first | omega | (have hl_ := (Kd.R_reads' HO_2.out).1; omega))
       (first | cases eo67 | (injection eo67 with ea_ en_ ec_; (first | subst ea_ | (injection ea_ with ea_; subst ea_)); subst ec_; clear en_))
       have GB67 := Aside0.mk gb67
       have GG67 := Aside0.mk HG67
       clear gb67 gl67 HG67
       have HMgo67 := Aside0.mk (show ((P0_ go67 ∨ P2_ go67) ∨ w.heap.size ≤ go67) from (HO_2.out.1 _ rfl).1)
       (first | simp only [add_plain] at hx123_0 | skip)
       obtain ⟨hx67_0, hf67_0⟩ := Kd.R_celln 0 HO_2.out (x9_1 : Int) p67 q67
       replace p67 := eq_true p67
       replace q67 := eq_true q67
       have HP72 := Kd.R_putg HO_2.out (x9_1 : Int) (wrap64 ((rd x2_1 x9_1) + 1))
       go_wp2_with (first | ((with_reducible refine gate_store (t := 3) (p := 80) rfl ?_); refine store_event (t := 3) (p := 80) (v := ?vo_w73) (w1 := (wc.setCell ⟨go67, (x9_1 : Int).toNat, none⟩ (.int .i64 (wrap64 ((rd x2_1 x9_1) + 1))))) ?hg ?ho ?hn ?hr ?_; (case ho => rfl); (case hg => rfl); (case hn => rfl); (case hr => first | (go_simp; done) | (go_simp; rfl)); intro w73 hw; have hg : wc.grownBy w73 (some go67) := (by rw [hw]; exact HP72.2); have hp_ : Kd.R (Kd.int .i64) 3 w73 w0.heap.size (fun k_ => ((P0_ k_ ∨ P2_ k_) ∨ w.heap.size ≤ k_) ∧ some k_ ≠ (.slice (some ad113) x0_1.length co71 : Value).ownBlock) (.slice (some ⟨go67, 0, none⟩) x2_1.length co16) y124 := (by rw [hw, Ny124.out]; exact HP72.1); clear HP72; have n0_ := Aside0.mk (Kd.R_after (v := (.slice (some ⟨go67, 0, none⟩) x2_1.length co16)) (v1 := (.slice (some ⟨go67, 0, none⟩) x2_1.length co16)) (ok := (fun k_ => ((P0_ k_ ∨ P2_ k_) ∨ w.heap.size ≤ k_))) (zR2 HO_0.out) hg (.inl rfl)); have n1_ := Aside0.mk (hp_); have n2_ := Aside0.mk (zg2 BK110.out hg (Kd.R_ne HO_2.out BK110.out (by decide))); have n3_ := Aside0.mk ((by rw [hw]; exact below_set (HB.out) GB67.out : Below w0.heap.size w0 w73)); have n4_ := Aside0.mk (Kept.of_grown (S := (fun k_ => P0_ k_ ∨ P2_ k_)) hg (zB2_2) (fun k_ e_ => (HO_2.out.1 k_ e_).1)); clear HO_0; clear HO_2; clear BK110; clear HB; clear HK; have HO_0 := n0_; have HO_2 := n1_; have BK110 := n2_; have HB := n3_; have HK := n4_; clear n0_ n1_ n2_ n3_ n4_; clear hg hw hp_) | ((with_reducible refine gate_callee (f := 13) rfl ?_); refine goesL_ (some 86) rfl rfl Try.func13 (by kernel_rfl) rfl #[.slice (some ad113) x0_1.length co71, .slice (some ad106) l1.length c1, .slice (some ⟨go67, 0, none⟩) x2_1.length co16, .int .i64 (wrap64 (a3 - 1))] rfl zT2 ?_; (with_reducible refine (ih kj13 (by have := HK1.out; have := HJ13.out; omega) (fun k_ => some k_ = (.slice (some ad113) x0_1.length co71 : Value).ownBlock) (.slice (some ad113) x0_1.length co71) x0_1 _ _ l1 (fun k_ => some k_ = (.slice (some ⟨go67, 0, none⟩) x2_1.length co16 : Value).ownBlock) (.slice (some ⟨go67, 0, none⟩) x2_1.length co16) y124 (wrap64 (a3 - 1)) true t126 t127 w0 _ ?side1 ?side2 ?side3 ?side4 ?side5 ?side6 ?side7 A68.out).mono ?_); (case side1 => exact zB2_3); (case side2 => exact Kd.R_tight rfl HO_0.out); (case side3 => exact fun k_ e_ => (HO_0.out.1 k_ e_.symm).2); (case side4 => exact Kd.C_kept_call HR1.out (zB2_2) (fun k_ hs_ => Or.elim hs_ (fun e_ => (fun e_ => (HO_0.out.1 k_ e_.symm).1) e_) (fun e_ => (fun e_ => (HO_2.out.1 k_ e_.symm).1) e_))); (case side5 => exact HC1.out); (case side6 => exact Kd.R_tight rfl HO_2.out); (case side7 => exact fun k_ e_ => (HO_2.out.1 k_ e_.symm).2); rintro e w74 ⟨rfl, hy0, hy1, hb, hkp⟩; refine ⟨_, rfl, ?_⟩; have n0_ := Aside0.mk (Kd.R_reok rfl hy0 (fun k_ e_ => HO_0.out.1 k_ e_)); have n1_ := Aside0.mk (Kd.R_reok rfl hy1 (fun k_ e_ => HO_2.out.1 k_ e_)); have n2_ := Aside0.mk (blk_kept (zK2 BK110.out) hkp (fun hs_ => Or.elim hs_ (fun e_ => (fun e_ => (Kd.R_ne HO_0.out BK110.out (by decide)) e_) e_) (fun e_ => (fun e_ => (Kd.R_ne HO_2.out BK110.out (by decide)) e_) e_))); have n3_ := Aside0.mk (Kept.then_ (S := (fun k_ => P0_ k_ ∨ P2_ k_)) (zB2_2) hkp (fun k_ hs_ => Or.elim hs_ (fun e_ => (fun e_ => (HO_0.out.1 k_ e_.symm).1) e_) (fun e_ => (fun e_ => (HO_2.out.1 k_ e_.symm).1) e_))); have n4_ := Aside0.mk (hb); clear HO_0; clear HO_2; clear BK110; clear HK; clear HB; have HO_0 := n0_; have HO_2 := n1_; have BK110 := n2_; have HK := n3_; have HB := n4_; clear n0_ n1_ n2_ n3_ n4_; (try clear hb); (try clear hkp); (try clear hy0); (try clear hy1)))
       go_ret
       exact ⟨zE2, by (with_reducible repeat (first | apply Kd.R_alloc | apply Kd.R_drewN | apply Kd.R_drew)); exact Kd.R_mono HO_0.out (fun _ hk => hk.1), by (with_reducible repeat (first | apply Kd.R_alloc | apply Kd.R_drewN | apply Kd.R_drew)); exact Kd.R_mono HO_2.out (fun _ hk => hk.1), zB2_3, zB2_2⟩
      replace c69 := Bool.eq_false_iff.mpr c69
      subst c69
      have H1 : (spec_l21Go.l0 kj13 (t126.set (((rd_T42 (rd_L4 l1 x9_1) (rd x2_1 x9_1)).f0) : Int).toNat (rd x0_1 ((rd_T42 (rd_L4 l1 x9_1) (rd x2_1 x9_1)).f0))) l1 (t127.set (x9_1 : Int).toNat (wrap64 ((rd t127 x9_1) - 1))) a3 (wrap64 (x9_1 + 1))) = some (r1, r2, r3) := by rw [if_neg (show ¬ (false = true) by decide)] at H; exact H
      clear H
      have H := H1
      clear H1
      obtain ⟨y129, hy129⟩ : ∃ y_ : List Int, y_ = (t127.set (x9_1 : Int).toNat (wrap64 ((rd t127 x9_1) - 1))) := ⟨_, rfl⟩
      replace H : (spec_l21Go.l0 kj13 (t126.set (((rd_T42 (rd_L4 l1 x9_1) (rd x2_1 x9_1)).f0) : Int).toNat (rd x0_1 ((rd_T42 (rd_L4 l1 x9_1) (rd x2_1 x9_1)).f0))) l1 y129 a3 (wrap64 (x9_1 + 1))) = some (r1, r2, r3) := by first | (rw [hy129]; with_reducible exact H) | (have H2_ := (Option.bind_some _ _).symm.trans H; rw [hy129]; with_reducible exact H2_) | (have H2_ := (Option.bind_some _ _).symm.trans H; with_reducible exact H2_) | with_reducible exact H | (rw [hy129]; exact H) | exact H
      have Ny129 := Aside0.mk hy129
      clear hy129
      obtain ⟨y130, hy130⟩ : ∃ y_ : List Int, y_ = (t126.set (((rd_T42 (rd_L4 l1 x9_1) (rd x2_1 x9_1)).f0) : Int).toNat (rd x0_1 ((rd_T42 (rd_L4 l1 x9_1) (rd x2_1 x9_1)).f0))) := ⟨_, rfl⟩
      replace H : (spec_l21Go.l0 kj13 y130 l1 y129 a3 (wrap64 (x9_1 + 1))) = some (r1, r2, r3) := by first | (rw [hy130]; with_reducible exact H) | (have H2_ := (Option.bind_some _ _).symm.trans H; rw [hy130]; with_reducible exact H2_) | (have H2_ := (Option.bind_some _ _).symm.trans H; with_reducible exact H2_) | with_reducible exact H | (rw [hy130]; exact H) | exact H
      have Ny130 := Aside0.mk hy130
      clear hy130
      have H' := Aside0.mk H
      clear H
      obtain ⟨hcz77_0, hcz77_1, hcz77_2, hfz77_0, hfz77_1, hfz77_2⟩ := zc2_3 (w := wc) BK110.out
      obtain ⟨Ao78, co78, eo78⟩ := Kd.R_slice HO_0.out
      subst eo78
      have p113 : 0 ≤ (((rd_T42 (rd_L4 l1 x9_1) (rd x2_1 x9_1)).f0) : Int) := zA2
      have q113 : ((rd_T42 (rd_L4 l1 x9_1) (rd x2_1 x9_1)).f0) < (x0_1.length : Int) := zA2
      (try (obtain ⟨Aoz_, coz_, eoz_⟩ := Kd.R_slice HO_0.out; subst eoz_))
      obtain ⟨ad113, e113, hx113_0⟩ := Kd.at_int (Kd.R_reads' HO_0.out).2.2 ((rd_T42 (rd_L4 l1 x9_1) (rd x2_1 x9_1)).f0) p113 q113
      cases e113
      replace p113 := eq_true p113
      replace q113 := eq_true q113
      have p123 : 0 ≤ (x9_1 : Int) := zA2
      have q123 : x9_1 < (x2_1.length : Int) := zA2
      obtain ⟨ad123, e123, hx123_0⟩ := Kd.at_int (Kd.R_reads' HO_2.out).2.2 x9_1 p123 q123
      obtain rfl : ad105 = ad123 := (by injection e123)
      replace p123 := eq_true p123
      replace q123 := eq_true q123
      have p67 : 0 ≤ (x9_1 : Int) := zA2
      have q67 : (x9_1 : Int) < ((x2_1.length : Int) : Int) := zA2
      obtain ⟨go67, co67, eo67, gb67, gl67, cl67, HG67⟩ := Kd.R_form HO_2.out (by first | omega | (have hl_ := (Kd.R_reads' HO_2.out).1; omega))
      (first | cases eo67 | (injection eo67 with ea_ en_ ec_; (first | subst ea_ | (injection ea_ with ea_; subst ea_)); subst ec_; clear en_))
      have GB67 := Aside0.mk gb67
      have GG67 := Aside0.mk HG67
      clear gb67 gl67 HG67
      have HMgo67 := Aside0.mk (show ((P0_ go67 ∨ P2_ go67) ∨ w.heap.size ≤ go67) from (HO_2.out.1 _ rfl).1)
      (first | simp only [add_plain] at hx123_0 | skip)
      obtain ⟨hx67_0, hf67_0⟩ := Kd.R_celln 0 HO_2.out (x9_1 : Int) p67 q67
      replace p67 := eq_true p67
      replace q67 := eq_true q67
      have HP79 := Kd.R_putg HO_2.out (x9_1 : Int) (wrap64 ((rd x2_1 x9_1) + 1))
      go_wp2_with (first | ((with_reducible refine gate_store (t := 3) (p := 80) rfl ?_); refine store_event (t := 3) (p := 80) (v := ?vo_w80) (w1 := (wc.setCell ⟨go67, (x9_1 : Int).toNat, none⟩ (.int .i64 (wrap64 ((rd x2_1 x9_1) + 1))))) ?hg ?ho ?hn ?hr ?_; (case ho => rfl); (case hg => rfl); (case hn => rfl); (case hr => first | (go_simp; done) | (go_simp; rfl)); intro w80 hw; have hg : wc.grownBy w80 (some go67) := (by rw [hw]; exact HP79.2); have hp_ : Kd.R (Kd.int .i64) 3 w80 w0.heap.size (fun k_ => ((P0_ k_ ∨ P2_ k_) ∨ w.heap.size ≤ k_) ∧ some k_ ≠ (.slice (some ad113) x0_1.length co78 : Value).ownBlock) (.slice (some ⟨go67, 0, none⟩) x2_1.length co16) y124 := (by rw [hw, Ny124.out]; exact HP79.1); clear HP79; have n0_ := Aside0.mk (Kd.R_after (v := (.slice (some ⟨go67, 0, none⟩) x2_1.length co16)) (v1 := (.slice (some ⟨go67, 0, none⟩) x2_1.length co16)) (ok := (fun k_ => ((P0_ k_ ∨ P2_ k_) ∨ w.heap.size ≤ k_))) (zR2 HO_0.out) hg (.inl rfl)); have n1_ := Aside0.mk (hp_); have n2_ := Aside0.mk (zg2 BK110.out hg (Kd.R_ne HO_2.out BK110.out (by decide))); have n3_ := Aside0.mk ((by rw [hw]; exact below_set (HB.out) GB67.out : Below w0.heap.size w0 w80)); have n4_ := Aside0.mk (Kept.of_grown (S := (fun k_ => P0_ k_ ∨ P2_ k_)) hg (zB2_2) (fun k_ e_ => (HO_2.out.1 k_ e_).1)); clear HO_0; clear HO_2; clear BK110; clear HB; clear HK; have HO_0 := n0_; have HO_2 := n1_; have BK110 := n2_; have HB := n3_; have HK := n4_; clear n0_ n1_ n2_ n3_ n4_; clear hg hw hp_) | ((with_reducible refine gate_callee (f := 13) rfl ?_); refine goesL_ (some 86) rfl rfl Try.func13 (by kernel_rfl) rfl #[.slice (some ad113) x0_1.length co78, .slice (some ad106) l1.length c1, .slice (some ⟨go67, 0, none⟩) x2_1.length co16, .int .i64 (wrap64 (a3 - 1))] rfl zT2 ?_; (with_reducible refine (ih kj13 (by have := HK1.out; have := HJ13.out; omega) (fun k_ => some k_ = (.slice (some ad113) x0_1.length co78 : Value).ownBlock) (.slice (some ad113) x0_1.length co78) x0_1 _ _ l1 (fun k_ => some k_ = (.slice (some ⟨go67, 0, none⟩) x2_1.length co16 : Value).ownBlock) (.slice (some ⟨go67, 0, none⟩) x2_1.length co16) y124 (wrap64 (a3 - 1)) false t126 t127 w0 _ ?side1 ?side2 ?side3 ?side4 ?side5 ?side6 ?side7 A68.out).mono ?_); (case side1 => exact zB2_3); (case side2 => exact Kd.R_tight rfl HO_0.out); (case side3 => exact fun k_ e_ => (HO_0.out.1 k_ e_.symm).2); (case side4 => exact Kd.C_kept_call HR1.out (zB2_2) (fun k_ hs_ => Or.elim hs_ (fun e_ => (fun e_ => (HO_0.out.1 k_ e_.symm).1) e_) (fun e_ => (fun e_ => (HO_2.out.1 k_ e_.symm).1) e_))); (case side5 => exact HC1.out); (case side6 => exact Kd.R_tight rfl HO_2.out); (case side7 => exact fun k_ e_ => (HO_2.out.1 k_ e_.symm).2); rintro e w81 ⟨rfl, hy0, hy1, hb, hkp⟩; refine ⟨_, rfl, ?_⟩; have n0_ := Aside0.mk (Kd.R_reok rfl hy0 (fun k_ e_ => HO_0.out.1 k_ e_)); have n1_ := Aside0.mk (Kd.R_reok rfl hy1 (fun k_ e_ => HO_2.out.1 k_ e_)); have n2_ := Aside0.mk (blk_kept (zK2 BK110.out) hkp (fun hs_ => Or.elim hs_ (fun e_ => (fun e_ => (Kd.R_ne HO_0.out BK110.out (by decide)) e_) e_) (fun e_ => (fun e_ => (Kd.R_ne HO_2.out BK110.out (by decide)) e_) e_))); have n3_ := Aside0.mk (Kept.then_ (S := (fun k_ => P0_ k_ ∨ P2_ k_)) (zB2_2) hkp (fun k_ hs_ => Or.elim hs_ (fun e_ => (fun e_ => (HO_0.out.1 k_ e_.symm).1) e_) (fun e_ => (fun e_ => (HO_2.out.1 k_ e_.symm).1) e_))); have n4_ := Aside0.mk (hb); clear HO_0; clear HO_2; clear BK110; clear HK; clear HB; have HO_0 := n0_; have HO_2 := n1_; have BK110 := n2_; have HK := n3_; have HB := n4_; clear n0_ n1_ n2_ n3_ n4_; (try clear hb); (try clear hkp); (try clear hy0); (try clear hy1); have p128 : 0 ≤ (x9_1 : Int) := zA2; have q128 : x9_1 < (t127.length : Int) := (by have h_ : (x9_1 : Int) < ((x2_1.length : Int) : Int) := zA2; have e_ := (Kd.R_reads' HO_2.out).1; omega); have ql128 : ((x9_1 : Int) < ((x2_1.length : Int) : Int)) = True := eq_true (zA2); obtain ⟨ad128, e128, hx128_0⟩ := Kd.at_int (Kd.R_reads' HO_2.out).2.2 x9_1 p128 q128; obtain rfl : (⟨go67, 0, none⟩ : Addr) = ad128 := (by injection e128); (first | simp only [add_plain] at hx128_0 | simp only [add_at] at hx128_0 | simp only [Addr.add, Nat.zero_add] at hx128_0 | skip); replace p128 := eq_true p128; replace q128 := eq_true q128; have p75 : 0 ≤ (x9_1 : Int) := zA2; have q75 : (x9_1 : Int) < ((x2_1.length : Int) : Int) := zA2; obtain ⟨hx75_0, hf75_0⟩ := Kd.R_celln 0 HO_2.out (x9_1 : Int) p75 q75; replace p75 := eq_true p75; replace q75 := eq_true q75; obtain ⟨hy82_, hz82_⟩ := Kd.R_celln 0 HO_2.out (x9_1 : Int) (zA2) (zA2); have HP82 := Kd.R_putg HO_2.out (x9_1 : Int) (wrap64 ((rd t127 x9_1) - 1))) | ((with_reducible refine gate_store (t := 3) (p := 94) rfl ?_); refine store_event (t := 3) (p := 94) (v := ?vo_w83) (w1 := (w81.setCell ⟨go67, (x9_1 : Int).toNat, none⟩ (.int .i64 (wrap64 ((rd t127 x9_1) - 1))))) ?hg ?ho ?hn ?hr ?_; (case ho => rfl); (case hg => rfl); (case hn => rfl); (case hr => first | (go_simp; done) | (go_simp; rfl)); intro w83 hw; have hg : w81.grownBy w83 (some go67) := (by rw [hw]; exact HP82.2); have hp_ : Kd.R (Kd.int .i64) 3 w83 w0.heap.size (fun k_ => ((P0_ k_ ∨ P2_ k_) ∨ w.heap.size ≤ k_) ∧ some k_ ≠ (.slice (some ad113) x0_1.length co78 : Value).ownBlock) (.slice (some ⟨go67, 0, none⟩) x2_1.length co16) y129 := (by rw [hw, Ny129.out]; exact HP82.1); clear HP82; have n0_ := Aside0.mk (Kd.R_after (v := (.slice (some ⟨go67, 0, none⟩) x2_1.length co16)) (v1 := (.slice (some ⟨go67, 0, none⟩) x2_1.length co16)) (ok := (fun k_ => ((P0_ k_ ∨ P2_ k_) ∨ w.heap.size ≤ k_))) (zR2 HO_0.out) hg (.inl rfl)); have n1_ := Aside0.mk (hp_); have n2_ := Aside0.mk (zg2 BK110.out hg (Kd.R_ne HO_2.out BK110.out (by decide))); have n3_ := Aside0.mk ((by rw [hw]; exact below_set (HB.out) GB67.out : Below w0.heap.size w0 w83)); have n4_ := Aside0.mk (Kept.of_grown (S := (fun k_ => P0_ k_ ∨ P2_ k_)) hg (zB2_2) (fun k_ e_ => (HO_2.out.1 k_ e_).1)); clear HO_0; clear HO_2; clear BK110; clear HB; clear HK; have HO_0 := n0_; have HO_2 := n1_; have BK110 := n2_; have HB := n3_; have HK := n4_; clear n0_ n1_ n2_ n3_ n4_; clear hg hw hp_; obtain ⟨hcz84_0, hcz84_1, hcz84_2, hfz84_0, hfz84_1, hfz84_2⟩ := zc2_3 (w := w83) BK110.out; have p76 : 0 ≤ (((rd_T42 (rd_L4 l1 x9_1) (rd x2_1 x9_1)).f0) : Int) := zA2; have q76 : (((rd_T42 (rd_L4 l1 x9_1) (rd x2_1 x9_1)).f0) : Int) < ((x0_1.length : Int) : Int) := zA2; obtain ⟨go76, co76, eo76, gb76, gl76, cl76, HG76⟩ := Kd.R_form HO_0.out (by first | omega | (have hl_ := (Kd.R_reads' HO_0.out).1; omega)); (first | cases eo76 | (injection eo76 with ea_ en_ ec_; (first | subst ea_ | (injection ea_ with ea_; subst ea_)); subst ec_; clear en_)); have GB76 := Aside0.mk gb76; have GG76 := Aside0.mk HG76; clear gb76 gl76 HG76; have HMgo76 := Aside0.mk (show ((P0_ go76 ∨ P2_ go76) ∨ w.heap.size ≤ go76) from (HO_0.out.1 _ rfl).1); (first | simp only [add_plain] at hx113_0 | skip); obtain ⟨hx76_0, hf76_0⟩ := Kd.R_celln 0 HO_0.out (((rd_T42 (rd_L4 l1 x9_1) (rd x2_1 x9_1)).f0) : Int) p76 q76; replace p76 := eq_true p76; replace q76 := eq_true q76; obtain ⟨hy85_, hz85_⟩ := Kd.R_celln 0 HO_0.out (((rd_T42 (rd_L4 l1 x9_1) (rd x2_1 x9_1)).f0) : Int) (zA2) (zA2); have HP85 := Kd.R_putg HO_0.out (((rd_T42 (rd_L4 l1 x9_1) (rd x2_1 x9_1)).f0) : Int) (rd x0_1 ((rd_T42 (rd_L4 l1 x9_1) (rd x2_1 x9_1)).f0))) | ((with_reducible refine gate_store (t := 3) (p := 99) rfl ?_); refine store_event (t := 3) (p := 99) (v := ?vo_w86) (w1 := (w83.setCell ⟨go76, (((rd_T42 (rd_L4 l1 x9_1) (rd x2_1 x9_1)).f0) : Int).toNat, none⟩ (.int .i64 (rd x0_1 ((rd_T42 (rd_L4 l1 x9_1) (rd x2_1 x9_1)).f0))))) ?hg ?ho ?hn ?hr ?_; (case ho => rfl); (case hg => rfl); (case hn => rfl); (case hr => first | (go_simp; done) | (go_simp; rfl)); intro w86 hw; have hg : w83.grownBy w86 (some go76) := (by rw [hw]; exact HP85.2); have hp_ : Kd.R (Kd.int .i64) 3 w86 w0.heap.size (fun k_ => ((P0_ k_ ∨ P2_ k_) ∨ w.heap.size ≤ k_) ∧ some k_ ≠ (.slice (some ⟨go67, 0, none⟩) x2_1.length co16 : Value).ownBlock) (.slice (some ⟨go76, 0, none⟩) x0_1.length co78) y130 := (by rw [hw, Ny130.out]; exact HP85.1); clear HP85; have n0_ := Aside0.mk (hp_); have n1_ := Aside0.mk (Kd.R_after (v := (.slice (some ⟨go76, 0, none⟩) x0_1.length co78)) (v1 := (.slice (some ⟨go76, 0, none⟩) x0_1.length co78)) (ok := (fun k_ => ((P0_ k_ ∨ P2_ k_) ∨ w.heap.size ≤ k_))) (zR2 HO_2.out) hg (.inl rfl)); have n2_ := Aside0.mk (zg2 BK110.out hg (Kd.R_ne HO_0.out BK110.out (by decide))); have n3_ := Aside0.mk ((by rw [hw]; exact below_set (HB.out) GB76.out : Below w0.heap.size w0 w86)); have n4_ := Aside0.mk (Kept.of_grown (S := (fun k_ => P0_ k_ ∨ P2_ k_)) hg (zB2_2) (fun k_ e_ => (HO_0.out.1 k_ e_).1)); clear HO_0; clear HO_2; clear BK110; clear HB; clear HK; have HO_0 := n0_; have HO_2 := n1_; have BK110 := n2_; have HB := n3_; have HK := n4_; clear n0_ n1_ n2_ n3_ n4_; clear hg hw hp_))
      go_roundg kj13
      case measure => have := HK1.out; have := HJ13.out; omega
      case rel => exact ⟨(y130), (y129), (wrap64 (x9_1 + 1)), (by first | rfl | (simp; done) | (simp [*]; done)), H', ⟨by have := HK1.out; have := HJ13.out; omega⟩, ⟨zR2 HO_0.out⟩, ⟨zR2 HO_2.out⟩, ⟨zB2_2⟩, ⟨zB2_3⟩⟩
     rw [if_pos c37] at H
     have c37b0 : decide (0 ≤ ((rd_T42 (rd_L4 l1 x9_1) (rd x2_1 x9_1)).f2)) = true := decide_eq_true c37
     clear c37
     obtain ⟨y114, hy114⟩ : ∃ y_ : List Int, y_ = (x0_1.set (((rd_T42 (rd_L4 l1 x9_1) (rd x2_1 x9_1)).f0) : Int).toNat ((rd_T42 (rd_L4 l1 x9_1) (rd x2_1 x9_1)).f2)) := ⟨_, rfl⟩
     replace H : (if 0 ≤ x9_1 then (if x9_1 < (x2_1.length : Int) then ((spec_l21Go.f kj13 y114 l1 (x2_1.set (x9_1 : Int).toNat (wrap64 ((rd x2_1 x9_1) + 1))) (wrap64 (a3 - 1))).bind fun bt117 => (if bt117.1 = true then (some (true, bt117.2.1, bt117.2.2)) else (spec_l21Go.l0 kj13 (bt117.2.1.set (((rd_T42 (rd_L4 l1 x9_1) (rd x2_1 x9_1)).f0) : Int).toNat (rd x0_1 ((rd_T42 (rd_L4 l1 x9_1) (rd x2_1 x9_1)).f0))) l1 (bt117.2.2.set (x9_1 : Int).toNat (wrap64 ((rd bt117.2.2 x9_1) - 1))) a3 (wrap64 (x9_1 + 1))))) else (none)) else (none)) = some (r1, r2, r3) := by first | (rw [hy114]; with_reducible exact H) | (have H2_ := (Option.bind_some _ _).symm.trans H; rw [hy114]; with_reducible exact H2_) | (have H2_ := (Option.bind_some _ _).symm.trans H; with_reducible exact H2_) | with_reducible exact H | (rw [hy114]; exact H) | exact H
     have Ny114 := Aside0.mk hy114
     clear hy114
     by_cases c39 : 0 ≤ x9_1
     rotate_left
     ·rw [if_neg c39] at H
      exact absurd H (by simp)
     rw [if_pos c39] at H
     have c39b0 : decide (0 ≤ x9_1) = true := decide_eq_true c39
     clear c39
     by_cases c40 : x9_1 < (x2_1.length : Int)
     rotate_left
     ·rw [if_neg c40] at H
      exact absurd H (by simp)
     rw [if_pos c40] at H
     have c40b0 : decide (x9_1 < (x2_1.length : Int)) = true := decide_eq_true c40
     clear c40
     obtain ⟨y116, hy116⟩ : ∃ y_ : List Int, y_ = (x2_1.set (x9_1 : Int).toNat (wrap64 ((rd x2_1 x9_1) + 1))) := ⟨_, rfl⟩
     replace H : ((spec_l21Go.f kj13 y114 l1 y116 (wrap64 (a3 - 1))).bind fun bt117 => (if bt117.1 = true then (some (true, bt117.2.1, bt117.2.2)) else (spec_l21Go.l0 kj13 (bt117.2.1.set (((rd_T42 (rd_L4 l1 x9_1) (rd x2_1 x9_1)).f0) : Int).toNat (rd x0_1 ((rd_T42 (rd_L4 l1 x9_1) (rd x2_1 x9_1)).f0))) l1 (bt117.2.2.set (x9_1 : Int).toNat (wrap64 ((rd bt117.2.2 x9_1) - 1))) a3 (wrap64 (x9_1 + 1))))) = some (r1, r2, r3) := by first | (rw [hy116]; with_reducible exact H) | (have H2_ := (Option.bind_some _ _).symm.trans H; rw [hy116]; with_reducible exact H2_) | (have H2_ := (Option.bind_some _ _).symm.trans H; with_reducible exact H2_) | with_reducible exact H | (rw [hy116]; exact H) | exact H
     have Ny116 := Aside0.mk hy116
     clear hy116
     replace H := Option.bind_eq_some_iff.mp H
     obtain ⟨⟨t117, t118, t119⟩, A420, H⟩ := H
     replace H : (if t117 = true then (some (true, t118, t119)) else (spec_l21Go.l0 kj13 (t118.set (((rd_T42 (rd_L4 l1 x9_1) (rd x2_1 x9_1)).f0) : Int).toNat (rd x0_1 ((rd_T42 (rd_L4 l1 x9_1) (rd x2_1 x9_1)).f0))) l1 (t119.set (x9_1 : Int).toNat (wrap64 ((rd t119 x9_1) - 1))) a3 (wrap64 (x9_1 + 1)))) = some (r1, r2, r3) := H
     have A42 := Aside0.mk A420
     clear A420
     by_cases c43 : t117 = true
     ·subst c43
      have H1 : (some (true, t118, t119)) = some (r1, r2, r3) := by rw [if_pos rfl] at H; exact H
      clear H
      have H := H1
      clear H1
      simp only [Option.some.injEq, Prod.mk.injEq] at H
      obtain ⟨rfl, rfl, rfl⟩ := H
      obtain ⟨hcz44_0, hcz44_1, hcz44_2, hfz44_0, hfz44_1, hfz44_2⟩ := zc2_3 (w := wc) BK110.out
      obtain ⟨Ao45, co45, eo45⟩ := Kd.R_slice HO_0.out
      subst eo45
      have p113 : 0 ≤ (((rd_T42 (rd_L4 l1 x9_1) (rd x2_1 x9_1)).f0) : Int) := zA2
      have q113 : ((rd_T42 (rd_L4 l1 x9_1) (rd x2_1 x9_1)).f0) < (x0_1.length : Int) := zA2
      (try (obtain ⟨Aoz_, coz_, eoz_⟩ := Kd.R_slice HO_0.out; subst eoz_))
      obtain ⟨ad113, e113, hx113_0⟩ := Kd.at_int (Kd.R_reads' HO_0.out).2.2 ((rd_T42 (rd_L4 l1 x9_1) (rd x2_1 x9_1)).f0) p113 q113
      cases e113
      replace p113 := eq_true p113
      replace q113 := eq_true q113
      have p38 : 0 ≤ (((rd_T42 (rd_L4 l1 x9_1) (rd x2_1 x9_1)).f0) : Int) := zA2
      have q38 : (((rd_T42 (rd_L4 l1 x9_1) (rd x2_1 x9_1)).f0) : Int) < ((x0_1.length : Int) : Int) := zA2
      obtain ⟨go38, co38, eo38, gb38, gl38, cl38, HG38⟩ := Kd.R_form HO_0.out (by first | omega | (have hl_ := (Kd.R_reads' HO_0.out).1; omega))
      (first | cases eo38 | (injection eo38 with ea_ en_ ec_; (first | subst ea_ | (injection ea_ with ea_; subst ea_)); subst ec_; clear en_))
      have GB38 := Aside0.mk gb38
      have GG38 := Aside0.mk HG38
      clear gb38 gl38 HG38
      have HMgo38 := Aside0.mk (show ((P0_ go38 ∨ P2_ go38) ∨ w.heap.size ≤ go38) from (HO_0.out.1 _ rfl).1)
      (first | simp only [add_plain] at hx113_0 | skip)
      obtain ⟨hx38_0, hf38_0⟩ := Kd.R_celln 0 HO_0.out (((rd_T42 (rd_L4 l1 x9_1) (rd x2_1 x9_1)).f0) : Int) p38 q38
      replace p38 := eq_true p38
      replace q38 := eq_true q38
      have HP46 := Kd.R_putg HO_0.out (((rd_T42 (rd_L4 l1 x9_1) (rd x2_1 x9_1)).f0) : Int) ((rd_T42 (rd_L4 l1 x9_1) (rd x2_1 x9_1)).f2)
      go_wp2_with (first | ((with_reducible refine gate_store (t := 3) (p := 72) rfl ?_); refine store_event (t := 3) (p := 72) (v := ?vo_w47) (w1 := (wc.setCell ⟨go38, (((rd_T42 (rd_L4 l1 x9_1) (rd x2_1 x9_1)).f0) : Int).toNat, none⟩ (.int .i64 ((rd_T42 (rd_L4 l1 x9_1) (rd x2_1 x9_1)).f2)))) ?hg ?ho ?hn ?hr ?_; (case ho => rfl); (case hg => rfl); (case hn => rfl); (case hr => first | (go_simp; done) | (go_simp; rfl)); intro w47 hw; have hg : wc.grownBy w47 (some go38) := (by rw [hw]; exact HP46.2); have hp_ : Kd.R (Kd.int .i64) 3 w47 w0.heap.size (fun k_ => ((P0_ k_ ∨ P2_ k_) ∨ w.heap.size ≤ k_) ∧ some k_ ≠ (.slice (some ad105) x2_1.length co16 : Value).ownBlock) (.slice (some ⟨go38, 0, none⟩) x0_1.length co45) y114 := (by rw [hw, Ny114.out]; exact HP46.1); clear HP46; have n0_ := Aside0.mk (hp_); have n1_ := Aside0.mk (Kd.R_after (v := (.slice (some ⟨go38, 0, none⟩) x0_1.length co45)) (v1 := (.slice (some ⟨go38, 0, none⟩) x0_1.length co45)) (ok := (fun k_ => ((P0_ k_ ∨ P2_ k_) ∨ w.heap.size ≤ k_))) (zR2 HO_2.out) hg (.inl rfl)); have n2_ := Aside0.mk (zg2 BK110.out hg (Kd.R_ne HO_0.out BK110.out (by decide))); have n3_ := Aside0.mk ((by rw [hw]; exact below_set (HB.out) GB38.out : Below w0.heap.size w0 w47)); have n4_ := Aside0.mk (Kept.of_grown (S := (fun k_ => P0_ k_ ∨ P2_ k_)) hg (zB2_2) (fun k_ e_ => (HO_0.out.1 k_ e_).1)); clear HO_0; clear HO_2; clear BK110; clear HB; clear HK; have HO_0 := n0_; have HO_2 := n1_; have BK110 := n2_; have HB := n3_; have HK := n4_; clear n0_ n1_ n2_ n3_ n4_; clear hg hw hp_; have p115 : 0 ≤ (x9_1 : Int) := zA2; have q115 : x9_1 < (x2_1.length : Int) := zA2; obtain ⟨ad115, e115, hx115_0⟩ := Kd.at_int (Kd.R_reads' HO_2.out).2.2 x9_1 p115 q115; obtain rfl : ad105 = ad115 := (by injection e115); replace p115 := eq_true p115; replace q115 := eq_true q115; have p41 : 0 ≤ (x9_1 : Int) := zA2; have q41 : (x9_1 : Int) < ((x2_1.length : Int) : Int) := zA2; obtain ⟨go41, co41, eo41, gb41, gl41, cl41, HG41⟩ := Kd.R_form HO_2.out (by first | omega | (have hl_ := (Kd.R_reads' HO_2.out).1; omega)); (first | cases eo41 | (injection eo41 with ea_ en_ ec_; (first | subst ea_ | (injection ea_ with ea_; subst ea_)); subst ec_; clear en_)); have GB41 := Aside0.mk gb41; have GG41 := Aside0.mk HG41; clear gb41 gl41 HG41; have HMgo41 := Aside0.mk (show ((P0_ go41 ∨ P2_ go41) ∨ w.heap.size ≤ go41) from (HO_2.out.1 _ rfl).1); (first | simp only [add_plain] at hx105_0 | skip); (first | simp only [add_plain] at hx108_0 | skip); (first | simp only [add_plain] at hx115_0 | skip); obtain ⟨hx41_0, hf41_0⟩ := Kd.R_celln 0 HO_2.out (x9_1 : Int) p41 q41; replace p41 := eq_true p41; replace q41 := eq_true q41; obtain ⟨hy48_, hz48_⟩ := Kd.R_celln 0 HO_2.out (x9_1 : Int) (zA2) (zA2); have HP48 := Kd.R_putg HO_2.out (x9_1 : Int) (wrap64 ((rd x2_1 x9_1) + 1))) | ((with_reducible refine gate_store (t := 3) (p := 80) rfl ?_); refine store_event (t := 3) (p := 80) (v := ?vo_w49) (w1 := (w47.setCell ⟨go41, (x9_1 : Int).toNat, none⟩ (.int .i64 (wrap64 ((rd x2_1 x9_1) + 1))))) ?hg ?ho ?hn ?hr ?_; (case ho => rfl); (case hg => rfl); (case hn => rfl); (case hr => first | (go_simp; done) | (go_simp; rfl)); intro w49 hw; have hg : w47.grownBy w49 (some go41) := (by rw [hw]; exact HP48.2); have hp_ : Kd.R (Kd.int .i64) 3 w49 w0.heap.size (fun k_ => ((P0_ k_ ∨ P2_ k_) ∨ w.heap.size ≤ k_) ∧ some k_ ≠ (.slice (some ⟨go38, 0, none⟩) x0_1.length co45 : Value).ownBlock) (.slice (some ⟨go41, 0, none⟩) x2_1.length co16) y116 := (by rw [hw, Ny116.out]; exact HP48.1); clear HP48; have n0_ := Aside0.mk (Kd.R_after (v := (.slice (some ⟨go41, 0, none⟩) x2_1.length co16)) (v1 := (.slice (some ⟨go41, 0, none⟩) x2_1.length co16)) (ok := (fun k_ => ((P0_ k_ ∨ P2_ k_) ∨ w.heap.size ≤ k_))) (zR2 HO_0.out) hg (.inl rfl)); have n1_ := Aside0.mk (hp_); have n2_ := Aside0.mk (zg2 BK110.out hg (Kd.R_ne HO_2.out BK110.out (by decide))); have n3_ := Aside0.mk ((by rw [hw]; exact below_set (HB.out) GB41.out : Below w0.heap.size w0 w49)); have n4_ := Aside0.mk (Kept.of_grown (S := (fun k_ => P0_ k_ ∨ P2_ k_)) hg (zB2_2) (fun k_ e_ => (HO_2.out.1 k_ e_).1)); clear HO_0; clear HO_2; clear BK110; clear HB; clear HK; have HO_0 := n0_; have HO_2 := n1_; have BK110 := n2_; have HB := n3_; have HK := n4_; clear n0_ n1_ n2_ n3_ n4_; clear hg hw hp_) | ((with_reducible refine gate_callee (f := 13) rfl ?_); refine goesL_ (some 86) rfl rfl Try.func13 (by kernel_rfl) rfl #[.slice (some ⟨go38, 0, none⟩) x0_1.length co45, .slice (some ad106) l1.length c1, .slice (some ⟨go41, 0, none⟩) x2_1.length co16, .int .i64 (wrap64 (a3 - 1))] rfl zT2 ?_; (with_reducible refine (ih kj13 (by have := HK1.out; have := HJ13.out; omega) (fun k_ => some k_ = (.slice (some ⟨go38, 0, none⟩) x0_1.length co45 : Value).ownBlock) (.slice (some ⟨go38, 0, none⟩) x0_1.length co45) y114 _ _ l1 (fun k_ => some k_ = (.slice (some ⟨go41, 0, none⟩) x2_1.length co16 : Value).ownBlock) (.slice (some ⟨go41, 0, none⟩) x2_1.length co16) y116 (wrap64 (a3 - 1)) true t118 t119 w0 _ ?side1 ?side2 ?side3 ?side4 ?side5 ?side6 ?side7 A42.out).mono ?_); (case side1 => exact zB2_3); (case side2 => exact Kd.R_tight rfl HO_0.out); (case side3 => exact fun k_ e_ => (HO_0.out.1 k_ e_.symm).2); (case side4 => exact Kd.C_kept_call HR1.out (zB2_2) (fun k_ hs_ => Or.elim hs_ (fun e_ => (fun e_ => (HO_0.out.1 k_ e_.symm).1) e_) (fun e_ => (fun e_ => (HO_2.out.1 k_ e_.symm).1) e_))); (case side5 => exact HC1.out); (case side6 => exact Kd.R_tight rfl HO_2.out); (case side7 => exact fun k_ e_ => (HO_2.out.1 k_ e_.symm).2); rintro e w50 ⟨rfl, hy0, hy1, hb, hkp⟩; refine ⟨_, rfl, ?_⟩; have n0_ := Aside0.mk (Kd.R_reok rfl hy0 (fun k_ e_ => HO_0.out.1 k_ e_)); have n1_ := Aside0.mk (Kd.R_reok rfl hy1 (fun k_ e_ => HO_2.out.1 k_ e_)); have n2_ := Aside0.mk (blk_kept (zK2 BK110.out) hkp (fun hs_ => Or.elim hs_ (fun e_ => (fun e_ => (Kd.R_ne HO_0.out BK110.out (by decide)) e_) e_) (fun e_ => (fun e_ => (Kd.R_ne HO_2.out BK110.out (by decide)) e_) e_))); have n3_ := Aside0.mk (Kept.then_ (S := (fun k_ => P0_ k_ ∨ P2_ k_)) (zB2_2) hkp (fun k_ hs_ => Or.elim hs_ (fun e_ => (fun e_ => (HO_0.out.1 k_ e_.symm).1) e_) (fun e_ => (fun e_ => (HO_2.out.1 k_ e_.symm).1) e_))); have n4_ := Aside0.mk (hb); clear HO_0; clear HO_2; clear BK110; clear HK; clear HB; have HO_0 := n0_; have HO_2 := n1_; have BK110 := n2_; have HK := n3_; have HB := n4_; clear n0_ n1_ n2_ n3_ n4_; (try clear hb); (try clear hkp); (try clear hy0); (try clear hy1)))
      go_ret
      exact ⟨zE2, by (with_reducible repeat (first | apply Kd.R_alloc | apply Kd.R_drewN | apply Kd.R_drew)); exact Kd.R_mono HO_0.out (fun _ hk => hk.1), by (with_reducible repeat (first | apply Kd.R_alloc | apply Kd.R_drewN | apply Kd.R_drew)); exact Kd.R_mono HO_2.out (fun _ hk => hk.1), zB2_3, zB2_2⟩
     replace c43 := Bool.eq_false_iff.mpr c43
     subst c43
     have H1 : (spec_l21Go.l0 kj13 (t118.set (((rd_T42 (rd_L4 l1 x9_1) (rd x2_1 x9_1)).f0) : Int).toNat (rd x0_1 ((rd_T42 (rd_L4 l1 x9_1) (rd x2_1 x9_1)).f0))) l1 (t119.set (x9_1 : Int).toNat (wrap64 ((rd t119 x9_1) - 1))) a3 (wrap64 (x9_1 + 1))) = some (r1, r2, r3) := by rw [if_neg (show ¬ (false = true) by decide)] at H; exact H
     clear H
     have H := H1
     clear H1
     obtain ⟨y121, hy121⟩ : ∃ y_ : List Int, y_ = (t119.set (x9_1 : Int).toNat (wrap64 ((rd t119 x9_1) - 1))) := ⟨_, rfl⟩
     replace H : (spec_l21Go.l0 kj13 (t118.set (((rd_T42 (rd_L4 l1 x9_1) (rd x2_1 x9_1)).f0) : Int).toNat (rd x0_1 ((rd_T42 (rd_L4 l1 x9_1) (rd x2_1 x9_1)).f0))) l1 y121 a3 (wrap64 (x9_1 + 1))) = some (r1, r2, r3) := by first | (rw [hy121]; with_reducible exact H) | (have H2_ := (Option.bind_some _ _).symm.trans H; rw [hy121]; with_reducible exact H2_) | (have H2_ := (Option.bind_some _ _).symm.trans H; with_reducible exact H2_) | with_reducible exact H | (rw [hy121]; exact H) | exact H
     have Ny121 := Aside0.mk hy121
     clear hy121
     obtain ⟨y122, hy122⟩ : ∃ y_ : List Int, y_ = (t118.set (((rd_T42 (rd_L4 l1 x9_1) (rd x2_1 x9_1)).f0) : Int).toNat (rd x0_1 ((rd_T42 (rd_L4 l1 x9_1) (rd x2_1 x9_1)).f0))) := ⟨_, rfl⟩
     replace H : (spec_l21Go.l0 kj13 y122 l1 y121 a3 (wrap64 (x9_1 + 1))) = some (r1, r2, r3) := by first | (rw [hy122]; with_reducible exact H) | (have H2_ := (Option.bind_some _ _).symm.trans H; rw [hy122]; with_reducible exact H2_) | (have H2_ := (Option.bind_some _ _).symm.trans H; with_reducible exact H2_) | with_reducible exact H | (rw [hy122]; exact H) | exact H
     have Ny122 := Aside0.mk hy122
     clear hy122
     have H' := Aside0.mk H
     clear H
     obtain ⟨hcz53_0, hcz53_1, hcz53_2, hfz53_0, hfz53_1, hfz53_2⟩ := zc2_3 (w := wc) BK110.out
     obtain ⟨Ao54, co54, eo54⟩ := Kd.R_slice HO_0.out
     subst eo54
     have p113 : 0 ≤ (((rd_T42 (rd_L4 l1 x9_1) (rd x2_1 x9_1)).f0) : Int) := zA2
     have q113 : ((rd_T42 (rd_L4 l1 x9_1) (rd x2_1 x9_1)).f0) < (x0_1.length : Int) := zA2
     (try (obtain ⟨Aoz_, coz_, eoz_⟩ := Kd.R_slice HO_0.out; subst eoz_))
     obtain ⟨ad113, e113, hx113_0⟩ := Kd.at_int (Kd.R_reads' HO_0.out).2.2 ((rd_T42 (rd_L4 l1 x9_1) (rd x2_1 x9_1)).f0) p113 q113
     cases e113
     replace p113 := eq_true p113
     replace q113 := eq_true q113
     have p38 : 0 ≤ (((rd_T42 (rd_L4 l1 x9_1) (rd x2_1 x9_1)).f0) : Int) := zA2
     have q38 : (((rd_T42 (rd_L4 l1 x9_1) (rd x2_1 x9_1)).f0) : Int) < ((x0_1.length : Int) : Int) := zA2
     obtain ⟨go38, co38, eo38, gb38, gl38, cl38, HG38⟩ := Kd.R_form HO_0.out (by first | omega | (have hl_ := (Kd.R_reads' HO_0.out).1; omega))
     (first | cases eo38 | (injection eo38 with ea_ en_ ec_; (first | subst ea_ | (injection ea_ with ea_; subst ea_)); subst ec_; clear en_))
     have GB38 := Aside0.mk gb38
     have GG38 := Aside0.mk HG38
     clear gb38 gl38 HG38
     have HMgo38 := Aside0.mk (show ((P0_ go38 ∨ P2_ go38) ∨ w.heap.size ≤ go38) from (HO_0.out.1 _ rfl).1)
     (first | simp only [add_plain] at hx113_0 | skip)
     obtain ⟨hx38_0, hf38_0⟩ := Kd.R_celln 0 HO_0.out (((rd_T42 (rd_L4 l1 x9_1) (rd x2_1 x9_1)).f0) : Int) p38 q38
     replace p38 := eq_true p38
     replace q38 := eq_true q38
     have HP55 := Kd.R_putg HO_0.out (((rd_T42 (rd_L4 l1 x9_1) (rd x2_1 x9_1)).f0) : Int) ((rd_T42 (rd_L4 l1 x9_1) (rd x2_1 x9_1)).f2)
     go_wp2_with (first | ((with_reducible refine gate_store (t := 3) (p := 72) rfl ?_); refine store_event (t := 3) (p := 72) (v := ?vo_w56) (w1 := (wc.setCell ⟨go38, (((rd_T42 (rd_L4 l1 x9_1) (rd x2_1 x9_1)).f0) : Int).toNat, none⟩ (.int .i64 ((rd_T42 (rd_L4 l1 x9_1) (rd x2_1 x9_1)).f2)))) ?hg ?ho ?hn ?hr ?_; (case ho => rfl); (case hg => rfl); (case hn => rfl); (case hr => first | (go_simp; done) | (go_simp; rfl)); intro w56 hw; have hg : wc.grownBy w56 (some go38) := (by rw [hw]; exact HP55.2); have hp_ : Kd.R (Kd.int .i64) 3 w56 w0.heap.size (fun k_ => ((P0_ k_ ∨ P2_ k_) ∨ w.heap.size ≤ k_) ∧ some k_ ≠ (.slice (some ad105) x2_1.length co16 : Value).ownBlock) (.slice (some ⟨go38, 0, none⟩) x0_1.length co54) y114 := (by rw [hw, Ny114.out]; exact HP55.1); clear HP55; have n0_ := Aside0.mk (hp_); have n1_ := Aside0.mk (Kd.R_after (v := (.slice (some ⟨go38, 0, none⟩) x0_1.length co54)) (v1 := (.slice (some ⟨go38, 0, none⟩) x0_1.length co54)) (ok := (fun k_ => ((P0_ k_ ∨ P2_ k_) ∨ w.heap.size ≤ k_))) (zR2 HO_2.out) hg (.inl rfl)); have n2_ := Aside0.mk (zg2 BK110.out hg (Kd.R_ne HO_0.out BK110.out (by decide))); have n3_ := Aside0.mk ((by rw [hw]; exact below_set (HB.out) GB38.out : Below w0.heap.size w0 w56)); have n4_ := Aside0.mk (Kept.of_grown (S := (fun k_ => P0_ k_ ∨ P2_ k_)) hg (zB2_2) (fun k_ e_ => (HO_0.out.1 k_ e_).1)); clear HO_0; clear HO_2; clear BK110; clear HB; clear HK; have HO_0 := n0_; have HO_2 := n1_; have BK110 := n2_; have HB := n3_; have HK := n4_; clear n0_ n1_ n2_ n3_ n4_; clear hg hw hp_; have p115 : 0 ≤ (x9_1 : Int) := zA2; have q115 : x9_1 < (x2_1.length : Int) := zA2; obtain ⟨ad115, e115, hx115_0⟩ := Kd.at_int (Kd.R_reads' HO_2.out).2.2 x9_1 p115 q115; obtain rfl : ad105 = ad115 := (by injection e115); replace p115 := eq_true p115; replace q115 := eq_true q115; have p41 : 0 ≤ (x9_1 : Int) := zA2; have q41 : (x9_1 : Int) < ((x2_1.length : Int) : Int) := zA2; obtain ⟨go41, co41, eo41, gb41, gl41, cl41, HG41⟩ := Kd.R_form HO_2.out (by first | omega | (have hl_ := (Kd.R_reads' HO_2.out).1; omega)); (first | cases eo41 | (injection eo41 with ea_ en_ ec_; (first | subst ea_ | (injection ea_ with ea_; subst ea_)); subst ec_; clear en_)); have GB41 := Aside0.mk gb41; have GG41 := Aside0.mk HG41; clear gb41 gl41 HG41; have HMgo41 := Aside0.mk (show ((P0_ go41 ∨ P2_ go41) ∨ w.heap.size ≤ go41) from (HO_2.out.1 _ rfl).1); (first | simp only [add_plain] at hx115_0 | skip); obtain ⟨hx41_0, hf41_0⟩ := Kd.R_celln 0 HO_2.out (x9_1 : Int) p41 q41; replace p41 := eq_true p41; replace q41 := eq_true q41; obtain ⟨hy57_, hz57_⟩ := Kd.R_celln 0 HO_2.out (x9_1 : Int) (zA2) (zA2); have HP57 := Kd.R_putg HO_2.out (x9_1 : Int) (wrap64 ((rd x2_1 x9_1) + 1))) | ((with_reducible refine gate_store (t := 3) (p := 80) rfl ?_); refine store_event (t := 3) (p := 80) (v := ?vo_w58) (w1 := (w56.setCell ⟨go41, (x9_1 : Int).toNat, none⟩ (.int .i64 (wrap64 ((rd x2_1 x9_1) + 1))))) ?hg ?ho ?hn ?hr ?_; (case ho => rfl); (case hg => rfl); (case hn => rfl); (case hr => first | (go_simp; done) | (go_simp; rfl)); intro w58 hw; have hg : w56.grownBy w58 (some go41) := (by rw [hw]; exact HP57.2); have hp_ : Kd.R (Kd.int .i64) 3 w58 w0.heap.size (fun k_ => ((P0_ k_ ∨ P2_ k_) ∨ w.heap.size ≤ k_) ∧ some k_ ≠ (.slice (some ⟨go38, 0, none⟩) x0_1.length co54 : Value).ownBlock) (.slice (some ⟨go41, 0, none⟩) x2_1.length co16) y116 := (by rw [hw, Ny116.out]; exact HP57.1); clear HP57; have n0_ := Aside0.mk (Kd.R_after (v := (.slice (some ⟨go41, 0, none⟩) x2_1.length co16)) (v1 := (.slice (some ⟨go41, 0, none⟩) x2_1.length co16)) (ok := (fun k_ => ((P0_ k_ ∨ P2_ k_) ∨ w.heap.size ≤ k_))) (zR2 HO_0.out) hg (.inl rfl)); have n1_ := Aside0.mk (hp_); have n2_ := Aside0.mk (zg2 BK110.out hg (Kd.R_ne HO_2.out BK110.out (by decide))); have n3_ := Aside0.mk ((by rw [hw]; exact below_set (HB.out) GB41.out : Below w0.heap.size w0 w58)); have n4_ := Aside0.mk (Kept.of_grown (S := (fun k_ => P0_ k_ ∨ P2_ k_)) hg (zB2_2) (fun k_ e_ => (HO_2.out.1 k_ e_).1)); clear HO_0; clear HO_2; clear BK110; clear HB; clear HK; have HO_0 := n0_; have HO_2 := n1_; have BK110 := n2_; have HB := n3_; have HK := n4_; clear n0_ n1_ n2_ n3_ n4_; clear hg hw hp_) | ((with_reducible refine gate_callee (f := 13) rfl ?_); refine goesL_ (some 86) rfl rfl Try.func13 (by kernel_rfl) rfl #[.slice (some ⟨go38, 0, none⟩) x0_1.length co54, .slice (some ad106) l1.length c1, .slice (some ⟨go41, 0, none⟩) x2_1.length co16, .int .i64 (wrap64 (a3 - 1))] rfl zT2 ?_; (with_reducible refine (ih kj13 (by have := HK1.out; have := HJ13.out; omega) (fun k_ => some k_ = (.slice (some ⟨go38, 0, none⟩) x0_1.length co54 : Value).ownBlock) (.slice (some ⟨go38, 0, none⟩) x0_1.length co54) y114 _ _ l1 (fun k_ => some k_ = (.slice (some ⟨go41, 0, none⟩) x2_1.length co16 : Value).ownBlock) (.slice (some ⟨go41, 0, none⟩) x2_1.length co16) y116 (wrap64 (a3 - 1)) false t118 t119 w0 _ ?side1 ?side2 ?side3 ?side4 ?side5 ?side6 ?side7 A42.out).mono ?_); (case side1 => exact zB2_3); (case side2 => exact Kd.R_tight rfl HO_0.out); (case side3 => exact fun k_ e_ => (HO_0.out.1 k_ e_.symm).2); (case side4 => exact Kd.C_kept_call HR1.out (zB2_2) (fun k_ hs_ => Or.elim hs_ (fun e_ => (fun e_ => (HO_0.out.1 k_ e_.symm).1) e_) (fun e_ => (fun e_ => (HO_2.out.1 k_ e_.symm).1) e_))); (case side5 => exact HC1.out); (case side6 => exact Kd.R_tight rfl HO_2.out); (case side7 => exact fun k_ e_ => (HO_2.out.1 k_ e_.symm).2); rintro e w59 ⟨rfl, hy0, hy1, hb, hkp⟩; refine ⟨_, rfl, ?_⟩; have n0_ := Aside0.mk (Kd.R_reok rfl hy0 (fun k_ e_ => HO_0.out.1 k_ e_)); have n1_ := Aside0.mk (Kd.R_reok rfl hy1 (fun k_ e_ => HO_2.out.1 k_ e_)); have n2_ := Aside0.mk (blk_kept (zK2 BK110.out) hkp (fun hs_ => Or.elim hs_ (fun e_ => (fun e_ => (Kd.R_ne HO_0.out BK110.out (by decide)) e_) e_) (fun e_ => (fun e_ => (Kd.R_ne HO_2.out BK110.out (by decide)) e_) e_))); have n3_ := Aside0.mk (Kept.then_ (S := (fun k_ => P0_ k_ ∨ P2_ k_)) (zB2_2) hkp (fun k_ hs_ => Or.elim hs_ (fun e_ => (fun e_ => (HO_0.out.1 k_ e_.symm).1) e_) (fun e_ => (fun e_ => (HO_2.out.1 k_ e_.symm).1) e_))); have n4_ := Aside0.mk (hb); clear HO_0; clear HO_2; clear BK110; clear HK; clear HB; have HO_0 := n0_; have HO_2 := n1_; have BK110 := n2_; have HK := n3_; have HB := n4_; clear n0_ n1_ n2_ n3_ n4_; (try clear hb); (try clear hkp); (try clear hy0); (try clear hy1); have p120 : 0 ≤ (x9_1 : Int) := zA2; have q120 : x9_1 < (t119.length : Int) := (by have h_ : (x9_1 : Int) < ((x2_1.length : Int) : Int) := zA2; have e_ := (Kd.R_reads' HO_2.out).1; omega); have ql120 : ((x9_1 : Int) < ((x2_1.length : Int) : Int)) = True := eq_true (zA2); obtain ⟨ad120, e120, hx120_0⟩ := Kd.at_int (Kd.R_reads' HO_2.out).2.2 x9_1 p120 q120; obtain rfl : (⟨go41, 0, none⟩ : Addr) = ad120 := (by injection e120); (first | simp only [add_plain] at hx120_0 | simp only [add_at] at hx120_0 | simp only [Addr.add, Nat.zero_add] at hx120_0 | skip); replace p120 := eq_true p120; replace q120 := eq_true q120; have p51 : 0 ≤ (x9_1 : Int) := zA2; have q51 : (x9_1 : Int) < ((x2_1.length : Int) : Int) := zA2; obtain ⟨hx51_0, hf51_0⟩ := Kd.R_celln 0 HO_2.out (x9_1 : Int) p51 q51; replace p51 := eq_true p51; replace q51 := eq_true q51; obtain ⟨hy60_, hz60_⟩ := Kd.R_celln 0 HO_2.out (x9_1 : Int) (zA2) (zA2); have HP60 := Kd.R_putg HO_2.out (x9_1 : Int) (wrap64 ((rd t119 x9_1) - 1))) | ((with_reducible refine gate_store (t := 3) (p := 94) rfl ?_); refine store_event (t := 3) (p := 94) (v := ?vo_w61) (w1 := (w59.setCell ⟨go41, (x9_1 : Int).toNat, none⟩ (.int .i64 (wrap64 ((rd t119 x9_1) - 1))))) ?hg ?ho ?hn ?hr ?_; (case ho => rfl); (case hg => rfl); (case hn => rfl); (case hr => first | (go_simp; done) | (go_simp; rfl)); intro w61 hw; have hg : w59.grownBy w61 (some go41) := (by rw [hw]; exact HP60.2); have hp_ : Kd.R (Kd.int .i64) 3 w61 w0.heap.size (fun k_ => ((P0_ k_ ∨ P2_ k_) ∨ w.heap.size ≤ k_) ∧ some k_ ≠ (.slice (some ⟨go38, 0, none⟩) x0_1.length co54 : Value).ownBlock) (.slice (some ⟨go41, 0, none⟩) x2_1.length co16) y121 := (by rw [hw, Ny121.out]; exact HP60.1); clear HP60; have n0_ := Aside0.mk (Kd.R_after (v := (.slice (some ⟨go41, 0, none⟩) x2_1.length co16)) (v1 := (.slice (some ⟨go41, 0, none⟩) x2_1.length co16)) (ok := (fun k_ => ((P0_ k_ ∨ P2_ k_) ∨ w.heap.size ≤ k_))) (zR2 HO_0.out) hg (.inl rfl)); have n1_ := Aside0.mk (hp_); have n2_ := Aside0.mk (zg2 BK110.out hg (Kd.R_ne HO_2.out BK110.out (by decide))); have n3_ := Aside0.mk ((by rw [hw]; exact below_set (HB.out) GB41.out : Below w0.heap.size w0 w61)); have n4_ := Aside0.mk (Kept.of_grown (S := (fun k_ => P0_ k_ ∨ P2_ k_)) hg (zB2_2) (fun k_ e_ => (HO_2.out.1 k_ e_).1)); clear HO_0; clear HO_2; clear BK110; clear HB; clear HK; have HO_0 := n0_; have HO_2 := n1_; have BK110 := n2_; have HB := n3_; have HK := n4_; clear n0_ n1_ n2_ n3_ n4_; clear hg hw hp_; obtain ⟨hcz62_0, hcz62_1, hcz62_2, hfz62_0, hfz62_1, hfz62_2⟩ := zc2_3 (w := w61) BK110.out; have p52 : 0 ≤ (((rd_T42 (rd_L4 l1 x9_1) (rd x2_1 x9_1)).f0) : Int) := zA2; have q52 : (((rd_T42 (rd_L4 l1 x9_1) (rd x2_1 x9_1)).f0) : Int) < ((x0_1.length : Int) : Int) := zA2; obtain ⟨hx52_0, hf52_0⟩ := Kd.R_celln 0 HO_0.out (((rd_T42 (rd_L4 l1 x9_1) (rd x2_1 x9_1)).f0) : Int) p52 q52; replace p52 := eq_true p52; replace q52 := eq_true q52; obtain ⟨hy63_, hz63_⟩ := Kd.R_celln 0 HO_0.out (((rd_T42 (rd_L4 l1 x9_1) (rd x2_1 x9_1)).f0) : Int) (zA2) (zA2); have HP63 := Kd.R_putg HO_0.out (((rd_T42 (rd_L4 l1 x9_1) (rd x2_1 x9_1)).f0) : Int) (rd x0_1 ((rd_T42 (rd_L4 l1 x9_1) (rd x2_1 x9_1)).f0))) | ((with_reducible refine gate_store (t := 3) (p := 99) rfl ?_); refine store_event (t := 3) (p := 99) (v := ?vo_w64) (w1 := (w61.setCell ⟨go38, (((rd_T42 (rd_L4 l1 x9_1) (rd x2_1 x9_1)).f0) : Int).toNat, none⟩ (.int .i64 (rd x0_1 ((rd_T42 (rd_L4 l1 x9_1) (rd x2_1 x9_1)).f0))))) ?hg ?ho ?hn ?hr ?_; (case ho => rfl); (case hg => rfl); (case hn => rfl); (case hr => first | (go_simp; done) | (go_simp; rfl)); intro w64 hw; have hg : w61.grownBy w64 (some go38) := (by rw [hw]; exact HP63.2); have hp_ : Kd.R (Kd.int .i64) 3 w64 w0.heap.size (fun k_ => ((P0_ k_ ∨ P2_ k_) ∨ w.heap.size ≤ k_) ∧ some k_ ≠ (.slice (some ⟨go41, 0, none⟩) x2_1.length co16 : Value).ownBlock) (.slice (some ⟨go38, 0, none⟩) x0_1.length co54) y122 := (by rw [hw, Ny122.out]; exact HP63.1); clear HP63; have n0_ := Aside0.mk (hp_); have n1_ := Aside0.mk (Kd.R_after (v := (.slice (some ⟨go38, 0, none⟩) x0_1.length co54)) (v1 := (.slice (some ⟨go38, 0, none⟩) x0_1.length co54)) (ok := (fun k_ => ((P0_ k_ ∨ P2_ k_) ∨ w.heap.size ≤ k_))) (zR2 HO_2.out) hg (.inl rfl)); have n2_ := Aside0.mk (zg2 BK110.out hg (Kd.R_ne HO_0.out BK110.out (by decide))); have n3_ := Aside0.mk ((by rw [hw]; exact below_set (HB.out) GB38.out : Below w0.heap.size w0 w64)); have n4_ := Aside0.mk (Kept.of_grown (S := (fun k_ => P0_ k_ ∨ P2_ k_)) hg (zB2_2) (fun k_ e_ => (HO_0.out.1 k_ e_).1)); clear HO_0; clear HO_2; clear BK110; clear HB; clear HK; have HO_0 := n0_; have HO_2 := n1_; have BK110 := n2_; have HB := n3_; have HK := n4_; clear n0_ n1_ n2_ n3_ n4_; clear hg hw hp_))
     go_roundg kj13
     case measure => have := HK1.out; have := HJ13.out; omega
     case rel => exact ⟨(y122), (y121), (wrap64 (x9_1 + 1)), (by first | rfl | (simp; done) | (simp [*]; done)), H', ⟨by have := HK1.out; have := HJ13.out; omega⟩, ⟨zR2 HO_0.out⟩, ⟨zR2 HO_2.out⟩, ⟨zB2_2⟩, ⟨zB2_3⟩⟩

end Go.Proofs.Ythmkclelkijhoaa.PFnExactSeqOk
