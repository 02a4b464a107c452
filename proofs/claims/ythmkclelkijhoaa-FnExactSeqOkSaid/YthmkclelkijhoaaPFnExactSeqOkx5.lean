-- made by wip/tools/myprint.py out of the seat's translation
import Derived.Test.YthmkclelkijhoaaPFnExactSeqOkx0
import Derived.Test.YthmkclelkijhoaaPFnExactSeqOkx4
namespace Go.Proofs.Ythmkclelkijhoaa.PFnExactSeqOk
open Go.RowKit Go.Proofs.YthmkclelkijhoaaW.PrintWords Go.Proofs.YthmkclelkijhoaaW.PrintLast Go.Proofs.YthmkclelkijhoaaW.PrintMore
attribute [local go_sem] max2_int min2_int max_two min_two max_three min_three max_four min_four   -- for this text's walks alone
set_option linter.unusedVariables false
set_option linter.unusedSimpArgs false
theorem zc5_3 {w : World} {g : Nat} {a0 a1 a2 : Value} {t : TypeId} (h : w.heap[g]? = some (.cells #[a0, a1, a2] t (0, 0))) : w.cell? ⟨g, 0, none⟩ = some a0 ∧ w.cell? ⟨g, 1, none⟩ = some a1 ∧ w.cell? ⟨g, 2, none⟩ = some a2 ∧ w.frozen? ⟨g, 0, none⟩ = false ∧ w.frozen? ⟨g, 1, none⟩ = false ∧ w.frozen? ⟨g, 2, none⟩ = false := ⟨(blk_cell h 0).trans rfl, (blk_cell h 1).trans rfl, (blk_cell h 2).trans rfl, blk_frozen h 0, blk_frozen h 1, blk_frozen h 2⟩
theorem cell_at5 {W w : World} {n : Nat} {p : Addr} {v : Value} (hq : W.drewN n = w) (h : W.cell? p = some v) : w.cell? p = some v := by rw [← hq]; exact h
theorem frozen_at5 {W w : World} {n : Nat} {p : Addr} {b : Bool} (hq : W.drewN n = w) (h : W.frozen? p = b) : w.frozen? p = b := by rw [← hq]; exact h
theorem zR5 {p q : Prop} (x : q) (h : q → p := by intro h; (with_reducible repeat (first | apply Kd.R_alloc | apply Kd.R_drewN | apply Kd.R_drew)); exact h) : p := h x
theorem zK5 {p q : Prop} (x : q) (h : q → p := by intro h; (with_reducible repeat (first | refine blk_drewN ?_ _ | refine blk_drew ?_ | refine blk_alloc ?_ _)); exact h) : p := h x
theorem zA5 {p : Prop} [Decidable p] (h : decide p = true := by first | (with_reducible assumption) | assumption) : p := of_decide_eq_true h
theorem zT5 {p : Prop} (h : p := by (try simp only [List.map_toArray, List.map_cons, List.map_nil]); first | done | rfl | (simp only [List.length_drop, List.length_take]; rfl)) : p := h
theorem zC5 {p q : Prop} (x : q) (h : q → p := by intro h; repeat (first | exact h | (with_reducible refine Kd.C_alloc ?_ _) | (with_reducible refine Kd.C_drewN ?_ _) | (with_reducible refine Kd.C_drew ?_))) : p := h x
theorem zb5 {W w w1 : World} {g : Nat} {o : Obj} (x : W.heap[g]? = some o) (hb : Below w.heap.size w w1) (h : W.heap[g]? = some o → w.heap[g]? = some o := by intro h; (with_reducible repeat (first | refine blk_drewN ?_ _ | refine blk_drew ?_ | refine blk_alloc ?_ _)); exact h) : w1.heap[g]? = some o := blk_below (h x) hb
theorem zg5 {W w w1 : World} {g : Nat} {o : Obj} {row : Option Nat} (x : W.heap[g]? = some o) (hg : w.grownBy w1 row) (hne : some g ≠ row) (h : W.heap[g]? = some o → w.heap[g]? = some o := by intro h; (with_reducible repeat (first | refine blk_drewN ?_ _ | refine blk_drew ?_ | refine blk_alloc ?_ _)); exact h) : w1.heap[g]? = some o := blk_grown (h x) hg hne
theorem zn5 {W w : World} {g g' : Nat} {o : Obj} (x : W.heap[g]? = some o) (hg : g' = w.heap.size) (h : W.heap[g]? = some o → w.heap[g]? = some o := by intro h; (with_reducible repeat (first | refine blk_drewN ?_ _ | refine blk_drew ?_ | refine blk_alloc ?_ _)); exact h) : g ≠ g' := by rw [hg]; exact Nat.ne_of_lt (blk_lt (h x))
theorem zm5 {W w : World} {g g' : Nat} {o : Obj} (x : W.heap[g]? = some o) (hg : g' = w.heap.size) (h : W.heap[g]? = some o → w.heap[g]? = some o := by intro h; (with_reducible repeat (first | refine blk_drewN ?_ _ | refine blk_drew ?_ | refine blk_alloc ?_ _)); exact h) : g' ≠ g := by rw [hg]; exact Nat.ne_of_gt (blk_lt (h x))
theorem zP5 {p q : Prop} (x : q) (h : q → p := by intro h; (with_reducible repeat (first | refine blk_drewN ?_ _ | refine blk_drew ?_ | refine blk_alloc ?_ _)); exact h) : p := h x
theorem zE5 {p : Prop} (h : p := by first | rfl | (simp [errW_none, errW_some] <;> rfl) | (simp [*, errW_none, errW_some] <;> rfl)) : p := h
theorem zB5_0 {p : Prop} (h : p := by repeat (first | (with_reducible first | exact HB.out | apply below_alloc | apply pw_below_drewN | apply below_drew1) | exact HB.out)) : p := h
theorem zB5_1 {p : Prop} (h : p := by repeat (first | (with_reducible first | exact HB.out | apply below_alloc | apply pw_below_drewN | apply below_drew1 | refine below_set ?_ GE179.out) | exact HB.out)) : p := h
theorem zB5_2 {p : Prop} (h : p := by repeat (first | (with_reducible first | exact HB.out | apply below_alloc | apply pw_below_drewN | apply below_drew1 | refine below_set ?_ GE201.out) | exact HB.out)) : p := h
theorem zB5_3 {p : Prop} (h : p := by repeat (first | (with_reducible first | exact HB.out | apply below_alloc | apply pw_below_drewN | apply below_drew1 | refine below_set ?_ GE201.out | refine below_set ?_ GE202.out) | exact HB.out)) : p := h

/-! ### impl_some: function 16 -/
mutual
def impl_some.l0 : Nat → List Int → List (List (S42)) → Bool → List (List (S42)) → Int → Int → Option (Bool)
 | 0, _, _, _, _, _, _ => none
 | k + 1, x0, x1, x5, x11, x12, x13 => if x13 < x12 then (if 0 ≤ x13 then (if x13 < (x11.length : Int) then (if ((rd_L4 x11 x13).length : Int) = 0 then (impl_some.l0 k x0 x1 x5 x11 x12 (wrap64 (x13 + 1))) else (if 0 < ((rd_L4 x11 x13).length : Int) then ((impl_isCell.f ((rd_T42 (rd_L4 x11 x13) 0).f0)).bind fun t180 => (if t180 = true then (if ((rd_T42 (rd_L4 x11 x13) 0).f1) ≥ 0 then (if 0 ≤ ((rd_T42 (rd_L4 x11 x13) 0).f0) then (if ((rd_T42 (rd_L4 x11 x13) 0).f0) < (x0.length : Int) then (impl_some.j1 k x0 x1 true (rd_L4 x11 x13) x11 x12 x13 (((rd_T42 (rd_L4 x11 x13) 0).f1) != (rd x0 ((rd_T42 (rd_L4 x11 x13) 0).f0))) ((rd_T42 (rd_L4 x11 x13) 0).f0) ((rd_T42 (rd_L4 x11 x13) 0).f1) ((rd_T42 (rd_L4 x11 x13) 0).f2)) else (none)) else (none)) else (impl_some.j1 k x0 x1 true (rd_L4 x11 x13) x11 x12 x13 false ((rd_T42 (rd_L4 x11 x13) 0).f0) ((rd_T42 (rd_L4 x11 x13) 0).f1) ((rd_T42 (rd_L4 x11 x13) 0).f2))) else (impl_some.j1 k x0 x1 true (rd_L4 x11 x13) x11 x12 x13 true ((rd_T42 (rd_L4 x11 x13) 0).f0) ((rd_T42 (rd_L4 x11 x13) 0).f1) ((rd_T42 (rd_L4 x11 x13) 0).f2)))) else (none))) else (none)) else (none)) else (some (!x5))
def impl_some.j1 : Nat → List Int → List (List (S42)) → Bool → List (S42) → List (List (S42)) → Int → Int → Bool → Int → Int → Int → Option (Bool)
 | 0, _, _, _, _, _, _, _, _, _, _, _ => none
 | k + 1, x0, x1, x5, x7, x11, x12, x13, x42, x180000, x180001, x180002 => if x42 = true then (impl_some.l0 k x0 x1 x5 x11 x12 (wrap64 (x13 + 1))) else ((slices_Clone_int_int.f x0).bind fun t182 => (if x180002 ≥ 0 then (if 0 ≤ x180000 then (if x180000 < (t182.length : Int) then (if 1 ≤ (x7.length : Int) then ((impl_some.f k (t182.set (x180000 : Int).toNat x180002) (x1.set (x13 : Int).toNat (x7.drop (1 : Int).toNat))).bind fun t190 => (if t190 = true then (some true) else (impl_some.l0 k x0 x1 x5 x11 x12 (wrap64 (x13 + 1))))) else (none)) else (none)) else (none)) else (if 1 ≤ (x7.length : Int) then ((impl_some.f k t182 (x1.set (x13 : Int).toNat (x7.drop (1 : Int).toNat))).bind fun t195 => (if t195 = true then (some true) else (impl_some.l0 k x0 x1 x5 x11 x12 (wrap64 (x13 + 1))))) else (none))))
def impl_some.f : Nat → List Int → List (List (S42)) → Option (Bool)
 | 0, _, _ => none
 | k + 1, l0, l1 => if l1.length ≤ 1000000 then impl_some.l0 k l0 l1 false l1 (l1.length : Int) 0 else none
end
theorem impl_some.mono_l : ∀ k, (∀ y0 y1, LeO (impl_some.f k y0 y1) (impl_some.f (k + 1) y0 y1)) ∧ (∀ y0 y1 y2 y3 y4 y5, LeO (impl_some.l0 k y0 y1 y2 y3 y4 y5) (impl_some.l0 (k + 1) y0 y1 y2 y3 y4 y5)) ∧ (∀ y0 y1 y2 y3 y4 y5 y6 y7 y8 y9 y10, LeO (impl_some.j1 k y0 y1 y2 y3 y4 y5 y6 y7 y8 y9 y10) (impl_some.j1 (k + 1) y0 y1 y2 y3 y4 y5 y6 y7 y8 y9 y10))
 | 0 => ⟨fun _ _ r h => by simp [impl_some.f] at h, fun _ _ _ _ _ _ r h => by simp [impl_some.l0] at h, fun _ _ _ _ _ _ _ _ _ _ _ r h => by simp [impl_some.j1] at h⟩
 | k + 1 => by
  obtain ⟨ih0, ih1, ih2⟩ := impl_some.mono_l k
  refine ⟨?_, ?_, ?_⟩
  ·intro y0 y1
   unfold impl_some.f
   repeat' first
   | (with_reducible exact ih0 _ _)
   | (with_reducible exact ih1 _ _ _ _ _ _)
   | (with_reducible exact ih2 _ _ _ _ _ _ _ _ _ _ _)
   | (with_reducible exact LeO.refl _)
   | (with_reducible exact LeO.none _)
   | (with_reducible refine LeO.ite ?_ ?_)
   | (with_reducible refine LeO.bind ?_ (fun _ => ?_))
   | exact ih0 _ _
   | exact ih1 _ _ _ _ _ _
   | exact ih2 _ _ _ _ _ _ _ _ _ _ _
   | exact LeO.none _
   | refine LeO.ite ?_ ?_
   | refine LeO.bind ?_ (fun _ => ?_)
  ·intro y0 y1 y2 y3 y4 y5
   unfold impl_some.l0
   repeat' first
   | (with_reducible exact ih0 _ _)
   | (with_reducible exact ih1 _ _ _ _ _ _)
   | (with_reducible exact ih2 _ _ _ _ _ _ _ _ _ _ _)
   | (with_reducible exact LeO.refl _)
   | (with_reducible exact LeO.none _)
   | (with_reducible refine LeO.ite ?_ ?_)
   | (with_reducible refine LeO.bind ?_ (fun _ => ?_))
   | exact ih0 _ _
   | exact ih1 _ _ _ _ _ _
   | exact ih2 _ _ _ _ _ _ _ _ _ _ _
   | exact LeO.none _
   | refine LeO.ite ?_ ?_
   | refine LeO.bind ?_ (fun _ => ?_)
  ·intro y0 y1 y2 y3 y4 y5 y6 y7 y8 y9 y10
   unfold impl_some.j1
   repeat' first
   | (with_reducible exact ih0 _ _)
   | (with_reducible exact ih1 _ _ _ _ _ _)
   | (with_reducible exact ih2 _ _ _ _ _ _ _ _ _ _ _)
   | (with_reducible exact LeO.refl _)
   | (with_reducible exact LeO.none _)
   | (with_reducible refine LeO.ite ?_ ?_)
   | (with_reducible refine LeO.bind ?_ (fun _ => ?_))
   | exact ih0 _ _
   | exact ih1 _ _ _ _ _ _
   | exact ih2 _ _ _ _ _ _ _ _ _ _ _
   | exact LeO.none _
   | refine LeO.ite ?_ ?_
   | refine LeO.bind ?_ (fun _ => ?_)
theorem impl_some.mono : ∀ a0 a1 k, LeO (impl_some.f k a0 a1) (impl_some.f (k + 1) a0 a1) := by
 intro a0 a1 k
 obtain ⟨ih0, ih1, ih2⟩ := impl_some.mono_l k
 exact ih0 a0 a1
/-- A row's value, read as such. -/
structure RawS where
 A : Option Addr
 n : Nat
 c : Nat
def rawK : Kd RawS := Kd.scalar (fun r => .slice r.A r.n r.c) (fun _ => rfl)
def RawOf {α : Type} (d : Kd α) (w : World) (rs : List RawS) (xs : List (List α)) : Prop := rs.length = xs.length ∧ ∀ (i : Nat) (r : RawS) (x : List α), rs[i]? = some r → xs[i]? = some x → r.n = x.length ∧ x.length ≤ r.c ∧ d.C w r.A x.length x
theorem raw_open {α : Type} {d : Kd α} {e : Nat} {w : World} {A : Option Addr} {n : Nat} : ∀ {xs : List (List α)}, (Kd.slice e d).C w A n xs → ∃ rs, rawK.C w A n rs ∧ RawOf d w rs xs := by
 intro xs h
 have key : ∀ m, m ≤ xs.length → ∃ rs : List RawS, rs.length = m ∧ (∀ (i : Nat) (r : RawS) (x : List α), rs[i]? = some r → xs[i]? = some x → r.n = x.length ∧ x.length ≤ r.c ∧ d.C w r.A x.length x) ∧ ∀ ad, A = some ad → ∀ (i : Nat) (r : RawS), rs[i]? = some r → w.cell? (ad.add i) = some (.slice r.A r.n r.c) := by
  intro m
  induction m with
  | zero => exact fun _ => ⟨[], rfl, fun i r x hi => by simp at hi, fun ad _ i r hi => by simp at hi⟩
  | succ m ih =>
   intro hm
   obtain ⟨rs, hl, h1, h2⟩ := ih (by omega)
   have hn := h.1
   obtain ⟨ad, cs, he, _, ⟨A', c', rfl, hc, hC⟩, hcell⟩ := Kd.C_get h [] (m : Int) (by omega) (by omega)
   have hx : xs[m]? = some (xs.getD m []) := by simp [List.getD_eq_getElem?_getD, List.getElem?_eq_getElem (show m < xs.length by omega)]
   simp only [Int.toNat_natCast] at hcell hc hC
   refine ⟨rs ++ [⟨A', (xs.getD m []).length, c'⟩], by simp [hl], fun i r x hi hx' => ?_, fun ad' e' i r hi => ?_⟩
   ·rcases Nat.lt_or_ge i m with hlt | hge
    ·rw [List.getElem?_append_left (by omega)] at hi
     exact h1 i r x hi hx'
    ·rw [List.getElem?_append_right (by omega), hl] at hi
     have hi0 : i - m = 0 := by
      rcases Nat.eq_zero_or_pos (i - m) with h0 | h0
      ·exact h0
      ·rw [List.getElem?_eq_none (by simp; omega)] at hi; cases hi
     obtain rfl : i = m := by omega
     rw [Nat.sub_self] at hi
     obtain rfl : _ = r := by simpa using hi
     obtain rfl := Option.some.inj (hx.symm.trans hx')
     exact ⟨rfl, hc, hC⟩
   ·rw [he] at e'
    obtain rfl := Option.some.inj e'
    rcases Nat.lt_or_ge i m with hlt | hge
    ·rw [List.getElem?_append_left (by omega)] at hi
     exact h2 ad he i r hi
    ·rw [List.getElem?_append_right (by omega), hl] at hi
     have hi0 : i - m = 0 := by
      rcases Nat.eq_zero_or_pos (i - m) with h0 | h0
      ·exact h0
      ·rw [List.getElem?_eq_none (by simp; omega)] at hi; cases hi
     obtain rfl : i = m := by omega
     rw [Nat.sub_self] at hi
     obtain rfl : _ = r := by simpa using hi
     have h3 := hcell 0 _ rfl
     rwa [show (Kd.slice e d).sz = 1 from rfl, Nat.mul_one, Nat.add_zero] at h3
 obtain ⟨rs, hl, h1, h2⟩ := key xs.length (Nat.le_refl _)
 refine ⟨rs, ⟨by rw [hl]; exact h.1, h.2.1, fun hp => ?_⟩, hl, h1⟩
 obtain ⟨ad, rfl, _⟩ := h.2.2 hp
 refine ⟨ad, rfl, fun j p hj => ⟨[_], rfl, rfl, fun i u hu => ?_⟩⟩
 cases i with
 | zero =>
  obtain rfl : _ = u := by simpa using hu
  have := h2 ad rfl j p hj
  rwa [show rawK.sz = 1 from rfl, Nat.mul_one, Nat.add_zero]
 | succ i => simp at hu
theorem raw_set {α : Type} {d : Kd α} {w : World} {rs : List RawS} {xs : List (List α)} (h : RawOf d w rs xs) (i : Nat) {A : Option Addr} {c : Nat} {x : List α} (hc : x.length ≤ c) (hC : d.C w A x.length x) : RawOf d w (rs.set i ⟨A, x.length, c⟩) (xs.set i x) := by
 refine ⟨by simp [h.1], fun j r y hj hy => ?_⟩
 by_cases e : i = j
 rotate_left
 ·rw [List.getElem?_set_ne e] at hj hy
  exact h.2 j r y hj hy
 subst e
 by_cases hl : i < rs.length
 rotate_left
 ·rw [List.getElem?_eq_none (by simp; omega)] at hj; cases hj
 rw [List.getElem?_set_self hl] at hj
 rw [List.getElem?_set_self (by rw [← h.1]; exact hl)] at hy
 obtain rfl := Option.some.inj hj
 obtain rfl := Option.some.inj hy
 exact ⟨rfl, hc, hC⟩
theorem raw_join {α : Type} {d : Kd α} {e : Nat} {w w1 : World} {rs : List RawS} {xs : List (List α)} {A : Option Addr} {n : Nat} (h : RawOf d w rs xs) (hb : Below w.heap.size w w1) (hC : rawK.C w1 A n rs) : (Kd.slice e d).C w1 A n xs := by
 refine ⟨by rw [← h.1]; exact hC.1, hC.2.1, fun hp => ?_⟩
 obtain ⟨ad, rfl, hcell⟩ := hC.2.2 hp
 refine ⟨ad, rfl, fun j p hj => ?_⟩
 have hjl : j < rs.length := by rw [h.1]; exact (List.getElem?_eq_some_iff.1 hj).1
 obtain ⟨cs, h1, h2, h3⟩ := hcell j _ (List.getElem?_eq_getElem hjl)
 obtain ⟨h4, h5, h6⟩ := h.2 j _ p (List.getElem?_eq_getElem hjl) hj
 have h2' : cs = [.slice rs[j].A rs[j].n rs[j].c] := h2
 exact ⟨cs, h1, ⟨rs[j].A, rs[j].c, by rw [h2', h4], h5, Kd.C_below h6 hb⟩, h3⟩
theorem raw_arg {α : Type} {d : Kd α} {e e2 b : Nat} {ok : Nat → Prop} {w w1 : World} {rs : List RawS} {xs : List (List α)} {A0 A : Option Addr} {c0 c : Nat} {y x : List α} (h : RawOf d w rs xs) (hb : Below w.heap.size w w1) (i : Nat) (hy : y = x) (hc : y.length ≤ c) (hC : d.C w A y.length y) (hR : rawK.R e2 w1 b ok (.slice A0 rs.length c0) (rs.set i ⟨A, y.length, c⟩)) : (Kd.slice e d).C w1 A0 (xs.set i x).length (xs.set i x) := by
 subst hy
 have h1 := (Kd.R_reads' hR).2.2
 rw [List.length_set] at h1
 rw [List.length_set, ← h.1]
 exact raw_join (raw_set h i hc hC) hb h1
theorem raw_cap {α : Type} {d : Kd α} {e2 b : Nat} {ok : Nat → Prop} {w w1 : World} {rs : List RawS} {xs : List (List α)} {A0 : Option Addr} {c0 : Nat} {r : RawS} {x : List α} (h : RawOf d w rs xs) (i : Nat) (hR : rawK.R e2 w1 b ok (.slice A0 rs.length c0) (rs.set i r)) : (xs.set i x).length ≤ c0 := by
 have h1 := (Kd.R_reads' hR).2.1
 rw [List.length_set, ← h.1]
 exact h1
set_option maxHeartbeats 8000000 in
set_option maxRecDepth 100000 in
theorem impl_some.cloneR (A0 : Option Addr) (n0 c0 : Nat) (l0 : List RawS) (w : World) (hn0 : l0.length = n0) (hr0 : Kd.C rawK w A0 l0.length l0) (hc0 : l0.length ≤ c0) (hl : l0.length ≤ 1000000) :
  Calls Try.prog 23 #[.slice A0 n0 c0] w fun e w' => ∃ v0_ : Value, e = .returned (v0_) ∧ Kd.R rawK 34 w' w.heap.size (fun _ => True) v0_ l0 ∧ Below w.heap.size w w' := by
 subst hn0
 have LM := Aside0.mk hl
 clear hl
 have HR0 := Aside0.mk hr0
 have HC0 := Aside0.mk hc0
 clear hr0 hc0
 have HB := Aside0.mk (Below.refl w.heap.size w)
 have q22 : ∀ (w : World) (a : Option Addr) (n c n' c' : Nat), (binOp .eql 27 (.slice a n c) (.slice none n' c')).run Try.prog w = .ok (.bool a.isNone) w := fun w a n c n' c' => Lib.run_eql_slice_nil w _ _ a n c n' c' Try.underlying27
 cases A0 with
 | none =>
  have hz : l0 = [] := by
   cases l0 with
   | nil => rfl
   | cons x xs => obtain ⟨ad, e, _⟩ := HR0.out.2.2 (by simp); cases e
  subst hz
  go_enter Try.func23, Try.ntmps23
  go_wp2
  go_ret
  exact ⟨_, rfl, Kd.R_nil _ _ _ _ _, Below.refl _ _⟩
 | some ad =>
  obtain ⟨y1, hy1⟩ : ∃ y_ : List RawS, y_ = ([] : List RawS) := ⟨_, rfl⟩
  have Ny1 := Aside0.mk hy1
  clear hy1
  go_enter Try.func23, Try.ntmps23
  go_wp2_with (first | ((with_reducible refine gate_dst (N := 5) rfl ?_); refine Kd.R_lit rawK _ 34 ?hg (N := 5) ?hd (xs := ([] : List RawS)) (inner := []) (ok := fun _ => True) (okp := fun _ => True) ?hr ?hp (fun _ hk => hk) trivial (Below.refl _ _) (Nat.le_refl _) (by simp) ?_; (case hd => rfl); (case hg => rfl); (case hr => first | (go_simp; done) | (go_simp; rfl)); (case hp => exact (Reps.none _ _)); intro v461 w5 ho6 hb hg_ hnew_; clear hg_ hnew_; (first | rw [← Ny1.out] at ho6 | (simp only [Int.reduceToNat] at ho6; rw [← Ny1.out] at ho6)); have n0_ := Aside0.mk (Kd.R_lower ho6 (below_size HB.out)); have n3_ := Aside0.mk (below_step HB.out hb); clear HB; have HO462 := n0_; have HB := n3_; clear n0_ n3_; clear hb ho6) | ((with_reducible refine gate_builtin (b := .append) (xs := #[.tmp 5, .tmp 6]) rfl ?_); at_builtin; refine Kd.R_append_rows rawK (w0 := w) w.heap.size rfl (.tmp 5) (.tmp 6) 27 34 (.slice none 0 0) 24 rfl Try.underlying27 info34 rfl (by decide) (by omega) v461 y1 l0 _ _ _ (fun _ => True) (fun _ => False) rfl rfl ?aO ?aR (fun _ _ h => h) (fun _ h => h.elim) ?aF ?aB ?aS ?aL ?_; (case aR => exact zC5 (Kd.C_below HR0.out HB.out)); (case aB => exact (zB5_0)); (case aF => exact (fun _ _ => trivial)); (case aO => exact (zR5 HO462.out)); (case aS => exact (below_size (zB5_0))); (case aL => have h1_ := LM.out; have h2_ : y1.length = 0 := (by rw [Ny1.out]; rfl); rw [h2_]; omega); intro v464 w9 ho hb hg hat; rw [Ny1.out, List.nil_append] at ho; have n2_ := Aside0.mk (hb); have n3_ := Aside0.mk (ho); clear HB; clear HO462; have HB := n2_; have HO465 := n3_; clear n2_ n3_; clear ho hb hg hat))
  go_ret
  exact ⟨_, rfl, HO465.out, HB.out⟩
set_option maxHeartbeats 8000000 in
set_option maxRecDepth 100000 in
theorem impl_some.calls (k : Nat) : ∀ (A0 : Option Addr) (c0 : Nat) (l0 : List Int) (A1 : Option Addr) (c1 : Nat) (l1 : List (List (S42))) (r : Bool) (w : World) (hr0 : Kd.C (Kd.int .i64) w A0 l0.length l0) (hc0 : l0.length ≤ c0) (hr1 : Kd.C (Kd.slice 42 k42) w A1 l1.length l1) (hc1 : l1.length ≤ c1) (h : impl_some.f k l0 l1 = some r),
  Calls Try.prog 16 #[.slice A0 l0.length c0, .slice A1 l1.length c1] w fun e w' => e = .returned (.bool r) ∧ Below w.heap.size w w' := by
 induction k using Nat.strongRecOn with
 | _ k ih =>
 intro A0 c0 l0 A1 c1 l1 r w hr0 hc0 hr1 hc1 h
 cases k with
 | zero => exact absurd h (by simp [impl_some.f])
 | succ k =>
 simp only [impl_some.f] at h
 have hlm_ : l1.length ≤ 1000000 := Decidable.byContradiction (fun q_ => by rw [if_neg q_] at h; exact absurd h (by simp))
 rw [if_pos hlm_] at h
 have HLM := Aside0.mk hlm_
 clear hlm_
 have hu42 := Try.underlying42
 have HR0 := Aside0.mk hr0
 have HC0 := Aside0.mk hc0
 clear hr0 hc0
 obtain ⟨rs_, hrs1_, hrs2_⟩ := raw_open hr1
 have HRS := Aside0.mk hrs1_
 have HRW := Aside0.mk hrs2_
 clear hrs1_ hrs2_
 have HR1 := Aside0.mk hr1
 have HC1 := Aside0.mk hc1
 clear hr1 hc1
 have HB := Aside0.mk (Below.refl w.heap.size w)
 have H : (impl_some.l0 k l0 l1 false l1 (l1.length : Int) 0) = some r := h
 clear h
 have H' := Aside0.mk H
 clear H
 go_enter Try.func16, Try.ntmps16
 go_wp2
 repeat (go_quiet (fail); try go_wp2)
 go_loopg [5, 13] k (fun kq v5 v13 w' => ∃ (x5_1 : Bool) (x13_1 : Int), v5 = .bool x5_1 ∧ v13 = .int .i64 x13_1 ∧ Aside0 (impl_some.l0 kq l0 l1 x5_1 l1 (l1.length : Int) x13_1 = some r) ∧ Aside0 (kq ≤ k) ∧ Aside0 (Below w.heap.size w w'))
 case atStart => exact ⟨(false), (0), (by first | rfl | (simp; done) | (simp [*]; done)), (by first | rfl | (simp; done) | (simp [*]; done)), H', ⟨Nat.le_refl _⟩, ⟨zB5_0⟩⟩
 case round =>
  clear H'
  try clear c1
  try clear p2
  obtain ⟨x5_1, x13_1, rfl, rfl, HA, HK1, HB⟩ := hrel
  cases gk with
  | zero => exact absurd HA.out (by simp [impl_some.l0])
  | succ k1 =>
   have H := HA.out
   clear HA
   simp only [impl_some.l0] at H
   by_cases c3 : x13_1 < (l1.length : Int)
   rotate_left
   ·rw [if_neg c3] at H
    have c3b0 : decide (x13_1 < (l1.length : Int)) = false := decide_eq_false c3
    clear c3
    obtain rfl := Option.some.inj H
    go_wp2
    repeat (go_quiet (fail); try go_wp2)
    go_ret
    exact ⟨zE5, zB5_0⟩
   rw [if_pos c3] at H
   have HX1_ := Aside0.mk c3
   have c3b0 : decide (x13_1 < (l1.length : Int)) = true := decide_eq_true c3
   clear c3
   by_cases c4 : 0 ≤ x13_1
   rotate_left
   ·rw [if_neg c4] at H
    exact absurd H (by simp)
   rw [if_pos c4] at H
   have HX0_ := Aside0.mk c4
   have c4b0 : decide (0 ≤ x13_1) = true := decide_eq_true c4
   clear c4
   by_cases c5 : x13_1 < (l1.length : Int)
   rotate_left
   ·rw [if_neg c5] at H
    exact absurd H (by simp)
   rw [if_pos c5] at H
   have HX1_ := Aside0.mk c5
   have c5b0 : decide (x13_1 < (l1.length : Int)) = true := decide_eq_true c5
   clear c5
   by_cases c6 : ((rd_L4 l1 x13_1).length : Int) = 0
   ·rw [if_pos c6] at H
    have c6b0 : (((rd_L4 l1 x13_1).length : Int) == 0) = true := beq_iff_eq.mpr c6
    have c6b1 : (((rd_L4 l1 x13_1).length : Int) != 0) = false := bne_eq_false_iff_eq.mpr c6
    clear c6
    have H' := Aside0.mk H
    clear H
    have p177 : 0 ≤ (x13_1 : Int) := zA5
    have q177 : x13_1 < (l1.length : Int) := zA5
    obtain ⟨ad177, A177_0, c177_0, e177, hx177_0, hl177_0, hi177_0⟩ := at_L4 HR1.out x13_1 p177 q177
    cases e177
    replace hx177_0 := (HB.out.cell (World.block_lt_of_cell? w _ hx177_0)).trans hx177_0
    have HR177_0 := Aside0.mk hi177_0
    have HC177_0 := Aside0.mk hl177_0
    clear hi177_0 hl177_0
    replace p177 := eq_true p177
    replace q177 := eq_true q177
    go_wp2
    repeat (go_quiet (fail); try go_wp2)
    go_roundg k1
    case measure => have := HK1.out; omega
    case rel => exact ⟨(x5_1), (wrap64 (x13_1 + 1)), (by first | rfl | (simp; done) | (simp [*]; done)), (by first | rfl | (simp; done) | (simp [*]; done)), H', ⟨by have := HK1.out; omega⟩, ⟨zB5_0⟩⟩
   rw [if_neg c6] at H
   have c6b0 : (((rd_L4 l1 x13_1).length : Int) == 0) = false := beq_eq_false_iff_ne.mpr c6
   have c6b1 : (((rd_L4 l1 x13_1).length : Int) != 0) = true := bne_iff_ne.mpr c6
   have c6b2 : ¬ ((rd_L4 l1 x13_1) = []) := fun h_ => c6 (by rw [h_]; rfl)
   by_cases c7 : 0 < ((rd_L4 l1 x13_1).length : Int)
   rotate_left
   ·rw [if_neg c7] at H
    exact absurd H (by simp)
   rw [if_pos c7] at H
   have c7b0 : decide (0 < ((rd_L4 l1 x13_1).length : Int)) = true := decide_eq_true c7
   have c7b1 : decide (0 < (rd_L4 l1 x13_1).length) = true := decide_eq_true (by omega)
   clear c7
   have HC8 := Aside0.mk H
   clear H
   have p177 : 0 ≤ (x13_1 : Int) := zA5
   have q177 : x13_1 < (l1.length : Int) := zA5
   obtain ⟨ad177, A177_0, c177_0, e177, hx177_0, hl177_0, hi177_0⟩ := at_L4 HR1.out x13_1 p177 q177
   cases e177
   replace hx177_0 := (HB.out.cell (World.block_lt_of_cell? w _ hx177_0)).trans hx177_0
   have HR177_0 := Aside0.mk hi177_0
   have HC177_0 := Aside0.mk hl177_0
   clear hi177_0 hl177_0
   replace p177 := eq_true p177
   replace q177 := eq_true q177
   have p178 : 0 ≤ (0 : Int) := (by omega)
   have q178 : 0 < ((rd_L4 l1 x13_1).length : Int) := zA5
   obtain ⟨ad178, e178, hx178_0, hx178_1, hx178_2⟩ := at_T42 HR177_0.out 0 p178 q178
   cases e178
   have qi178 : (0 < (rd_L4 l1 x13_1).length) = True := eq_true (by omega)
   (try rw [show ((0 : Int)).toNat = 0 from rfl] at hx178_0)
   (try rw [show 0 * 3 = 0 from rfl] at hx178_0)
   (try rw [Addr.add_zero'] at hx178_0)
   (try rw [show ((0 : Int)).toNat = 0 from rfl] at hx178_1)
   (try rw [show 0 * 3 = 0 from rfl] at hx178_1)
   (try rw [Addr.add_zero'] at hx178_1)
   (try rw [show ((0 : Int)).toNat = 0 from rfl] at hx178_2)
   (try rw [show 0 * 3 = 0 from rfl] at hx178_2)
   (try rw [Addr.add_zero'] at hx178_2)
   replace hx178_0 := (HB.out.cell (World.block_lt_of_cell? w _ hx178_0)).trans hx178_0
   replace hx178_1 := (HB.out.cell (World.block_lt_of_cell? w _ hx178_1)).trans hx178_1
   replace hx178_2 := (HB.out.cell (World.block_lt_of_cell? w _ hx178_2)).trans hx178_2
   replace p178 := eq_true p178
   replace q178 := eq_true q178
   go_upto_region 8 with (first | ((with_reducible refine gate_dst (N := 8) rfl ?_); refine box_event ?hg (N := 8) ?hd (cs := #[.int .i64 0, .int .i64 0, .int .i64 0]) (t := 42) ?hr ?_; (case hd => rfl); (case hg => rfl); (case hr => first | (go_simp; done) | (go_simp; rfl)); intro gb179 hg w9 hbox hb; have n0_ := Aside0.mk (below_step (zB5_0) hb); have n1_ := Aside0.mk (hbox); have n2_ := Aside0.mk ((by rw [hg]; exact (below_size (zB5_0)) : w.heap.size ≤ gb179)); have n3_ := Aside0.mk ((by rw [hg]; exact (below_size (zB5_0)) : w.heap.size ≤ gb179)); clear HB; have HB := n0_; have BK179 := n1_; have GW179 := n2_; have GE179 := n3_; clear n0_ n1_ n2_ n3_; clear hb hbox hg; obtain ⟨hcz10_0, hcz10_1, hcz10_2, hfz10_0, hfz10_1, hfz10_2⟩ := zc5_3 (w := w9) BK179.out))
   repeat (go_quiet (first | ((with_reducible refine gate_dst (N := 8) rfl ?_); refine box_event ?hg (N := 8) ?hd (cs := #[.int .i64 0, .int .i64 0, .int .i64 0]) (t := 42) ?hr ?_; (case hd => rfl); (case hg => rfl); (case hr => first | (go_simp; done) | (go_simp; rfl)); intro gb179 hg w9 hbox hb; have n0_ := Aside0.mk (below_step (zB5_0) hb); have n1_ := Aside0.mk (hbox); have n2_ := Aside0.mk ((by rw [hg]; exact (below_size (zB5_0)) : w.heap.size ≤ gb179)); have n3_ := Aside0.mk ((by rw [hg]; exact (below_size (zB5_0)) : w.heap.size ≤ gb179)); clear HB; have HB := n0_; have BK179 := n1_; have GW179 := n2_; have GE179 := n3_; clear n0_ n1_ n2_ n3_; clear hb hbox hg; obtain ⟨hcz10_0, hcz10_1, hcz10_2, hfz10_0, hfz10_1, hfz10_2⟩ := zc5_3 (w := w9) BK179.out)); go_upto_region 8 with (first | ((with_reducible refine gate_dst (N := 8) rfl ?_); refine box_event ?hg (N := 8) ?hd (cs := #[.int .i64 0, .int .i64 0, .int .i64 0]) (t := 42) ?hr ?_; (case hd => rfl); (case hg => rfl); (case hr => first | (go_simp; done) | (go_simp; rfl)); intro gb179 hg w9 hbox hb; have n0_ := Aside0.mk (below_step (zB5_0) hb); have n1_ := Aside0.mk (hbox); have n2_ := Aside0.mk ((by rw [hg]; exact (below_size (zB5_0)) : w.heap.size ≤ gb179)); have n3_ := Aside0.mk ((by rw [hg]; exact (below_size (zB5_0)) : w.heap.size ≤ gb179)); clear HB; have HB := n0_; have BK179 := n1_; have GW179 := n2_; have GE179 := n3_; clear n0_ n1_ n2_ n3_; clear hb hbox hg; obtain ⟨hcz10_0, hcz10_1, hcz10_2, hfz10_0, hfz10_1, hfz10_2⟩ := zc5_3 (w := w9) BK179.out)))
   (try simp only [Act.put, List.setIfInBounds_toArray, List.set_cons_zero, List.set_cons_succ])
   go_cut [42] (fun v42 wc => ∃ (kq : Nat) (x42_7 : Bool), v42 = .bool x42_7 ∧ Aside0 (impl_some.j1 kq l0 l1 true (rd_L4 l1 x13_1) l1 (l1.length : Int) x13_1 x42_7 ((rd_T42 (rd_L4 l1 x13_1) 0).f0) ((rd_T42 (rd_L4 l1 x13_1) 0).f1) ((rd_T42 (rd_L4 l1 x13_1) 0).f2) = some r) ∧ Aside0 (kq ≤ k1) ∧ Aside0 (wc.heap[gb179]? = some (.cells #[.int .i64 ((rd_T42 (rd_L4 l1 x13_1) 0).f0), .int .i64 ((rd_T42 (rd_L4 l1 x13_1) 0).f1), .int .i64 ((rd_T42 (rd_L4 l1 x13_1) 0).f2)] 42 (0, 0))) ∧ Aside0 (Below w.heap.size w wc))
   case first =>
    have H := HC8.out
    clear HC8
    replace H := Option.bind_eq_some_iff.mp H
    obtain ⟨t180, A110, H⟩ := H
    replace H : (if t180 = true then (if ((rd_T42 (rd_L4 l1 x13_1) 0).f1) ≥ 0 then (if 0 ≤ ((rd_T42 (rd_L4 l1 x13_1) 0).f0) then (if ((rd_T42 (rd_L4 l1 x13_1) 0).f0) < (l0.length : Int) then (impl_some.j1 k1 l0 l1 true (rd_L4 l1 x13_1) l1 (l1.length : Int) x13_1 (((rd_T42 (rd_L4 l1 x13_1) 0).f1) != (rd l0 ((rd_T42 (rd_L4 l1 x13_1) 0).f0))) ((rd_T42 (rd_L4 l1 x13_1) 0).f0) ((rd_T42 (rd_L4 l1 x13_1) 0).f1) ((rd_T42 (rd_L4 l1 x13_1) 0).f2)) else (none)) else (none)) else (impl_some.j1 k1 l0 l1 true (rd_L4 l1 x13_1) l1 (l1.length : Int) x13_1 false ((rd_T42 (rd_L4 l1 x13_1) 0).f0) ((rd_T42 (rd_L4 l1 x13_1) 0).f1) ((rd_T42 (rd_L4 l1 x13_1) 0).f2))) else (impl_some.j1 k1 l0 l1 true (rd_L4 l1 x13_1) l1 (l1.length : Int) x13_1 true ((rd_T42 (rd_L4 l1 x13_1) 0).f0) ((rd_T42 (rd_L4 l1 x13_1) 0).f1) ((rd_T42 (rd_L4 l1 x13_1) 0).f2))) = some r := H
    have A11 := Aside0.mk A110
    clear A110
    by_cases c12 : t180 = true
    rotate_left
    ·replace c12 := Bool.eq_false_iff.mpr c12
     subst c12
     have H1 : (impl_some.j1 k1 l0 l1 true (rd_L4 l1 x13_1) l1 (l1.length : Int) x13_1 true ((rd_T42 (rd_L4 l1 x13_1) 0).f0) ((rd_T42 (rd_L4 l1 x13_1) 0).f1) ((rd_T42 (rd_L4 l1 x13_1) 0).f2)) = some r := by rw [if_neg (show ¬ (false = true) by decide)] at H; exact H
     clear H
     have H := H1
     clear H1
     have H' := Aside0.mk H
     clear H
     obtain ⟨hcz18_0, hcz18_1, hcz18_2, hfz18_0, hfz18_1, hfz18_2⟩ := zc5_3 (w := w9) BK179.out
     go_wp2_with (first | (go_at_call 21; (with_reducible refine (impl_isCell.calls ((rd_T42 (rd_L4 l1 x13_1) 0).f0) false _ A11.out).mono ?_); rintro e w' ⟨rfl, ⟨nd, rfl⟩⟩; (try first | exact ⟨rfl, _, World.drewN_drewN _ _ _⟩ | exact ⟨rfl, _, Eq.trans (World.drewN_drewN _ _ _) (congrArg (World.drewN _) (Nat.add_assoc _ _ _))⟩)))
     repeat (go_quiet (first | (go_at_call 21; (with_reducible refine (impl_isCell.calls ((rd_T42 (rd_L4 l1 x13_1) 0).f0) false _ A11.out).mono ?_); rintro e w' ⟨rfl, ⟨nd, rfl⟩⟩; (try first | exact ⟨rfl, _, World.drewN_drewN _ _ _⟩ | exact ⟨rfl, _, Eq.trans (World.drewN_drewN _ _ _) (congrArg (World.drewN _) (Nat.add_assoc _ _ _))⟩))); try go_wp2_with (first | (go_at_call 21; (with_reducible refine (impl_isCell.calls ((rd_T42 (rd_L4 l1 x13_1) 0).f0) false _ A11.out).mono ?_); rintro e w' ⟨rfl, ⟨nd, rfl⟩⟩; (try first | exact ⟨rfl, _, World.drewN_drewN _ _ _⟩ | exact ⟨rfl, _, Eq.trans (World.drewN_drewN _ _ _) (congrArg (World.drewN _) (Nat.add_assoc _ _ _))⟩))))
     go_meet
     case rel => exact ⟨_, (true), (by first | rfl | (simp; done) | (simp [*]; done)), H', ⟨by have := HK1.out; first | omega | exact Nat.le_refl _⟩, ⟨by refine zP5 ?_; refine blk_put (cs := #[.int .i64 ((rd_T42 (rd_L4 l1 x13_1) 0).f0), .int .i64 ((rd_T42 (rd_L4 l1 x13_1) 0).f1), .int .i64 0]) ?_ 2 _ rfl; refine zP5 ?_; refine blk_put (cs := #[.int .i64 ((rd_T42 (rd_L4 l1 x13_1) 0).f0), .int .i64 0, .int .i64 0]) ?_ 1 _ rfl; refine zP5 ?_; refine blk_put (cs := #[.int .i64 0, .int .i64 0, .int .i64 0]) ?_ 0 _ rfl; refine zP5 ?_; exact BK179.out⟩, ⟨zB5_1⟩⟩
    subst c12
    have H1 : (if ((rd_T42 (rd_L4 l1 x13_1) 0).f1) ≥ 0 then (if 0 ≤ ((rd_T42 (rd_L4 l1 x13_1) 0).f0) then (if ((rd_T42 (rd_L4 l1 x13_1) 0).f0) < (l0.length : Int) then (impl_some.j1 k1 l0 l1 true (rd_L4 l1 x13_1) l1 (l1.length : Int) x13_1 (((rd_T42 (rd_L4 l1 x13_1) 0).f1) != (rd l0 ((rd_T42 (rd_L4 l1 x13_1) 0).f0))) ((rd_T42 (rd_L4 l1 x13_1) 0).f0) ((rd_T42 (rd_L4 l1 x13_1) 0).f1) ((rd_T42 (rd_L4 l1 x13_1) 0).f2)) else (none)) else (none)) else (impl_some.j1 k1 l0 l1 true (rd_L4 l1 x13_1) l1 (l1.length : Int) x13_1 false ((rd_T42 (rd_L4 l1 x13_1) 0).f0) ((rd_T42 (rd_L4 l1 x13_1) 0).f1) ((rd_T42 (rd_L4 l1 x13_1) 0).f2))) = some r := by rw [if_pos rfl] at H; exact H
    clear H
    have H := H1
    clear H1
    by_cases c13 : ((rd_T42 (rd_L4 l1 x13_1) 0).f1) ≥ 0
    rotate_left
    ·rw [if_neg c13] at H
     have c13b0 : decide (0 ≤ ((rd_T42 (rd_L4 l1 x13_1) 0).f1)) = false := decide_eq_false c13
     clear c13
     (first | rw [c13b0] | (simp only [i64_w, i32_w]; rw [c13b0]) | skip)
     have H' := Aside0.mk H
     clear H
     obtain ⟨hcz17_0, hcz17_1, hcz17_2, hfz17_0, hfz17_1, hfz17_2⟩ := zc5_3 (w := w9) BK179.out
     go_wp2_with (first | (go_at_call 21; (with_reducible refine (impl_isCell.calls ((rd_T42 (rd_L4 l1 x13_1) 0).f0) true _ A11.out).mono ?_); rintro e w' ⟨rfl, ⟨nd, rfl⟩⟩; (try first | exact ⟨rfl, _, World.drewN_drewN _ _ _⟩ | exact ⟨rfl, _, Eq.trans (World.drewN_drewN _ _ _) (congrArg (World.drewN _) (Nat.add_assoc _ _ _))⟩)))
     repeat (go_quiet (first | (go_at_call 21; (with_reducible refine (impl_isCell.calls ((rd_T42 (rd_L4 l1 x13_1) 0).f0) true _ A11.out).mono ?_); rintro e w' ⟨rfl, ⟨nd, rfl⟩⟩; (try first | exact ⟨rfl, _, World.drewN_drewN _ _ _⟩ | exact ⟨rfl, _, Eq.trans (World.drewN_drewN _ _ _) (congrArg (World.drewN _) (Nat.add_assoc _ _ _))⟩))); try go_wp2_with (first | (go_at_call 21; (with_reducible refine (impl_isCell.calls ((rd_T42 (rd_L4 l1 x13_1) 0).f0) true _ A11.out).mono ?_); rintro e w' ⟨rfl, ⟨nd, rfl⟩⟩; (try first | exact ⟨rfl, _, World.drewN_drewN _ _ _⟩ | exact ⟨rfl, _, Eq.trans (World.drewN_drewN _ _ _) (congrArg (World.drewN _) (Nat.add_assoc _ _ _))⟩))))
     go_meet
     case rel => exact ⟨_, (false), (by first | rfl | (simp; done) | (simp [*]; done)), H', ⟨by have := HK1.out; first | omega | exact Nat.le_refl _⟩, ⟨by refine zP5 ?_; refine blk_put (cs := #[.int .i64 ((rd_T42 (rd_L4 l1 x13_1) 0).f0), .int .i64 ((rd_T42 (rd_L4 l1 x13_1) 0).f1), .int .i64 0]) ?_ 2 _ rfl; refine zP5 ?_; refine blk_put (cs := #[.int .i64 ((rd_T42 (rd_L4 l1 x13_1) 0).f0), .int .i64 0, .int .i64 0]) ?_ 1 _ rfl; refine zP5 ?_; refine blk_put (cs := #[.int .i64 0, .int .i64 0, .int .i64 0]) ?_ 0 _ rfl; refine zP5 ?_; exact BK179.out⟩, ⟨zB5_1⟩⟩
    rw [if_pos c13] at H
    have c13b0 : decide (0 ≤ ((rd_T42 (rd_L4 l1 x13_1) 0).f1)) = true := decide_eq_true c13
    clear c13
    (first | rw [c13b0] | (simp only [i64_w, i32_w]; rw [c13b0]) | skip)
    by_cases c14 : 0 ≤ ((rd_T42 (rd_L4 l1 x13_1) 0).f0)
    rotate_left
    ·rw [if_neg c14] at H
     exact absurd H (by simp)
    rw [if_pos c14] at H
    have c14b0 : decide (0 ≤ ((rd_T42 (rd_L4 l1 x13_1) 0).f0)) = true := decide_eq_true c14
    clear c14
    by_cases c15 : ((rd_T42 (rd_L4 l1 x13_1) 0).f0) < (l0.length : Int)
    rotate_left
    ·rw [if_neg c15] at H
     exact absurd H (by simp)
    rw [if_pos c15] at H
    have c15b0 : decide (((rd_T42 (rd_L4 l1 x13_1) 0).f0) < (l0.length : Int)) = true := decide_eq_true c15
    clear c15
    have H' := Aside0.mk H
    clear H
    obtain ⟨hcz16_0, hcz16_1, hcz16_2, hfz16_0, hfz16_1, hfz16_2⟩ := zc5_3 (w := w9) BK179.out
    have p181 : 0 ≤ (((rd_T42 (rd_L4 l1 x13_1) 0).f0) : Int) := zA5
    have q181 : ((rd_T42 (rd_L4 l1 x13_1) 0).f0) < (l0.length : Int) := zA5
    obtain ⟨ad181, e181, hx181_0⟩ := Kd.at_int HR0.out ((rd_T42 (rd_L4 l1 x13_1) 0).f0) p181 q181
    cases e181
    have hn181_0 : ad181.block ≠ gb179 := Nat.ne_of_lt (Nat.lt_of_lt_of_le (by have := World.block_lt_of_cell? _ _ hx181_0; first | rwa [add_block] at this | exact this) GW179.out)
    have hn181_1 : ad181.block ≠ gb179 := Nat.ne_of_lt (Nat.lt_of_lt_of_le (by have := World.block_lt_of_cell? _ _ hx181_0; first | rwa [add_block] at this | exact this) GW179.out)
    have hn181_2 : ad181.block ≠ gb179 := Nat.ne_of_lt (Nat.lt_of_lt_of_le (by have := World.block_lt_of_cell? _ _ hx181_0; first | rwa [add_block] at this | exact this) GW179.out)
    replace hx181_0 := (HB.out.cell (World.block_lt_of_cell? w _ hx181_0)).trans hx181_0
    replace hx181_0 := (cell_far (p := ⟨gb179, 0, none⟩) (by first | (rw [add_block]; exact hn181_0) | (show (Addr.add _ _).block ≠ _; rw [add_block]; exact hn181_0) | exact hn181_0) (.int .i64 ((rd_T42 (rd_L4 l1 x13_1) 0).f0))).trans hx181_0
    replace hx181_0 := (cell_far (p := ⟨gb179, 1, none⟩) (by first | (rw [add_block]; exact hn181_1) | (show (Addr.add _ _).block ≠ _; rw [add_block]; exact hn181_1) | exact hn181_1) (.int .i64 ((rd_T42 (rd_L4 l1 x13_1) 0).f1))).trans hx181_0
    replace hx181_0 := (cell_far (p := ⟨gb179, 2, none⟩) (by first | (rw [add_block]; exact hn181_2) | (show (Addr.add _ _).block ≠ _; rw [add_block]; exact hn181_2) | exact hn181_2) (.int .i64 ((rd_T42 (rd_L4 l1 x13_1) 0).f2))).trans hx181_0
    (try have hy181_0 := fun (n_ : Nat) => (show (((((w9.drewN n_).setCell ⟨gb179, 0, none⟩ (.int .i64 ((rd_T42 (rd_L4 l1 x13_1) 0).f0))).setCell ⟨gb179, 1, none⟩ (.int .i64 ((rd_T42 (rd_L4 l1 x13_1) 0).f1))).setCell ⟨gb179, 2, none⟩ (.int .i64 ((rd_T42 (rd_L4 l1 x13_1) 0).f2)))).cell? _ = some _ from hx181_0))
    clear hn181_0
    clear hn181_1
    clear hn181_2
    replace p181 := eq_true p181
    replace q181 := eq_true q181
    go_wp2_with (first | (go_at_call 21; (with_reducible refine (impl_isCell.calls ((rd_T42 (rd_L4 l1 x13_1) 0).f0) true _ A11.out).mono ?_); rintro e w' ⟨rfl, ⟨nd, rfl⟩⟩; (try first | exact ⟨rfl, _, World.drewN_drewN _ _ _⟩ | exact ⟨rfl, _, Eq.trans (World.drewN_drewN _ _ _) (congrArg (World.drewN _) (Nat.add_assoc _ _ _))⟩)))
    repeat (go_quiet (first | (go_at_call 21; (with_reducible refine (impl_isCell.calls ((rd_T42 (rd_L4 l1 x13_1) 0).f0) true _ A11.out).mono ?_); rintro e w' ⟨rfl, ⟨nd, rfl⟩⟩; (try first | exact ⟨rfl, _, World.drewN_drewN _ _ _⟩ | exact ⟨rfl, _, Eq.trans (World.drewN_drewN _ _ _) (congrArg (World.drewN _) (Nat.add_assoc _ _ _))⟩))); try go_wp2_with (first | (go_at_call 21; (with_reducible refine (impl_isCell.calls ((rd_T42 (rd_L4 l1 x13_1) 0).f0) true _ A11.out).mono ?_); rintro e w' ⟨rfl, ⟨nd, rfl⟩⟩; (try first | exact ⟨rfl, _, World.drewN_drewN _ _ _⟩ | exact ⟨rfl, _, Eq.trans (World.drewN_drewN _ _ _) (congrArg (World.drewN _) (Nat.add_assoc _ _ _))⟩))))
    go_meet
    case rel => exact ⟨_, ((((rd_T42 (rd_L4 l1 x13_1) 0).f1) != (rd l0 ((rd_T42 (rd_L4 l1 x13_1) 0).f0)))), (by first | rfl | (simp; done) | (simp [*]; done)), H', ⟨by have := HK1.out; first | omega | exact Nat.le_refl _⟩, ⟨by refine zP5 ?_; refine blk_put (cs := #[.int .i64 ((rd_T42 (rd_L4 l1 x13_1) 0).f0), .int .i64 ((rd_T42 (rd_L4 l1 x13_1) 0).f1), .int .i64 0]) ?_ 2 _ rfl; refine zP5 ?_; refine blk_put (cs := #[.int .i64 ((rd_T42 (rd_L4 l1 x13_1) 0).f0), .int .i64 0, .int .i64 0]) ?_ 1 _ rfl; refine zP5 ?_; refine blk_put (cs := #[.int .i64 0, .int .i64 0, .int .i64 0]) ?_ 0 _ rfl; refine zP5 ?_; exact BK179.out⟩, ⟨zB5_1⟩⟩
   case rest =>
    clear HC8
    try clear c1
    try clear p1
    try clear q1
    try clear hx1
    try clear qi1
    try clear p2
    try clear c3
    try clear c3b0
    try clear c4
    try clear c4b0
    try clear c5
    try clear c5b0
    try clear c6
    try clear c6b0
    try clear c6b1
    try clear c6b2
    try clear p6
    try clear c7
    try clear c7b0
    try clear c7b1
    try clear c12
    try clear c13
    try clear c13b0
    try clear c14
    try clear c14b0
    try clear c15
    try clear c15b0
    try clear c16
    try clear c17
    try clear p17
    try clear q17
    try clear hx17
    try clear qi17
    try clear p18
    try clear q18
    try clear hx18
    try clear hcz10_0
    try clear hcz10_1
    try clear hcz10_2
    try clear hcz16_0
    try clear hcz16_1
    try clear hcz16_2
    try clear hcz17_0
    try clear hcz17_1
    try clear hcz17_2
    try clear hcz18_0
    try clear hcz18_1
    try clear hcz18_2
    try clear hfz10_0
    try clear hfz10_1
    try clear hfz10_2
    try clear hfz16_0
    try clear hfz16_1
    try clear hfz16_2
    try clear hfz17_0
    try clear hfz17_1
    try clear hfz17_2
    try clear hfz18_0
    try clear hfz18_1
    try clear hfz18_2
    try clear hx177_0
    try clear hx178_0
    try clear hx178_1
    try clear hx178_2
    try clear hx181_0
    try clear p177
    try clear p178
    try clear p181
    try clear p2
    try clear q177
    try clear q178
    try clear q181
    obtain ⟨kq, x42_7, rfl, HA, HJ7, BK179, HB⟩ := hcut
    cases kq with
    | zero => exact absurd HA.out (by simp [impl_some.j1])
    | succ kj7 =>
     have H := HA.out
     clear HA
     simp only [impl_some.j1] at H
     by_cases c19 : x42_7 = true
     ·subst c19
      have H1 : (impl_some.l0 kj7 l0 l1 true l1 (l1.length : Int) (wrap64 (x13_1 + 1))) = some r := by rw [if_pos rfl] at H; exact H
      clear H
      have H := H1
      clear H1
      have H' := Aside0.mk H
      clear H
      go_wp2
      repeat (go_quiet (fail); try go_wp2)
      go_roundg kj7
      case measure => have := HK1.out; have := HJ7.out; omega
      case rel => exact ⟨(true), (wrap64 (x13_1 + 1)), (by first | rfl | (simp; done) | (simp [*]; done)), (by first | rfl | (simp; done) | (simp [*]; done)), H', ⟨by have := HK1.out; have := HJ7.out; omega⟩, ⟨zB5_1⟩⟩
     replace c19 := Bool.eq_false_iff.mpr c19
     subst c19
     have H1 : ((slices_Clone_int_int.f l0).bind fun t182 => (if ((rd_T42 (rd_L4 l1 x13_1) 0).f2) ≥ 0 then (if 0 ≤ ((rd_T42 (rd_L4 l1 x13_1) 0).f0) then (if ((rd_T42 (rd_L4 l1 x13_1) 0).f0) < (t182.length : Int) then (if 1 ≤ ((rd_L4 l1 x13_1).length : Int) then ((impl_some.f kj7 (t182.set (((rd_T42 (rd_L4 l1 x13_1) 0).f0) : Int).toNat ((rd_T42 (rd_L4 l1 x13_1) 0).f2)) (l1.set (x13_1 : Int).toNat ((rd_L4 l1 x13_1).drop (1 : Int).toNat))).bind fun t190 => (if t190 = true then (some true) else (impl_some.l0 kj7 l0 l1 true l1 (l1.length : Int) (wrap64 (x13_1 + 1))))) else (none)) else (none)) else (none)) else (if 1 ≤ ((rd_L4 l1 x13_1).length : Int) then ((impl_some.f kj7 t182 (l1.set (x13_1 : Int).toNat ((rd_L4 l1 x13_1).drop (1 : Int).toNat))).bind fun t195 => (if t195 = true then (some true) else (impl_some.l0 kj7 l0 l1 true l1 (l1.length : Int) (wrap64 (x13_1 + 1))))) else (none)))) = some r := by rw [if_neg (show ¬ (false = true) by decide)] at H; exact H
     clear H
     have H := H1
     clear H1
     replace H := Option.bind_eq_some_iff.mp H
     obtain ⟨t182, A200, H⟩ := H
     replace H : (if ((rd_T42 (rd_L4 l1 x13_1) 0).f2) ≥ 0 then (if 0 ≤ ((rd_T42 (rd_L4 l1 x13_1) 0).f0) then (if ((rd_T42 (rd_L4 l1 x13_1) 0).f0) < (t182.length : Int) then (if 1 ≤ ((rd_L4 l1 x13_1).length : Int) then ((impl_some.f kj7 (t182.set (((rd_T42 (rd_L4 l1 x13_1) 0).f0) : Int).toNat ((rd_T42 (rd_L4 l1 x13_1) 0).f2)) (l1.set (x13_1 : Int).toNat ((rd_L4 l1 x13_1).drop (1 : Int).toNat))).bind fun t190 => (if t190 = true then (some true) else (impl_some.l0 kj7 l0 l1 true l1 (l1.length : Int) (wrap64 (x13_1 + 1))))) else (none)) else (none)) else (none)) else (if 1 ≤ ((rd_L4 l1 x13_1).length : Int) then ((impl_some.f kj7 t182 (l1.set (x13_1 : Int).toNat ((rd_L4 l1 x13_1).drop (1 : Int).toNat))).bind fun t195 => (if t195 = true then (some true) else (impl_some.l0 kj7 l0 l1 true l1 (l1.length : Int) (wrap64 (x13_1 + 1))))) else (none))) = some r := H
     have A20 := Aside0.mk A200
     clear A200
     by_cases c21 : ((rd_T42 (rd_L4 l1 x13_1) 0).f2) ≥ 0
     rotate_left
     ·rw [if_neg c21] at H
      have c21b0 : decide (0 ≤ ((rd_T42 (rd_L4 l1 x13_1) 0).f2)) = false := decide_eq_false c21
      clear c21
      by_cases c40 : 1 ≤ ((rd_L4 l1 x13_1).length : Int)
      rotate_left
      ·rw [if_neg c40] at H
       exact absurd H (by simp)
      rw [if_pos c40] at H
      have c40b0 := eq_true c40
      have c40b1 : decide (1 ≤ ((rd_L4 l1 x13_1).length : Int)) = true := decide_eq_true c40
      clear c40
      obtain ⟨y191, hy191⟩ : ∃ y_ : List (S42), y_ = ((rd_L4 l1 x13_1).drop 1) := ⟨_, rfl⟩
      replace H : ((impl_some.f kj7 t182 (l1.set (x13_1 : Int).toNat ((rd_L4 l1 x13_1).drop (1 : Int).toNat))).bind fun t195 => (if t195 = true then (some true) else (impl_some.l0 kj7 l0 l1 true l1 (l1.length : Int) (wrap64 (x13_1 + 1))))) = some r := by first | (rw [hy191]; with_reducible exact H) | (have H2_ := (Option.bind_some _ _).symm.trans H; rw [hy191]; with_reducible exact H2_) | (have H2_ := (Option.bind_some _ _).symm.trans H; with_reducible exact H2_) | with_reducible exact H | (rw [hy191]; exact H) | exact H
      have Ny191 := Aside0.mk hy191
      clear hy191
      replace H := Option.bind_eq_some_iff.mp H
      obtain ⟨t195, A410, H⟩ := H
      replace H : (if t195 = true then (some true) else (impl_some.l0 kj7 l0 l1 true l1 (l1.length : Int) (wrap64 (x13_1 + 1)))) = some r := H
      have A41 := Aside0.mk A410
      clear A410
      by_cases c42 : t195 = true
      ·subst c42
       have H1 : (some true) = some r := by rw [if_pos rfl] at H; exact H
       clear H
       have H := H1
       clear H1
       obtain rfl := Option.some.inj H
       go_wp2_with (first | (go_at_call 22; (with_reducible refine (slices_Clone_int_int.calls _ _ l0 t182 _ ?side1 ?side2 A20.out).mono ?_); (case side1 => exact zC5 (Kd.C_below HR0.out HB.out)); (case side2 => exact HC0.out); rintro e w43 ⟨v183, rfl, ho0, hb⟩; have n0_ := Aside0.mk (Kd.R_lower ho0 (below_size (zB5_1))); have n1_ := Aside0.mk (zb5 BK179.out hb); have n2_ := Aside0.mk (below_step (zB5_1) hb); clear BK179; clear HB; have HO184 := n0_; have BK179 := n1_; have HB := n2_; clear n0_ n1_ n2_; (try clear hb); (try clear hb2); (try clear hk); (try clear hi); (try clear ho0); obtain ⟨hcz44_0, hcz44_1, hcz44_2, hfz44_0, hfz44_1, hfz44_2⟩ := zc5_3 (w := w43) BK179.out; have q45 : (1 : Int) ≤ (((rd_L4 l1 x13_1).length : Int) : Int) := zA5; obtain ⟨i045, hi045, _, hsz45, _⟩ := info_parts info42; have hroom45 : (rd_L4 l1 x13_1).length ≤ c177_0 := HC177_0.out; have hC45 : Kd.C k42 _ (some ad178) (rd_L4 l1 x13_1).length (rd_L4 l1 x13_1) := HR177_0.out; have hcut45 := cut_from (P := Try.prog) 34 42 .i64 Try.underlying34 hi045 3 hsz45 (some ad178) (rd_L4 l1 x13_1).length c177_0 1 (by omega) q45; have hr45 := Kd.C_drop (m := (1 : Int).toNat) (c := c177_0) hC45 (by omega) hroom45; obtain ⟨A45, hA45⟩ : ∃ A_, A_ = (if c177_0 = (1 : Int).toNat then (some ad178) else ((some ad178) : Option Addr).map (·.add ((1 : Int).toNat * 3))) := ⟨_, rfl⟩; obtain ⟨c45, hc45⟩ : ∃ c_, c_ = c177_0 - (1 : Int).toNat := ⟨_, rfl⟩; have hy45 : y191.length = (rd_L4 l1 x13_1).length - (1 : Int).toNat := (by rw [Ny191.out, List.length_drop] <;> omega); rw [show ((rd_L4 l1 x13_1)).drop (1 : Int).toNat = y191 from Ny191.out.symm] at hr45; replace hr45 : Kd.C k42 _ A45 y191.length y191 := (by rw [hA45]; exact hr45); rw [← hy45, ← hA45, ← hc45] at hcut45; have HR194 := Aside0.mk hr45; have HC194 := Aside0.mk (show y191.length ≤ c45 from by rw [hy45, hc45]; exact Nat.sub_le_sub_right hroom45 _); clear hr45 hC45 hroom45 hi045 hsz45 hc45; have KY45 := Aside0.mk hy45; have KA45 := Aside0.mk hA45; clear hy45 hA45; replace q45 := eq_true q45; obtain ⟨Ao46, co46, eo46⟩ := Kd.R_slice HO184.out; subst eo46) | (go_at_call 23; (with_reducible refine (impl_some.cloneR _ _ _ rs_ _ ?side1 ?side2 ?side3 ?side4).mono ?_); (case side1 => exact HRW.out.1); (case side2 => have h_ := HRS.out; rw [← HRW.out.1] at h_; repeat (first | exact (Kd.C_below h_ HB.out) | (with_reducible refine Kd.C_alloc ?_ _) | (with_reducible refine Kd.C_drewN ?_ _) | (with_reducible refine Kd.C_drew ?_))); (case side3 => rw [HRW.out.1]; exact HC1.out); (case side4 => rw [HRW.out.1]; exact HLM.out); rintro e wC_ ⟨vC_, rfl, hoC_, hb⟩; have n0_ := Aside0.mk (Kd.R_lower hoC_ (below_size (zB5_1))); have n1_ := Aside0.mk (zb5 BK179.out hb); have n3_ := Aside0.mk (Kd.R_below (zR5 HO184.out) hb); have n2_ := Aside0.mk (below_step (zB5_1) hb); clear BK179; clear HB; clear HO184; have HOC := n0_; have BK179 := n1_; have HO184 := n3_; have HB := n2_; clear n0_ n1_ n2_ n3_ hb hoC_; have hq_ : (x13_1 : Int) < ((rs_.length : Int) : Int) := (by rw [HRW.out.1]; exact HX1_.out); have hp_ : 0 ≤ (x13_1 : Int) := HX0_.out; obtain ⟨gr_, cr_, er_, gbr_, glr_, clr_⟩ := Kd.R_form HOC.out (by omega); cases er_; have GBR := Aside0.mk gbr_; have GCR := Aside0.mk clr_; clear gbr_ glr_ clr_; obtain ⟨hxr_, hfr_⟩ := Kd.R_celln ⟨none, 0, 0⟩ HOC.out (x13_1 : Int) hp_ hq_; have HPR := Kd.R_putg HOC.out (x13_1 : Int) ⟨A45, y191.length, c45⟩; replace hp_ := eq_true hp_; replace hq_ := eq_true hq_) | ((with_reducible refine gate_store (t := 34) (p := 60) rfl ?_); refine store_event (t := 34) (p := 60) (v := ?vo_) (w1 := (wC_.setCell ⟨gr_, (x13_1 : Int).toNat, none⟩ (.slice A45 y191.length c45))) ?hg ?ho ?hn ?hr ?_; (case ho => rfl); (case hg => rfl); (case hn => rfl); (case hr => first | (go_simp; done) | (go_simp; rfl)); intro wS_ hw; have hg : wC_.grownBy wS_ (some gr_) := (by rw [hw]; exact HPR.2); have hp2_ : Kd.R rawK 34 wS_ w.heap.size (fun _ => True) (.slice (some ⟨gr_, 0, none⟩) rs_.length cr_) (rs_.set (x13_1 : Int).toNat ⟨A45, y191.length, c45⟩) := (by rw [hw]; exact HPR.1); clear HPR; have n0_ := Aside0.mk (blk_grown (g := gb179) (o := .cells #[.int .i64 ((rd_T42 (rd_L4 l1 x13_1) 0).f0), .int .i64 ((rd_T42 (rd_L4 l1 x13_1) 0).f1), .int .i64 ((rd_T42 (rd_L4 l1 x13_1) 0).f2)] 42 (0, 0)) BK179.out hg (Kd.R_ne HOC.out BK179.out (by decide))); have n1_ := Aside0.mk (hp2_); obtain ⟨cells_, hcells_⟩ := GCR.out; have n3_ := Aside0.mk ((by rw [hw]; exact Kd.R_set HO184.out hcells_ (by intro q hq; first | (simp [Kd.int, Kd.scalar] at hq; subst hq; decide) | (revert q; decide)) _ _ : Kd.R (Kd.int .i64) 3 wS_ w.heap.size _ _ _)); have n2_ := Aside0.mk ((by rw [hw]; exact below_set (HB.out) GBR.out : Below w.heap.size w wS_)); clear BK179; clear HOC; clear HO184; clear HB; have BK179 := n0_; have HOC := n1_; have HO184 := n3_; have HB := n2_; clear n0_ n1_ n2_ n3_; clear hg hw hp2_ hcells_) | (go_at_call 16; refine calls_of_args (args' := #[.slice Ao46 t182.length co46, .slice (some ⟨gr_, 0, none⟩) (l1.set (x13_1 : Int).toNat ((rd_L4 l1 x13_1).drop (1 : Int).toNat)).length cr_]) (by first | (rw [(show (l1.set (x13_1 : Int).toNat ((rd_L4 l1 x13_1).drop (1 : Int).toNat)).length = rs_.length from by rw [List.length_set]; exact HRW.out.1.symm)] <;> rfl) | rfl) ?_; (with_reducible refine (ih kj7 (by have := HK1.out; have := HJ7.out; omega) _ _ t182 _ _ (l1.set (x13_1 : Int).toNat ((rd_L4 l1 x13_1).drop (1 : Int).toNat)) true _ ?side1 ?side2 ?side3 ?side4 A41.out).mono ?_); (case side1 => exact zC5 (Kd.R_reads' HO184.out).2.2); (case side2 => exact (Kd.R_reads' HO184.out).2.1); (case side3 => exact raw_arg HRW.out (zB5_0) (x13_1 : Int).toNat Ny191.out HC194.out HR194.out (zR5 HOC.out)); (case side4 => exact raw_cap HRW.out (x13_1 : Int).toNat HOC.out); rintro e w47 ⟨rfl, hb⟩; have n0_ := Aside0.mk (Kd.R_below (zR5 HO184.out) hb); have n1_ := Aside0.mk (zb5 BK179.out hb); have n2_ := Aside0.mk (below_step (zB5_1) hb); clear HO184; clear BK179; clear HB; have HO184 := n0_; have BK179 := n1_; have HB := n2_; clear n0_ n1_ n2_; (try clear hb); (try clear hb2); (try clear hk); (try clear hi)))
       go_ret
       exact ⟨zE5, zB5_1⟩
      replace c42 := Bool.eq_false_iff.mpr c42
      subst c42
      have H1 : (impl_some.l0 kj7 l0 l1 true l1 (l1.length : Int) (wrap64 (x13_1 + 1))) = some r := by rw [if_neg (show ¬ (false = true) by decide)] at H; exact H
      clear H
      have H := H1
      clear H1
      have H' := Aside0.mk H
      clear H
      go_wp2_with (first | (go_at_call 22; (with_reducible refine (slices_Clone_int_int.calls _ _ l0 t182 _ ?side1 ?side2 A20.out).mono ?_); (case side1 => exact zC5 (Kd.C_below HR0.out HB.out)); (case side2 => exact HC0.out); rintro e w48 ⟨v183, rfl, ho0, hb⟩; have n0_ := Aside0.mk (Kd.R_lower ho0 (below_size (zB5_1))); have n1_ := Aside0.mk (zb5 BK179.out hb); have n2_ := Aside0.mk (below_step (zB5_1) hb); clear BK179; clear HB; have HO184 := n0_; have BK179 := n1_; have HB := n2_; clear n0_ n1_ n2_; (try clear hb); (try clear hb2); (try clear hk); (try clear hi); (try clear ho0); obtain ⟨hcz49_0, hcz49_1, hcz49_2, hfz49_0, hfz49_1, hfz49_2⟩ := zc5_3 (w := w48) BK179.out; have q50 : (1 : Int) ≤ (((rd_L4 l1 x13_1).length : Int) : Int) := zA5; obtain ⟨i050, hi050, _, hsz50, _⟩ := info_parts info42; have hroom50 : (rd_L4 l1 x13_1).length ≤ c177_0 := HC177_0.out; have hC50 : Kd.C k42 _ (some ad178) (rd_L4 l1 x13_1).length (rd_L4 l1 x13_1) := HR177_0.out; have hcut50 := cut_from (P := Try.prog) 34 42 .i64 Try.underlying34 hi050 3 hsz50 (some ad178) (rd_L4 l1 x13_1).length c177_0 1 (by omega) q50; have hr50 := Kd.C_drop (m := (1 : Int).toNat) (c := c177_0) hC50 (by omega) hroom50; obtain ⟨A50, hA50⟩ : ∃ A_, A_ = (if c177_0 = (1 : Int).toNat then (some ad178) else ((some ad178) : Option Addr).map (·.add ((1 : Int).toNat * 3))) := ⟨_, rfl⟩; obtain ⟨c50, hc50⟩ : ∃ c_, c_ = c177_0 - (1 : Int).toNat := ⟨_, rfl⟩; have hy50 : y191.length = (rd_L4 l1 x13_1).length - (1 : Int).toNat := (by rw [Ny191.out, List.length_drop] <;> omega); rw [show ((rd_L4 l1 x13_1)).drop (1 : Int).toNat = y191 from Ny191.out.symm] at hr50; replace hr50 : Kd.C k42 _ A50 y191.length y191 := (by rw [hA50]; exact hr50); rw [← hy50, ← hA50, ← hc50] at hcut50; have HR194 := Aside0.mk hr50; have HC194 := Aside0.mk (show y191.length ≤ c50 from by rw [hy50, hc50]; exact Nat.sub_le_sub_right hroom50 _); clear hr50 hC50 hroom50 hi050 hsz50 hc50; have KY50 := Aside0.mk hy50; have KA50 := Aside0.mk hA50; clear hy50 hA50; replace q50 := eq_true q50; obtain ⟨Ao51, co51, eo51⟩ := Kd.R_slice HO184.out; subst eo51) | (go_at_call 23; (with_reducible refine (impl_some.cloneR _ _ _ rs_ _ ?side1 ?side2 ?side3 ?side4).mono ?_); (case side1 => exact HRW.out.1); (case side2 => have h_ := HRS.out; rw [← HRW.out.1] at h_; repeat (first | exact (Kd.C_below h_ HB.out) | (with_reducible refine Kd.C_alloc ?_ _) | (with_reducible refine Kd.C_drewN ?_ _) | (with_reducible refine Kd.C_drew ?_))); (case side3 => rw [HRW.out.1]; exact HC1.out); (case side4 => rw [HRW.out.1]; exact HLM.out); rintro e wC_ ⟨vC_, rfl, hoC_, hb⟩; have n0_ := Aside0.mk (Kd.R_lower hoC_ (below_size (zB5_1))); have n1_ := Aside0.mk (zb5 BK179.out hb); have n3_ := Aside0.mk (Kd.R_below (zR5 HO184.out) hb); have n2_ := Aside0.mk (below_step (zB5_1) hb); clear BK179; clear HB; clear HO184; have HOC := n0_; have BK179 := n1_; have HO184 := n3_; have HB := n2_; clear n0_ n1_ n2_ n3_ hb hoC_; have hq_ : (x13_1 : Int) < ((rs_.length : Int) : Int) := (by rw [HRW.out.1]; exact HX1_.out); have hp_ : 0 ≤ (x13_1 : Int) := HX0_.out; obtain ⟨gr_, cr_, er_, gbr_, glr_, clr_⟩ := Kd.R_form HOC.out (by omega); cases er_; have GBR := Aside0.mk gbr_; have GCR := Aside0.mk clr_; clear gbr_ glr_ clr_; obtain ⟨hxr_, hfr_⟩ := Kd.R_celln ⟨none, 0, 0⟩ HOC.out (x13_1 : Int) hp_ hq_; have HPR := Kd.R_putg HOC.out (x13_1 : Int) ⟨A50, y191.length, c50⟩; replace hp_ := eq_true hp_; replace hq_ := eq_true hq_) | ((with_reducible refine gate_store (t := 34) (p := 60) rfl ?_); refine store_event (t := 34) (p := 60) (v := ?vo_) (w1 := (wC_.setCell ⟨gr_, (x13_1 : Int).toNat, none⟩ (.slice A50 y191.length c50))) ?hg ?ho ?hn ?hr ?_; (case ho => rfl); (case hg => rfl); (case hn => rfl); (case hr => first | (go_simp; done) | (go_simp; rfl)); intro wS_ hw; have hg : wC_.grownBy wS_ (some gr_) := (by rw [hw]; exact HPR.2); have hp2_ : Kd.R rawK 34 wS_ w.heap.size (fun _ => True) (.slice (some ⟨gr_, 0, none⟩) rs_.length cr_) (rs_.set (x13_1 : Int).toNat ⟨A50, y191.length, c50⟩) := (by rw [hw]; exact HPR.1); clear HPR; have n0_ := Aside0.mk (blk_grown (g := gb179) (o := .cells #[.int .i64 ((rd_T42 (rd_L4 l1 x13_1) 0).f0), .int .i64 ((rd_T42 (rd_L4 l1 x13_1) 0).f1), .int .i64 ((rd_T42 (rd_L4 l1 x13_1) 0).f2)] 42 (0, 0)) BK179.out hg (Kd.R_ne HOC.out BK179.out (by decide))); have n1_ := Aside0.mk (hp2_); obtain ⟨cells_, hcells_⟩ := GCR.out; have n3_ := Aside0.mk ((by rw [hw]; exact Kd.R_set HO184.out hcells_ (by intro q hq; first | (simp [Kd.int, Kd.scalar] at hq; subst hq; decide) | (revert q; decide)) _ _ : Kd.R (Kd.int .i64) 3 wS_ w.heap.size _ _ _)); have n2_ := Aside0.mk ((by rw [hw]; exact below_set (HB.out) GBR.out : Below w.heap.size w wS_)); clear BK179; clear HOC; clear HO184; clear HB; have BK179 := n0_; have HOC := n1_; have HO184 := n3_; have HB := n2_; clear n0_ n1_ n2_ n3_; clear hg hw hp2_ hcells_) | (go_at_call 16; refine calls_of_args (args' := #[.slice Ao51 t182.length co51, .slice (some ⟨gr_, 0, none⟩) (l1.set (x13_1 : Int).toNat ((rd_L4 l1 x13_1).drop (1 : Int).toNat)).length cr_]) (by first | (rw [(show (l1.set (x13_1 : Int).toNat ((rd_L4 l1 x13_1).drop (1 : Int).toNat)).length = rs_.length from by rw [List.length_set]; exact HRW.out.1.symm)] <;> rfl) | rfl) ?_; (with_reducible refine (ih kj7 (by have := HK1.out; have := HJ7.out; omega) _ _ t182 _ _ (l1.set (x13_1 : Int).toNat ((rd_L4 l1 x13_1).drop (1 : Int).toNat)) false _ ?side1 ?side2 ?side3 ?side4 A41.out).mono ?_); (case side1 => exact zC5 (Kd.R_reads' HO184.out).2.2); (case side2 => exact (Kd.R_reads' HO184.out).2.1); (case side3 => exact raw_arg HRW.out (zB5_0) (x13_1 : Int).toNat Ny191.out HC194.out HR194.out (zR5 HOC.out)); (case side4 => exact raw_cap HRW.out (x13_1 : Int).toNat HOC.out); rintro e w52 ⟨rfl, hb⟩; have n0_ := Aside0.mk (Kd.R_below (zR5 HO184.out) hb); have n1_ := Aside0.mk (zb5 BK179.out hb); have n2_ := Aside0.mk (below_step (zB5_1) hb); clear HO184; clear BK179; clear HB; have HO184 := n0_; have BK179 := n1_; have HB := n2_; clear n0_ n1_ n2_; (try clear hb); (try clear hb2); (try clear hk); (try clear hi)))
      go_roundg kj7
      case measure => have := HK1.out; have := HJ7.out; omega
      case rel => exact ⟨(true), (wrap64 (x13_1 + 1)), (by first | rfl | (simp; done) | (simp [*]; done)), (by first | rfl | (simp; done) | (simp [*]; done)), H', ⟨by have := HK1.out; have := HJ7.out; omega⟩, ⟨zB5_1⟩⟩
     rw [if_pos c21] at H
     have c21b0 : decide (0 ≤ ((rd_T42 (rd_L4 l1 x13_1) 0).f2)) = true := decide_eq_true c21
     clear c21
     by_cases c22 : 0 ≤ ((rd_T42 (rd_L4 l1 x13_1) 0).f0)
     rotate_left
     ·rw [if_neg c22] at H
      exact absurd H (by simp)
     rw [if_pos c22] at H
     have c22b0 : decide (0 ≤ ((rd_T42 (rd_L4 l1 x13_1) 0).f0)) = true := decide_eq_true c22
     clear c22
     by_cases c23 : ((rd_T42 (rd_L4 l1 x13_1) 0).f0) < (t182.length : Int)
     rotate_left
     ·rw [if_neg c23] at H
      exact absurd H (by simp)
     rw [if_pos c23] at H
     have c23b0 : decide (((rd_T42 (rd_L4 l1 x13_1) 0).f0) < (t182.length : Int)) = true := decide_eq_true c23
     clear c23
     obtain ⟨y185, hy185⟩ : ∃ y_ : List Int, y_ = (t182.set (((rd_T42 (rd_L4 l1 x13_1) 0).f0) : Int).toNat ((rd_T42 (rd_L4 l1 x13_1) 0).f2)) := ⟨_, rfl⟩
     replace H : (if 1 ≤ ((rd_L4 l1 x13_1).length : Int) then ((impl_some.f kj7 y185 (l1.set (x13_1 : Int).toNat ((rd_L4 l1 x13_1).drop (1 : Int).toNat))).bind fun t190 => (if t190 = true then (some true) else (impl_some.l0 kj7 l0 l1 true l1 (l1.length : Int) (wrap64 (x13_1 + 1))))) else (none)) = some r := by first | (rw [hy185]; with_reducible exact H) | (have H2_ := (Option.bind_some _ _).symm.trans H; rw [hy185]; with_reducible exact H2_) | (have H2_ := (Option.bind_some _ _).symm.trans H; with_reducible exact H2_) | with_reducible exact H | (rw [hy185]; exact H) | exact H
     have Ny185 := Aside0.mk hy185
     clear hy185
     by_cases c25 : 1 ≤ ((rd_L4 l1 x13_1).length : Int)
     rotate_left
     ·rw [if_neg c25] at H
      exact absurd H (by simp)
     rw [if_pos c25] at H
     have c25b0 := eq_true c25
     have c25b1 : decide (1 ≤ ((rd_L4 l1 x13_1).length : Int)) = true := decide_eq_true c25
     clear c25
     obtain ⟨y186, hy186⟩ : ∃ y_ : List (S42), y_ = ((rd_L4 l1 x13_1).drop 1) := ⟨_, rfl⟩
     replace H : ((impl_some.f kj7 y185 (l1.set (x13_1 : Int).toNat ((rd_L4 l1 x13_1).drop (1 : Int).toNat))).bind fun t190 => (if t190 = true then (some true) else (impl_some.l0 kj7 l0 l1 true l1 (l1.length : Int) (wrap64 (x13_1 + 1))))) = some r := by first | (rw [hy186]; with_reducible exact H) | (have H2_ := (Option.bind_some _ _).symm.trans H; rw [hy186]; with_reducible exact H2_) | (have H2_ := (Option.bind_some _ _).symm.trans H; with_reducible exact H2_) | with_reducible exact H | (rw [hy186]; exact H) | exact H
     have Ny186 := Aside0.mk hy186
     clear hy186
     replace H := Option.bind_eq_some_iff.mp H
     obtain ⟨t190, A260, H⟩ := H
     replace H : (if t190 = true then (some true) else (impl_some.l0 kj7 l0 l1 true l1 (l1.length : Int) (wrap64 (x13_1 + 1)))) = some r := H
     have A26 := Aside0.mk A260
     clear A260
     by_cases c27 : t190 = true
     ·subst c27
      have H1 : (some true) = some r := by rw [if_pos rfl] at H; exact H
      clear H
      have H := H1
      clear H1
      obtain rfl := Option.some.inj H
      go_wp2_with (first | (go_at_call 22; (with_reducible refine (slices_Clone_int_int.calls _ _ l0 t182 _ ?side1 ?side2 A20.out).mono ?_); (case side1 => exact zC5 (Kd.C_below HR0.out HB.out)); (case side2 => exact HC0.out); rintro e w28 ⟨v183, rfl, ho0, hb⟩; have n0_ := Aside0.mk (Kd.R_lower ho0 (below_size (zB5_1))); have n1_ := Aside0.mk (zb5 BK179.out hb); have n2_ := Aside0.mk (below_step (zB5_1) hb); clear BK179; clear HB; have HO184 := n0_; have BK179 := n1_; have HB := n2_; clear n0_ n1_ n2_; (try clear hb); (try clear hb2); (try clear hk); (try clear hi); (try clear ho0); obtain ⟨hcz29_0, hcz29_1, hcz29_2, hfz29_0, hfz29_1, hfz29_2⟩ := zc5_3 (w := w28) BK179.out; have p24 : 0 ≤ (((rd_T42 (rd_L4 l1 x13_1) 0).f0) : Int) := zA5; have q24 : (((rd_T42 (rd_L4 l1 x13_1) 0).f0) : Int) < ((t182.length : Int) : Int) := zA5; obtain ⟨go24, co24, eo24, gb24, gl24, cl24, HG24⟩ := Kd.R_form HO184.out (by omega); (first | cases eo24 | (injection eo24 with ea_ en_ ec_; (first | subst ea_ | (injection ea_ with ea_; subst ea_)); subst ec_; clear en_)); have GB24 := Aside0.mk gb24; have GG24 := Aside0.mk HG24; clear gb24 gl24 HG24; obtain ⟨hx24_0, hf24_0⟩ := Kd.R_celln 0 HO184.out (((rd_T42 (rd_L4 l1 x13_1) 0).f0) : Int) p24 q24; replace p24 := eq_true p24; replace q24 := eq_true q24; obtain ⟨hy30_, hz30_⟩ := Kd.R_celln 0 HO184.out (((rd_T42 (rd_L4 l1 x13_1) 0).f0) : Int) (zA5) (zA5); have HP30 := Kd.R_putg HO184.out (((rd_T42 (rd_L4 l1 x13_1) 0).f0) : Int) ((rd_T42 (rd_L4 l1 x13_1) 0).f2)) | ((with_reducible refine gate_store (t := 3) (p := 53) rfl ?_); (try (rw [drewN_self w28]; generalize hq_ : World.drewN w28 _ = w28; have n0_ := Aside0.mk (Kd.R_at hq_ HO184.out); have n1_ := Aside0.mk (blk_at hq_ BK179.out); have n2_ := Aside0.mk (below_at hq_ HB.out); clear hq_ HO184 BK179 HB; have HO184 := n0_; have BK179 := n1_; have HB := n2_; clear n0_ n1_ n2_; (try (obtain ⟨hy30_, hz30_⟩ := Kd.R_celln 0 HO184.out (((rd_T42 (rd_L4 l1 x13_1) 0).f0) : Int) (zA5) (zA5))); (try (have HP30 := Kd.R_putg HO184.out (((rd_T42 (rd_L4 l1 x13_1) 0).f0) : Int) ((rd_T42 (rd_L4 l1 x13_1) 0).f2))))); refine store_event (t := 3) (p := 53) (v := ?vo_w31) (w1 := (w28.setCell ⟨go24, (((rd_T42 (rd_L4 l1 x13_1) 0).f0) : Int).toNat, none⟩ (.int .i64 ((rd_T42 (rd_L4 l1 x13_1) 0).f2)))) ?hg ?ho ?hn ?hr ?_; (case ho => rfl); (case hg => rfl); (case hn => rfl); (case hr => first | (go_simp; done) | (go_simp; rfl)); intro w31 hw; have hg : w28.grownBy w31 (some go24) := (by rw [hw]; exact HP30.2); have hp_ : Kd.R (Kd.int .i64) 3 w31 w.heap.size (fun _ => True) (.slice (some ⟨go24, 0, none⟩) t182.length co24) y185 := (by rw [hw, Ny185.out]; exact HP30.1); clear HP30; have n0_ := Aside0.mk (zg5 BK179.out hg (Kd.R_ne HO184.out BK179.out (by decide))); have n1_ := Aside0.mk (hp_); have n2_ := Aside0.mk ((by rw [hw]; exact below_set (HB.out) GB24.out : Below w.heap.size w w31)); clear BK179; clear HO184; clear HB; have BK179 := n0_; have HO184 := n1_; have HB := n2_; clear n0_ n1_ n2_; clear hg hw hp_; have q32 : (1 : Int) ≤ (((rd_L4 l1 x13_1).length : Int) : Int) := zA5; obtain ⟨i032, hi032, _, hsz32, _⟩ := info_parts info42; have hroom32 : (rd_L4 l1 x13_1).length ≤ c177_0 := HC177_0.out; have hC32 : Kd.C k42 _ (some ad178) (rd_L4 l1 x13_1).length (rd_L4 l1 x13_1) := HR177_0.out; have hcut32 := cut_from (P := Try.prog) 34 42 .i64 Try.underlying34 hi032 3 hsz32 (some ad178) (rd_L4 l1 x13_1).length c177_0 1 (by omega) q32; have hr32 := Kd.C_drop (m := (1 : Int).toNat) (c := c177_0) hC32 (by omega) hroom32; obtain ⟨A32, hA32⟩ : ∃ A_, A_ = (if c177_0 = (1 : Int).toNat then (some ad178) else ((some ad178) : Option Addr).map (·.add ((1 : Int).toNat * 3))) := ⟨_, rfl⟩; obtain ⟨c32, hc32⟩ : ∃ c_, c_ = c177_0 - (1 : Int).toNat := ⟨_, rfl⟩; have hy32 : y186.length = (rd_L4 l1 x13_1).length - (1 : Int).toNat := (by rw [Ny186.out, List.length_drop] <;> omega); rw [show ((rd_L4 l1 x13_1)).drop (1 : Int).toNat = y186 from Ny186.out.symm] at hr32; replace hr32 : Kd.C k42 _ A32 y186.length y186 := (by rw [hA32]; exact hr32); rw [← hy32, ← hA32, ← hc32] at hcut32; have HR189 := Aside0.mk hr32; have HC189 := Aside0.mk (show y186.length ≤ c32 from by rw [hy32, hc32]; exact Nat.sub_le_sub_right hroom32 _); clear hr32 hC32 hroom32 hi032 hsz32 hc32; have KY32 := Aside0.mk hy32; have KA32 := Aside0.mk hA32; clear hy32 hA32; replace q32 := eq_true q32) | (go_at_call 23; (with_reducible refine (impl_some.cloneR _ _ _ rs_ _ ?side1 ?side2 ?side3 ?side4).mono ?_); (case side1 => exact HRW.out.1); (case side2 => have h_ := HRS.out; rw [← HRW.out.1] at h_; repeat (first | exact (Kd.C_below h_ HB.out) | (with_reducible refine Kd.C_alloc ?_ _) | (with_reducible refine Kd.C_drewN ?_ _) | (with_reducible refine Kd.C_drew ?_))); (case side3 => rw [HRW.out.1]; exact HC1.out); (case side4 => rw [HRW.out.1]; exact HLM.out); rintro e wC_ ⟨vC_, rfl, hoC_, hb⟩; have n0_ := Aside0.mk (Kd.R_lower hoC_ (below_size (zB5_1))); have n1_ := Aside0.mk (zb5 BK179.out hb); have n3_ := Aside0.mk (Kd.R_below (zR5 HO184.out) hb); have n2_ := Aside0.mk (below_step (zB5_1) hb); clear BK179; clear HB; clear HO184; have HOC := n0_; have BK179 := n1_; have HO184 := n3_; have HB := n2_; clear n0_ n1_ n2_ n3_ hb hoC_; have hq_ : (x13_1 : Int) < ((rs_.length : Int) : Int) := (by rw [HRW.out.1]; exact HX1_.out); have hp_ : 0 ≤ (x13_1 : Int) := HX0_.out; obtain ⟨gr_, cr_, er_, gbr_, glr_, clr_⟩ := Kd.R_form HOC.out (by omega); cases er_; have GBR := Aside0.mk gbr_; have GCR := Aside0.mk clr_; clear gbr_ glr_ clr_; obtain ⟨hxr_, hfr_⟩ := Kd.R_celln ⟨none, 0, 0⟩ HOC.out (x13_1 : Int) hp_ hq_; have HPR := Kd.R_putg HOC.out (x13_1 : Int) ⟨A32, y186.length, c32⟩; replace hp_ := eq_true hp_; replace hq_ := eq_true hq_) | ((with_reducible refine gate_store (t := 34) (p := 60) rfl ?_); refine store_event (t := 34) (p := 60) (v := ?vo_) (w1 := (wC_.setCell ⟨gr_, (x13_1 : Int).toNat, none⟩ (.slice A32 y186.length c32))) ?hg ?ho ?hn ?hr ?_; (case ho => rfl); (case hg => rfl); (case hn => rfl); (case hr => first | (go_simp; done) | (go_simp; rfl)); intro wS_ hw; have hg : wC_.grownBy wS_ (some gr_) := (by rw [hw]; exact HPR.2); have hp2_ : Kd.R rawK 34 wS_ w.heap.size (fun _ => True) (.slice (some ⟨gr_, 0, none⟩) rs_.length cr_) (rs_.set (x13_1 : Int).toNat ⟨A32, y186.length, c32⟩) := (by rw [hw]; exact HPR.1); clear HPR; have n0_ := Aside0.mk (blk_grown (g := gb179) (o := .cells #[.int .i64 ((rd_T42 (rd_L4 l1 x13_1) 0).f0), .int .i64 ((rd_T42 (rd_L4 l1 x13_1) 0).f1), .int .i64 ((rd_T42 (rd_L4 l1 x13_1) 0).f2)] 42 (0, 0)) BK179.out hg (Kd.R_ne HOC.out BK179.out (by decide))); have n1_ := Aside0.mk (hp2_); obtain ⟨cells_, hcells_⟩ := GCR.out; have n3_ := Aside0.mk ((by rw [hw]; exact Kd.R_set HO184.out hcells_ (by intro q hq; first | (simp [Kd.int, Kd.scalar] at hq; subst hq; decide) | (revert q; decide)) _ _ : Kd.R (Kd.int .i64) 3 wS_ w.heap.size _ _ _)); have n2_ := Aside0.mk ((by rw [hw]; exact below_set (HB.out) GBR.out : Below w.heap.size w wS_)); clear BK179; clear HOC; clear HO184; clear HB; have BK179 := n0_; have HOC := n1_; have HO184 := n3_; have HB := n2_; clear n0_ n1_ n2_ n3_; clear hg hw hp2_ hcells_) | (go_at_call 16; refine calls_of_args (args' := #[.slice (some ⟨go24, 0, none⟩) y185.length co24, .slice (some ⟨gr_, 0, none⟩) (l1.set (x13_1 : Int).toNat ((rd_L4 l1 x13_1).drop (1 : Int).toNat)).length cr_]) (by first | (rw [show y185.length = t182.length from (Kd.R_reads' HO184.out).1.symm, (show (l1.set (x13_1 : Int).toNat ((rd_L4 l1 x13_1).drop (1 : Int).toNat)).length = rs_.length from by rw [List.length_set]; exact HRW.out.1.symm)] <;> rfl) | rfl) ?_; (with_reducible refine (ih kj7 (by have := HK1.out; have := HJ7.out; omega) _ _ y185 _ _ (l1.set (x13_1 : Int).toNat ((rd_L4 l1 x13_1).drop (1 : Int).toNat)) true _ ?side1 ?side2 ?side3 ?side4 A26.out).mono ?_); (case side1 => exact zC5 (Kd.R_reads' HO184.out).2.2); (case side2 => rw [show y185.length = t182.length from (Kd.R_reads' HO184.out).1.symm]; exact (Kd.R_reads' HO184.out).2.1); (case side3 => exact raw_arg HRW.out (zB5_0) (x13_1 : Int).toNat Ny186.out HC189.out HR189.out (zR5 HOC.out)); (case side4 => exact raw_cap HRW.out (x13_1 : Int).toNat HOC.out); rintro e w33 ⟨rfl, hb⟩; have n0_ := Aside0.mk (Kd.R_below (zR5 HO184.out) hb); have n1_ := Aside0.mk (zb5 BK179.out hb); have n2_ := Aside0.mk (below_step (zB5_1) hb); clear HO184; clear BK179; clear HB; have HO184 := n0_; have BK179 := n1_; have HB := n2_; clear n0_ n1_ n2_; (try clear hb); (try clear hb2); (try clear hk); (try clear hi)))
      go_ret
      exact ⟨zE5, zB5_1⟩
     replace c27 := Bool.eq_false_iff.mpr c27
     subst c27
     have H1 : (impl_some.l0 kj7 l0 l1 true l1 (l1.length : Int) (wrap64 (x13_1 + 1))) = some r := by rw [if_neg (show ¬ (false = true) by decide)] at H; exact H
     clear H
     have H := H1
     clear H1
     have H' := Aside0.mk H
     clear H
     go_wp2_with (first | (go_at_call 22; (with_reducible refine (slices_Clone_int_int.calls _ _ l0 t182 _ ?side1 ?side2 A20.out).mono ?_); (case side1 => exact zC5 (Kd.C_below HR0.out HB.out)); (case side2 => exact HC0.out); rintro e w34 ⟨v183, rfl, ho0, hb⟩; have n0_ := Aside0.mk (Kd.R_lower ho0 (below_size (zB5_1))); have n1_ := Aside0.mk (zb5 BK179.out hb); have n2_ := Aside0.mk (below_step (zB5_1) hb); clear BK179; clear HB; have HO184 := n0_; have BK179 := n1_; have HB := n2_; clear n0_ n1_ n2_; (try clear hb); (try clear hb2); (try clear hk); (try clear hi); (try clear ho0); obtain ⟨hcz35_0, hcz35_1, hcz35_2, hfz35_0, hfz35_1, hfz35_2⟩ := zc5_3 (w := w34) BK179.out; have p24 : 0 ≤ (((rd_T42 (rd_L4 l1 x13_1) 0).f0) : Int) := zA5; have q24 : (((rd_T42 (rd_L4 l1 x13_1) 0).f0) : Int) < ((t182.length : Int) : Int) := zA5; obtain ⟨go24, co24, eo24, gb24, gl24, cl24, HG24⟩ := Kd.R_form HO184.out (by omega); (first | cases eo24 | (injection eo24 with ea_ en_ ec_; (first | subst ea_ | (injection ea_ with ea_; subst ea_)); subst ec_; clear en_)); have GB24 := Aside0.mk gb24; have GG24 := Aside0.mk HG24; clear gb24 gl24 HG24; obtain ⟨hx24_0, hf24_0⟩ := Kd.R_celln 0 HO184.out (((rd_T42 (rd_L4 l1 x13_1) 0).f0) : Int) p24 q24; replace p24 := eq_true p24; replace q24 := eq_true q24; obtain ⟨hy36_, hz36_⟩ := Kd.R_celln 0 HO184.out (((rd_T42 (rd_L4 l1 x13_1) 0).f0) : Int) (zA5) (zA5); have HP36 := Kd.R_putg HO184.out (((rd_T42 (rd_L4 l1 x13_1) 0).f0) : Int) ((rd_T42 (rd_L4 l1 x13_1) 0).f2)) | ((with_reducible refine gate_store (t := 3) (p := 53) rfl ?_); (try (rw [drewN_self w34]; generalize hq_ : World.drewN w34 _ = w34; (try have hx24_0 := cell_at5 hq_ hx24_0); (try have hf24_0 := frozen_at5 hq_ hf24_0); have n0_ := Aside0.mk (Kd.R_at hq_ HO184.out); have n1_ := Aside0.mk (blk_at hq_ BK179.out); have n2_ := Aside0.mk (below_at hq_ HB.out); clear hq_ HO184 BK179 HB; have HO184 := n0_; have BK179 := n1_; have HB := n2_; clear n0_ n1_ n2_; (try (obtain ⟨hy36_, hz36_⟩ := Kd.R_celln 0 HO184.out (((rd_T42 (rd_L4 l1 x13_1) 0).f0) : Int) (zA5) (zA5))); (try (have HP36 := Kd.R_putg HO184.out (((rd_T42 (rd_L4 l1 x13_1) 0).f0) : Int) ((rd_T42 (rd_L4 l1 x13_1) 0).f2))))); refine store_event (t := 3) (p := 53) (v := ?vo_w37) (w1 := (w34.setCell ⟨go24, (((rd_T42 (rd_L4 l1 x13_1) 0).f0) : Int).toNat, none⟩ (.int .i64 ((rd_T42 (rd_L4 l1 x13_1) 0).f2)))) ?hg ?ho ?hn ?hr ?_; (case ho => rfl); (case hg => rfl); (case hn => rfl); (case hr => first | (go_simp; done) | (go_simp; rfl)); intro w37 hw; have hg : w34.grownBy w37 (some go24) := (by rw [hw]; exact HP36.2); have hp_ : Kd.R (Kd.int .i64) 3 w37 w.heap.size (fun _ => True) (.slice (some ⟨go24, 0, none⟩) t182.length co24) y185 := (by rw [hw, Ny185.out]; exact HP36.1); clear HP36; have n0_ := Aside0.mk (zg5 BK179.out hg (Kd.R_ne HO184.out BK179.out (by decide))); have n1_ := Aside0.mk (hp_); have n2_ := Aside0.mk ((by rw [hw]; exact below_set (HB.out) GB24.out : Below w.heap.size w w37)); clear BK179; clear HO184; clear HB; have BK179 := n0_; have HO184 := n1_; have HB := n2_; clear n0_ n1_ n2_; clear hg hw hp_; have q38 : (1 : Int) ≤ (((rd_L4 l1 x13_1).length : Int) : Int) := zA5; obtain ⟨i038, hi038, _, hsz38, _⟩ := info_parts info42; have hroom38 : (rd_L4 l1 x13_1).length ≤ c177_0 := HC177_0.out; have hC38 : Kd.C k42 _ (some ad178) (rd_L4 l1 x13_1).length (rd_L4 l1 x13_1) := HR177_0.out; have hcut38 := cut_from (P := Try.prog) 34 42 .i64 Try.underlying34 hi038 3 hsz38 (some ad178) (rd_L4 l1 x13_1).length c177_0 1 (by omega) q38; have hr38 := Kd.C_drop (m := (1 : Int).toNat) (c := c177_0) hC38 (by omega) hroom38; obtain ⟨A38, hA38⟩ : ∃ A_, A_ = (if c177_0 = (1 : Int).toNat then (some ad178) else ((some ad178) : Option Addr).map (·.add ((1 : Int).toNat * 3))) := ⟨_, rfl⟩; obtain ⟨c38, hc38⟩ : ∃ c_, c_ = c177_0 - (1 : Int).toNat := ⟨_, rfl⟩; have hy38 : y186.length = (rd_L4 l1 x13_1).length - (1 : Int).toNat := (by rw [Ny186.out, List.length_drop] <;> omega); rw [show ((rd_L4 l1 x13_1)).drop (1 : Int).toNat = y186 from Ny186.out.symm] at hr38; replace hr38 : Kd.C k42 _ A38 y186.length y186 := (by rw [hA38]; exact hr38); rw [← hy38, ← hA38, ← hc38] at hcut38; have HR189 := Aside0.mk hr38; have HC189 := Aside0.mk (show y186.length ≤ c38 from by rw [hy38, hc38]; exact Nat.sub_le_sub_right hroom38 _); clear hr38 hC38 hroom38 hi038 hsz38 hc38; have KY38 := Aside0.mk hy38; have KA38 := Aside0.mk hA38; clear hy38 hA38; replace q38 := eq_true q38) | (go_at_call 23; (with_reducible refine (impl_some.cloneR _ _ _ rs_ _ ?side1 ?side2 ?side3 ?side4).mono ?_); (case side1 => exact HRW.out.1); (case side2 => have h_ := HRS.out; rw [← HRW.out.1] at h_; repeat (first | exact (Kd.C_below h_ HB.out) | (with_reducible refine Kd.C_alloc ?_ _) | (with_reducible refine Kd.C_drewN ?_ _) | (with_reducible refine Kd.C_drew ?_))); (case side3 => rw [HRW.out.1]; exact HC1.out); (case side4 => rw [HRW.out.1]; exact HLM.out); rintro e wC_ ⟨vC_, rfl, hoC_, hb⟩; have n0_ := Aside0.mk (Kd.R_lower hoC_ (below_size (zB5_1))); have n1_ := Aside0.mk (zb5 BK179.out hb); have n3_ := Aside0.mk (Kd.R_below (zR5 HO184.out) hb); have n2_ := Aside0.mk (below_step (zB5_1) hb); clear BK179; clear HB; clear HO184; have HOC := n0_; have BK179 := n1_; have HO184 := n3_; have HB := n2_; clear n0_ n1_ n2_ n3_ hb hoC_; have hq_ : (x13_1 : Int) < ((rs_.length : Int) : Int) := (by rw [HRW.out.1]; exact HX1_.out); have hp_ : 0 ≤ (x13_1 : Int) := HX0_.out; obtain ⟨gr_, cr_, er_, gbr_, glr_, clr_⟩ := Kd.R_form HOC.out (by omega); cases er_; have GBR := Aside0.mk gbr_; have GCR := Aside0.mk clr_; clear gbr_ glr_ clr_; obtain ⟨hxr_, hfr_⟩ := Kd.R_celln ⟨none, 0, 0⟩ HOC.out (x13_1 : Int) hp_ hq_; have HPR := Kd.R_putg HOC.out (x13_1 : Int) ⟨A38, y186.length, c38⟩; replace hp_ := eq_true hp_; replace hq_ := eq_true hq_) | ((with_reducible refine gate_store (t := 34) (p := 60) rfl ?_); refine store_event (t := 34) (p := 60) (v := ?vo_) (w1 := (wC_.setCell ⟨gr_, (x13_1 : Int).toNat, none⟩ (.slice A38 y186.length c38))) ?hg ?ho ?hn ?hr ?_; (case ho => rfl); (case hg => rfl); (case hn => rfl); (case hr => first | (go_simp; done) | (go_simp; rfl)); intro wS_ hw; have hg : wC_.grownBy wS_ (some gr_) := (by rw [hw]; exact HPR.2); have hp2_ : Kd.R rawK 34 wS_ w.heap.size (fun _ => True) (.slice (some ⟨gr_, 0, none⟩) rs_.length cr_) (rs_.set (x13_1 : Int).toNat ⟨A38, y186.length, c38⟩) := (by rw [hw]; exact HPR.1); clear HPR; have n0_ := Aside0.mk (blk_grown (g := gb179) (o := .cells #[.int .i64 ((rd_T42 (rd_L4 l1 x13_1) 0).f0), .int .i64 ((rd_T42 (rd_L4 l1 x13_1) 0).f1), .int .i64 ((rd_T42 (rd_L4 l1 x13_1) 0).f2)] 42 (0, 0)) BK179.out hg (Kd.R_ne HOC.out BK179.out (by decide))); have n1_ := Aside0.mk (hp2_); obtain ⟨cells_, hcells_⟩ := GCR.out; have n3_ := Aside0.mk ((by rw [hw]; exact Kd.R_set HO184.out hcells_ (by intro q hq; first | (simp [Kd.int, Kd.scalar] at hq; subst hq; decide) | (revert q; decide)) _ _ : Kd.R (Kd.int .i64) 3 wS_ w.heap.size _ _ _)); have n2_ := Aside0.mk ((by rw [hw]; exact below_set (HB.out) GBR.out : Below w.heap.size w wS_)); clear BK179; clear HOC; clear HO184; clear HB; have BK179 := n0_; have HOC := n1_; have HO184 := n3_; have HB := n2_; clear n0_ n1_ n2_ n3_; clear hg hw hp2_ hcells_) | (go_at_call 16; refine calls_of_args (args' := #[.slice (some ⟨go24, 0, none⟩) y185.length co24, .slice (some ⟨gr_, 0, none⟩) (l1.set (x13_1 : Int).toNat ((rd_L4 l1 x13_1).drop (1 : Int).toNat)).length cr_]) (by first | (rw [show y185.length = t182.length from (Kd.R_reads' HO184.out).1.symm, (show (l1.set (x13_1 : Int).toNat ((rd_L4 l1 x13_1).drop (1 : Int).toNat)).length = rs_.length from by rw [List.length_set]; exact HRW.out.1.symm)] <;> rfl) | rfl) ?_; (with_reducible refine (ih kj7 (by have := HK1.out; have := HJ7.out; omega) _ _ y185 _ _ (l1.set (x13_1 : Int).toNat ((rd_L4 l1 x13_1).drop (1 : Int).toNat)) false _ ?side1 ?side2 ?side3 ?side4 A26.out).mono ?_); (case side1 => exact zC5 (Kd.R_reads' HO184.out).2.2); (case side2 => rw [show y185.length = t182.length from (Kd.R_reads' HO184.out).1.symm]; exact (Kd.R_reads' HO184.out).2.1); (case side3 => exact raw_arg HRW.out (zB5_0) (x13_1 : Int).toNat Ny186.out HC189.out HR189.out (zR5 HOC.out)); (case side4 => exact raw_cap HRW.out (x13_1 : Int).toNat HOC.out); rintro e w39 ⟨rfl, hb⟩; have n0_ := Aside0.mk (Kd.R_below (zR5 HO184.out) hb); have n1_ := Aside0.mk (zb5 BK179.out hb); have n2_ := Aside0.mk (below_step (zB5_1) hb); clear HO184; clear BK179; clear HB; have HO184 := n0_; have BK179 := n1_; have HB := n2_; clear n0_ n1_ n2_; (try clear hb); (try clear hb2); (try clear hk); (try clear hi)))
     go_roundg kj7
     case measure => have := HK1.out; have := HJ7.out; omega
     case rel => exact ⟨(true), (wrap64 (x13_1 + 1)), (by first | rfl | (simp; done) | (simp [*]; done)), (by first | rfl | (simp; done) | (simp [*]; done)), H', ⟨by have := HK1.out; have := HJ7.out; omega⟩, ⟨zB5_1⟩⟩

/-! ### impl_SeqOk: function 8 -/
def impl_SeqOk.l0 : Nat → List Int → List (List (S42)) → Int → List (List (S42)) → Int → Int → Option (Bool)
 | 0, _, _, _, _, _, _ => none
 | k + 1, x0, x1, x5, x8, x9, x10 => if x10 < x9 then (if 0 ≤ x10 then (if x10 < (x8.length : Int) then (impl_SeqOk.l0 k x0 x1 (wrap64 (x5 + ((rd_L4 x8 x10).length : Int))) x8 x9 (wrap64 (x10 + 1))) else (none)) else (none)) else ((impl_memOk.f k x0).bind fun t197 => (if t197 = true then (if (x1.length : Int) ≤ 8 then (if x5 ≤ 12 then ((impl_some.f k x0 x1).bind fun t198 => (some t198)) else (some false)) else (some false)) else (some false)))
def impl_SeqOk.f (k : Nat) (l0 : List Int) (l1 : List (List (S42))) : Option (Bool) := impl_SeqOk.l0 k l0 l1 0 l1 (l1.length : Int) 0
theorem impl_SeqOk.mono_l : ∀ k, (∀ y0 y1 y2 y3 y4 y5, LeO (impl_SeqOk.l0 k y0 y1 y2 y3 y4 y5) (impl_SeqOk.l0 (k + 1) y0 y1 y2 y3 y4 y5))
 | 0 => fun _ _ _ _ _ _ r h => by simp [impl_SeqOk.l0] at h
 | k + 1 => by
  have ih0 := impl_SeqOk.mono_l k
  ·intro y0 y1 y2 y3 y4 y5
   unfold impl_SeqOk.l0
   repeat' first
   | (with_reducible exact ih0 _ _ _ _ _ _)
   | (with_reducible exact impl_memOk.mono _ _)
   | (with_reducible exact impl_some.mono _ _ _)
   | (with_reducible exact LeO.refl _)
   | (with_reducible exact LeO.none _)
   | (with_reducible refine LeO.ite ?_ ?_)
   | (with_reducible refine LeO.bind ?_ (fun _ => ?_))
   | exact ih0 _ _ _ _ _ _
   | exact impl_memOk.mono _ _
   | exact impl_some.mono _ _ _
   | exact LeO.none _
   | refine LeO.ite ?_ ?_
   | refine LeO.bind ?_ (fun _ => ?_)
theorem impl_SeqOk.mono : ∀ a0 a1 k, LeO (impl_SeqOk.f k a0 a1) (impl_SeqOk.f (k + 1) a0 a1) := by
 intro a0 a1 k
 have ih0 := impl_SeqOk.mono_l k
 unfold impl_SeqOk.f
 repeat' first
   | (with_reducible exact ih0 _ _ _ _ _ _)
   | (with_reducible exact impl_memOk.mono _ _)
   | (with_reducible exact impl_some.mono _ _ _)
   | (with_reducible exact LeO.refl _)
   | (with_reducible exact LeO.none _)
   | (with_reducible refine LeO.ite ?_ ?_)
   | (with_reducible refine LeO.bind ?_ (fun _ => ?_))
   | exact ih0 _ _ _ _ _ _
   | exact impl_memOk.mono _ _
   | exact impl_some.mono _ _ _
   | exact LeO.none _
   | refine LeO.ite ?_ ?_
   | refine LeO.bind ?_ (fun _ => ?_)
set_option maxHeartbeats 8000000 in
set_option maxRecDepth 100000 in
theorem impl_SeqOk.calls (k : Nat) (A0 : Option Addr) (c0 : Nat) (l0 : List Int) (A1 : Option Addr) (c1 : Nat) (l1 : List (List (S42))) (r : Bool) (w : World) (hr0 : Kd.C (Kd.int .i64) w A0 l0.length l0) (hc0 : l0.length ≤ c0) (hr1 : Kd.C (Kd.slice 42 k42) w A1 l1.length l1) (hc1 : l1.length ≤ c1) (h : impl_SeqOk.f k l0 l1 = some r) :
  Calls Try.prog 8 #[.slice A0 l0.length c0, .slice A1 l1.length c1] w fun e w' => e = .returned (.bool r) ∧ Below w.heap.size w w' := by
 have HR0 := Aside0.mk hr0
 have HC0 := Aside0.mk hc0
 clear hr0 hc0
 have HR1 := Aside0.mk hr1
 have HC1 := Aside0.mk hc1
 clear hr1 hc1
 have HB := Aside0.mk (Below.refl w.heap.size w)
 have H : (impl_SeqOk.l0 k l0 l1 0 l1 (l1.length : Int) 0) = some r := h
 clear h
 have H' := Aside0.mk H
 clear H
 go_enter Try.func8, Try.ntmps8
 go_wp2
 go_loopg [5, 10] k (fun kq v5 v10 w' => ∃ (x5_1 : Int) (x10_1 : Int), v5 = .int .i64 x5_1 ∧ v10 = .int .i64 x10_1 ∧ Aside0 (impl_SeqOk.l0 kq l0 l1 x5_1 l1 (l1.length : Int) x10_1 = some r) ∧ Aside0 (kq ≤ k) ∧ Aside0 (Below w.heap.size w w'))
 case atStart => exact ⟨(0), (0), (by first | rfl | (simp; done) | (simp [*]; done)), (by first | rfl | (simp; done) | (simp [*]; done)), H', ⟨Nat.le_refl _⟩, ⟨zB5_0⟩⟩
 case round =>
  clear H'
  try clear c1
  try clear p2
  obtain ⟨x5_1, x10_1, rfl, rfl, HA, HK1, HB⟩ := hrel
  cases gk with
  | zero => exact absurd HA.out (by simp [impl_SeqOk.l0])
  | succ k1 =>
   have H := HA.out
   clear HA
   simp only [impl_SeqOk.l0] at H
   by_cases c3 : x10_1 < (l1.length : Int)
   ·rw [if_pos c3] at H
    have c3b0 : decide (x10_1 < (l1.length : Int)) = true := decide_eq_true c3
    clear c3
    by_cases c4 : 0 ≤ x10_1
    rotate_left
    ·rw [if_neg c4] at H
     exact absurd H (by simp)
    rw [if_pos c4] at H
    have c4b0 : decide (0 ≤ x10_1) = true := decide_eq_true c4
    clear c4
    by_cases c5 : x10_1 < (l1.length : Int)
    rotate_left
    ·rw [if_neg c5] at H
     exact absurd H (by simp)
    rw [if_pos c5] at H
    have c5b0 : decide (x10_1 < (l1.length : Int)) = true := decide_eq_true c5
    clear c5
    have H' := Aside0.mk H
    clear H
    have p196 : 0 ≤ (x10_1 : Int) := zA5
    have q196 : x10_1 < (l1.length : Int) := zA5
    obtain ⟨ad196, A196_0, c196_0, e196, hx196_0, hl196_0, hi196_0⟩ := at_L4 HR1.out x10_1 p196 q196
    cases e196
    replace hx196_0 := (HB.out.cell (World.block_lt_of_cell? w _ hx196_0)).trans hx196_0
    have HR196_0 := Aside0.mk hi196_0
    have HC196_0 := Aside0.mk hl196_0
    clear hi196_0 hl196_0
    replace p196 := eq_true p196
    replace q196 := eq_true q196
    go_wp2
    go_roundg k1
    case measure => have := HK1.out; omega
    case rel => exact ⟨(wrap64 (x5_1 + ((rd_L4 l1 x10_1).length : Int))), (wrap64 (x10_1 + 1)), (by first | rfl | (simp; done) | (simp [*]; done)), (by first | rfl | (simp; done) | (simp [*]; done)), H', ⟨by have := HK1.out; omega⟩, ⟨zB5_0⟩⟩
   rw [if_neg c3] at H
   have c3b0 : decide (x10_1 < (l1.length : Int)) = false := decide_eq_false c3
   clear c3
   replace H := Option.bind_eq_some_iff.mp H
   obtain ⟨t197, A60, H⟩ := H
   replace H : (if t197 = true then (if (l1.length : Int) ≤ 8 then (if x5_1 ≤ 12 then ((impl_some.f k1 l0 l1).bind fun t198 => (some t198)) else (some false)) else (some false)) else (some false)) = some r := H
   have A6 := Aside0.mk A60
   clear A60
   by_cases c7 : t197 = true
   rotate_left
   ·replace c7 := Bool.eq_false_iff.mpr c7
    subst c7
    have H1 : (some false) = some r := by rw [if_neg (show ¬ (false = true) by decide)] at H; exact H
    clear H
    have H := H1
    clear H1
    obtain rfl := Option.some.inj H
    go_wp2_with (first | ((with_reducible refine gate_callee (f := 15) rfl ?_); refine goesL_ (some 20) rfl rfl Try.func15 (by kernel_rfl) rfl #[.slice A0 l0.length c0] rfl zT5 ?_; (with_reducible refine (impl_memOk.calls k1 _ _ l0 false _ ?side1 ?side2 A6.out).mono ?_); (case side1 => exact zC5 (Kd.C_below HR0.out HB.out)); (case side2 => exact HC0.out); rintro e w' ⟨rfl, ⟨nd, rfl⟩⟩; refine ⟨_, rfl, ?_⟩))
    go_ret
    exact ⟨zE5, zB5_0⟩
   subst c7
   have H1 : (if (l1.length : Int) ≤ 8 then (if x5_1 ≤ 12 then ((impl_some.f k1 l0 l1).bind fun t198 => (some t198)) else (some false)) else (some false)) = some r := by rw [if_pos rfl] at H; exact H
   clear H
   have H := H1
   clear H1
   by_cases c8 : (l1.length : Int) ≤ 8
   rotate_left
   ·rw [if_neg c8] at H
    have c8b0 : decide ((l1.length : Int) ≤ 8) = false := decide_eq_false c8
    have c8b1 : decide (l1.length ≤ 8) = false := decide_eq_false (by omega)
    clear c8
    obtain rfl := Option.some.inj H
    go_wp2_with (first | ((with_reducible refine gate_callee (f := 15) rfl ?_); refine goesL_ (some 20) rfl rfl Try.func15 (by kernel_rfl) rfl #[.slice A0 l0.length c0] rfl zT5 ?_; (with_reducible refine (impl_memOk.calls k1 _ _ l0 true _ ?side1 ?side2 A6.out).mono ?_); (case side1 => exact zC5 (Kd.C_below HR0.out HB.out)); (case side2 => exact HC0.out); rintro e w' ⟨rfl, ⟨nd, rfl⟩⟩; refine ⟨_, rfl, ?_⟩))
    go_ret
    exact ⟨zE5, zB5_0⟩
   rw [if_pos c8] at H
   have c8b0 : decide ((l1.length : Int) ≤ 8) = true := decide_eq_true c8
   have c8b1 : decide (l1.length ≤ 8) = true := decide_eq_true (by omega)
   clear c8
   by_cases c9 : x5_1 ≤ 12
   rotate_left
   ·rw [if_neg c9] at H
    have c9b0 : decide (x5_1 ≤ 12) = false := decide_eq_false c9
    clear c9
    obtain rfl := Option.some.inj H
    go_wp2_with (first | ((with_reducible refine gate_callee (f := 15) rfl ?_); refine goesL_ (some 20) rfl rfl Try.func15 (by kernel_rfl) rfl #[.slice A0 l0.length c0] rfl zT5 ?_; (with_reducible refine (impl_memOk.calls k1 _ _ l0 true _ ?side1 ?side2 A6.out).mono ?_); (case side1 => exact zC5 (Kd.C_below HR0.out HB.out)); (case side2 => exact HC0.out); rintro e w' ⟨rfl, ⟨nd, rfl⟩⟩; refine ⟨_, rfl, ?_⟩))
    go_ret
    exact ⟨zE5, zB5_0⟩
   rw [if_pos c9] at H
   have c9b0 : decide (x5_1 ≤ 12) = true := decide_eq_true c9
   clear c9
   replace H := Option.bind_eq_some_iff.mp H
   obtain ⟨t198, A100, H⟩ := H
   replace H : (some t198) = some r := H
   have A10 := Aside0.mk A100
   clear A100
   obtain rfl := Option.some.inj H
   go_wp2_with (first | ((with_reducible refine gate_callee (f := 15) rfl ?_); refine goesL_ (some 20) rfl rfl Try.func15 (by kernel_rfl) rfl #[.slice A0 l0.length c0] rfl zT5 ?_; (with_reducible refine (impl_memOk.calls k1 _ _ l0 true _ ?side1 ?side2 A6.out).mono ?_); (case side1 => exact zC5 (Kd.C_below HR0.out HB.out)); (case side2 => exact HC0.out); rintro e w' ⟨rfl, ⟨nd, rfl⟩⟩; refine ⟨_, rfl, ?_⟩) | (go_at_call 16; (with_reducible refine (impl_some.calls k1 _ _ l0 _ _ l1 t198 _ ?side1 ?side2 ?side3 ?side4 A10.out).mono ?_); (case side1 => repeat (first | exact (Kd.C_below HR0.out (zB5_0)) | (with_reducible refine Kd.C_alloc ?_ _) | (with_reducible refine Kd.C_drewN ?_ _) | (with_reducible refine Kd.C_drew ?_))); (case side2 => exact HC0.out); (case side3 => repeat (first | exact (Kd.C_below HR1.out (zB5_0)) | (with_reducible refine Kd.C_alloc ?_ _) | (with_reducible refine Kd.C_drewN ?_ _) | (with_reducible refine Kd.C_drew ?_))); (case side4 => exact HC1.out); rintro e w11 ⟨rfl, hb⟩; have n0_ := Aside0.mk (below_step (zB5_0) hb); clear HB; have HB := n0_; clear n0_; (try clear hb); (try clear hb2); (try clear hk); (try clear hi)))
   go_ret
   exact ⟨zE5, zB5_0⟩

/-! ### laws_eqIntS: function 9 -/
def laws_eqIntS.l0 : Nat → List Int → List Int → Int → Option (Bool)
 | 0, _, _, _ => none
 | k + 1, x0, x1, x5 => if x5 < (x0.length : Int) then (if 0 ≤ x5 then (if x5 < (x1.length : Int) then (if (rd x0 x5) = (rd x1 x5) then (laws_eqIntS.l0 k x0 x1 (wrap64 (x5 + 1))) else (some false)) else (none)) else (none)) else (some true)
def laws_eqIntS.f (k : Nat) (l0 : List Int) (l1 : List Int) : Option (Bool) := if (l0.length : Int) = (l1.length : Int) then (laws_eqIntS.l0 k l0 l1 0) else (some false)
theorem laws_eqIntS.mono_l : ∀ k, (∀ y0 y1 y2, LeO (laws_eqIntS.l0 k y0 y1 y2) (laws_eqIntS.l0 (k + 1) y0 y1 y2))
 | 0 => fun _ _ _ r h => by simp [laws_eqIntS.l0] at h
 | k + 1 => by
  have ih0 := laws_eqIntS.mono_l k
  ·intro y0 y1 y2
   unfold laws_eqIntS.l0
   repeat' first
   | (with_reducible exact ih0 _ _ _)
   | (with_reducible exact LeO.refl _)
   | (with_reducible exact LeO.none _)
   | (with_reducible refine LeO.ite ?_ ?_)
   | (with_reducible refine LeO.bind ?_ (fun _ => ?_))
   | exact ih0 _ _ _
   | exact LeO.none _
   | refine LeO.ite ?_ ?_
   | refine LeO.bind ?_ (fun _ => ?_)
theorem laws_eqIntS.mono : ∀ a0 a1 k, LeO (laws_eqIntS.f k a0 a1) (laws_eqIntS.f (k + 1) a0 a1) := by
 intro a0 a1 k
 have ih0 := laws_eqIntS.mono_l k
 unfold laws_eqIntS.f
 repeat' first
   | (with_reducible exact ih0 _ _ _)
   | (with_reducible exact LeO.refl _)
   | (with_reducible exact LeO.none _)
   | (with_reducible refine LeO.ite ?_ ?_)
   | (with_reducible refine LeO.bind ?_ (fun _ => ?_))
   | exact ih0 _ _ _
   | exact LeO.none _
   | refine LeO.ite ?_ ?_
   | refine LeO.bind ?_ (fun _ => ?_)
set_option maxHeartbeats 8000000 in
set_option maxRecDepth 100000 in
theorem laws_eqIntS.calls (k : Nat) (A0 : Option Addr) (c0 : Nat) (l0 : List Int) (A1 : Option Addr) (c1 : Nat) (l1 : List Int) (r : Bool) (w : World) (hr0 : Kd.C (Kd.int .i64) w A0 l0.length l0) (hc0 : l0.length ≤ c0) (hr1 : Kd.C (Kd.int .i64) w A1 l1.length l1) (hc1 : l1.length ≤ c1) (h : laws_eqIntS.f k l0 l1 = some r) :
  Calls Try.prog 9 #[.slice A0 l0.length c0, .slice A1 l1.length c1] w fun e w' => e = .returned (.bool r) ∧ Drawn0 w w' := by
 have HR0 := Aside0.mk hr0
 have HC0 := Aside0.mk hc0
 clear hr0 hc0
 have HR1 := Aside0.mk hr1
 have HC1 := Aside0.mk hc1
 clear hr1 hc1
 have H : (if (l0.length : Int) = (l1.length : Int) then (laws_eqIntS.l0 k l0 l1 0) else (some false)) = some r := h
 clear h
 by_cases c3 : (l0.length : Int) = (l1.length : Int)
 rotate_left
 ·rw [if_neg c3] at H
  have c3b0 : ((l0.length : Int) == (l1.length : Int)) = false := beq_eq_false_iff_ne.mpr c3
  have c3b1 : ((l0.length : Int) != (l1.length : Int)) = true := bne_iff_ne.mpr c3
  have c3b2 : (l0.length == l1.length) = false := by first | simpa using c3 | (simp at c3 ⊢; omega)
  obtain rfl := Option.some.inj H
  go_enter Try.func9, Try.ntmps9
  go_wp2
  repeat (go_quiet (fail); try go_wp2)
  go_ret
  exact ⟨by first | rfl | (simp; done) | (simp [*]; done), by repeat (first | exact Drawn0.refl _ | apply Drawn0.step)⟩
 rw [if_pos c3] at H
 have c3b0 : ((l0.length : Int) == (l1.length : Int)) = true := beq_iff_eq.mpr c3
 have c3b1 : ((l0.length : Int) != (l1.length : Int)) = false := bne_eq_false_iff_eq.mpr c3
 have c3b2 : (l0.length == l1.length) = true := by first | simpa using c3 | (simp at c3 ⊢; omega)
 clear c3
 have H' := Aside0.mk H
 clear H
 go_enter Try.func9, Try.ntmps9
 go_wp2
 repeat (go_quiet (fail); try go_wp2)
 go_loopg [5] k (fun kq v5 w' => ∃ (x5_1 : Int), v5 = .int .i64 x5_1 ∧ Aside0 (laws_eqIntS.l0 kq l0 l1 x5_1 = some r) ∧ Aside0 (kq ≤ k) ∧ Drawn0 w w')
 case atStart => exact ⟨(0), (by first | rfl | (simp; done) | (simp [*]; done)), H', ⟨Nat.le_refl _⟩, by repeat (first | exact Drawn0.refl _ | apply Drawn0.step)⟩
 case round =>
  clear H'
  try clear c1
  try clear p2
  try clear c3
  try clear c3b0
  try clear c3b1
  try clear c3b2
  obtain ⟨x5_1, rfl, HA, HK1, ⟨m1, rfl⟩⟩ := hrel
  cases gk with
  | zero => exact absurd HA.out (by simp [laws_eqIntS.l0])
  | succ k1 =>
   have H := HA.out
   clear HA
   simp only [laws_eqIntS.l0] at H
   by_cases c4 : x5_1 < (l0.length : Int)
   rotate_left
   ·rw [if_neg c4] at H
    have c4b0 : decide (x5_1 < (l0.length : Int)) = false := decide_eq_false c4
    clear c4
    obtain rfl := Option.some.inj H
    go_wp2
    repeat (go_quiet (fail); try go_wp2)
    go_ret
    exact ⟨by first | rfl | (simp; done) | (simp [*]; done), by repeat (first | exact Drawn0.refl _ | apply Drawn0.step)⟩
   rw [if_pos c4] at H
   have c4b0 : decide (x5_1 < (l0.length : Int)) = true := decide_eq_true c4
   clear c4
   by_cases c5 : 0 ≤ x5_1
   rotate_left
   ·rw [if_neg c5] at H
    exact absurd H (by simp)
   rw [if_pos c5] at H
   have c5b0 : decide (0 ≤ x5_1) = true := decide_eq_true c5
   clear c5
   by_cases c6 : x5_1 < (l1.length : Int)
   rotate_left
   ·rw [if_neg c6] at H
    exact absurd H (by simp)
   rw [if_pos c6] at H
   have c6b0 : decide (x5_1 < (l1.length : Int)) = true := decide_eq_true c6
   clear c6
   by_cases c7 : (rd l0 x5_1) = (rd l1 x5_1)
   rotate_left
   ·rw [if_neg c7] at H
    have c7b0 : ((rd l0 x5_1) == (rd l1 x5_1)) = false := beq_eq_false_iff_ne.mpr c7
    have c7b1 : ((rd l0 x5_1) != (rd l1 x5_1)) = true := bne_iff_ne.mpr c7
    obtain rfl := Option.some.inj H
    have p199 : 0 ≤ (x5_1 : Int) := zA5
    have q199 : x5_1 < (l0.length : Int) := zA5
    obtain ⟨ad199, e199, hx199_0⟩ := Kd.at_int HR0.out x5_1 p199 q199
    cases e199
    replace p199 := eq_true p199
    replace q199 := eq_true q199
    have p200 : 0 ≤ (x5_1 : Int) := zA5
    have q200 : x5_1 < (l1.length : Int) := zA5
    obtain ⟨ad200, e200, hx200_0⟩ := Kd.at_int HR1.out x5_1 p200 q200
    cases e200
    replace p200 := eq_true p200
    replace q200 := eq_true q200
    go_wp2
    repeat (go_quiet (fail); try go_wp2)
    go_ret
    exact ⟨by first | rfl | (simp; done) | (simp [*]; done), by repeat (first | exact Drawn0.refl _ | apply Drawn0.step)⟩
   rw [if_pos c7] at H
   have c7b0 : ((rd l0 x5_1) == (rd l1 x5_1)) = true := beq_iff_eq.mpr c7
   have c7b1 : ((rd l0 x5_1) != (rd l1 x5_1)) = false := bne_eq_false_iff_eq.mpr c7
   clear c7
   have H' := Aside0.mk H
   clear H
   have p199 : 0 ≤ (x5_1 : Int) := zA5
   have q199 : x5_1 < (l0.length : Int) := zA5
   obtain ⟨ad199, e199, hx199_0⟩ := Kd.at_int HR0.out x5_1 p199 q199
   cases e199
   replace p199 := eq_true p199
   replace q199 := eq_true q199
   have p200 : 0 ≤ (x5_1 : Int) := zA5
   have q200 : x5_1 < (l1.length : Int) := zA5
   obtain ⟨ad200, e200, hx200_0⟩ := Kd.at_int HR1.out x5_1 p200 q200
   cases e200
   replace p200 := eq_true p200
   replace q200 := eq_true q200
   go_wp2
   repeat (go_quiet (fail); try go_wp2)
   go_roundg k1
   case measure => have := HK1.out; omega
   case rel => exact ⟨(wrap64 (x5_1 + 1)), (by first | rfl | (simp; done) | (simp [*]; done)), H', ⟨by have := HK1.out; omega⟩, by repeat (first | exact Drawn0.refl _ | apply Drawn0.step)⟩

/-! ### laws_eqDid: function 24 -/
def laws_eqDid.f (a0_0 : Int) (a0_1 : Int) (a0_2 : Int) (a1_0 : Int) (a1_1 : Int) (a1_2 : Int) : Option (Bool) := if a0_0 = a1_0 then (if a0_1 = a1_1 then (if a0_2 = a1_2 then (some true) else (some false)) else (some false)) else (some false)
set_option maxHeartbeats 8000000 in
set_option maxRecDepth 100000 in
theorem laws_eqDid.calls (a0_0 : Int) (a0_1 : Int) (a0_2 : Int) (a1_0 : Int) (a1_1 : Int) (a1_2 : Int) (r : Bool) (w : World) (h : laws_eqDid.f a0_0 a0_1 a0_2 a1_0 a1_1 a1_2 = some r) :
  Calls Try.prog 24 #[.agg #[.int .i64 a0_0, .int .i64 a0_1, .int .i64 a0_2], .agg #[.int .i64 a1_0, .int .i64 a1_1, .int .i64 a1_2]] w fun e w' => e = .returned (.bool r) ∧ Below w.heap.size w w' := by
 have hu42 := Try.underlying42
 have HB := Aside0.mk (Below.refl w.heap.size w)
 have H : (if a0_0 = a1_0 then (if a0_1 = a1_1 then (if a0_2 = a1_2 then (some true) else (some false)) else (some false)) else (some false)) = some r := h
 clear h
 by_cases c3 : a0_0 = a1_0
 rotate_left
 ·rw [if_neg c3] at H
  have c3b0 : (a0_0 == a1_0) = false := beq_eq_false_iff_ne.mpr c3
  have c3b1 : (a0_0 != a1_0) = true := bne_iff_ne.mpr c3
  obtain rfl := Option.some.inj H
  go_enter Try.func24, Try.ntmps24
  go_wp2_with (first | ((with_reducible refine gate_dst (N := 2) rfl ?_); refine box_event ?hg (N := 2) ?hd (cs := #[.int .i64 a0_0, .int .i64 a0_1, .int .i64 a0_2]) (t := 42) ?hr ?_; (case hd => rfl); (case hg => rfl); (case hr => first | (go_simp; done) | (go_simp; rfl)); intro gb201 hg w21 hbox hb; have n0_ := Aside0.mk (below_step (zB5_0) hb); have n1_ := Aside0.mk (hbox); have n2_ := Aside0.mk ((by rw [hg]; exact (below_size (zB5_0)) : w.heap.size ≤ gb201)); have n3_ := Aside0.mk ((by rw [hg]; exact (below_size (zB5_0)) : w.heap.size ≤ gb201)); clear HB; have HB := n0_; have BK201 := n1_; have GW201 := n2_; have GE201 := n3_; clear n0_ n1_ n2_ n3_; clear hb hbox hg) | ((with_reducible refine gate_dst (N := 3) rfl ?_); refine box_event ?hg (N := 3) ?hd (cs := #[.int .i64 a1_0, .int .i64 a1_1, .int .i64 a1_2]) (t := 42) ?hr ?_; (case hd => rfl); (case hg => rfl); (case hr => first | (go_simp; done) | (go_simp; rfl)); intro gb202 hg w22 hbox hb; have n0_ := Aside0.mk (zb5 BK201.out hb); have n1_ := Aside0.mk (below_step (zB5_2) hb); have n2_ := Aside0.mk (hbox); have n3_ := Aside0.mk ((by rw [hg]; exact (below_size (zB5_2)) : w.heap.size ≤ gb202)); have n4_ := Aside0.mk ((by rw [hg]; exact (below_size (zB5_2)) : w.heap.size ≤ gb202)); have n5_ := Aside0.mk ((zn5 BK201.out hg : gb201 ≠ gb202)); have n6_ := Aside0.mk ((zm5 BK201.out hg : gb202 ≠ gb201)); clear BK201; clear HB; have BK201 := n0_; have HB := n1_; have BK202 := n2_; have GW202 := n3_; have GE202 := n4_; have NB201_202 := n5_; have NB202_201 := n6_; clear n0_ n1_ n2_ n3_ n4_ n5_ n6_; clear hb hbox hg; have hnb23 := NB201_202.out; have hnc23 := NB202_201.out; obtain ⟨hcz24_0, hcz24_1, hcz24_2, hfz24_0, hfz24_1, hfz24_2⟩ := zc5_3 (w := w22) BK201.out; obtain ⟨hcz25_0, hcz25_1, hcz25_2, hfz25_0, hfz25_1, hfz25_2⟩ := zc5_3 (w := w22) BK202.out))
  go_ret
  exact ⟨zE5, zB5_3⟩
 rw [if_pos c3] at H
 have c3b0 : (a0_0 == a1_0) = true := beq_iff_eq.mpr c3
 have c3b1 : (a0_0 != a1_0) = false := bne_eq_false_iff_eq.mpr c3
 clear c3
 by_cases c4 : a0_1 = a1_1
 rotate_left
 ·rw [if_neg c4] at H
  have c4b0 : (a0_1 == a1_1) = false := beq_eq_false_iff_ne.mpr c4
  have c4b1 : (a0_1 != a1_1) = true := bne_iff_ne.mpr c4
  obtain rfl := Option.some.inj H
  go_enter Try.func24, Try.ntmps24
  go_wp2_with (first | ((with_reducible refine gate_dst (N := 2) rfl ?_); refine box_event ?hg (N := 2) ?hd (cs := #[.int .i64 a0_0, .int .i64 a0_1, .int .i64 a0_2]) (t := 42) ?hr ?_; (case hd => rfl); (case hg => rfl); (case hr => first | (go_simp; done) | (go_simp; rfl)); intro gb201 hg w16 hbox hb; have n0_ := Aside0.mk (below_step (zB5_0) hb); have n1_ := Aside0.mk (hbox); have n2_ := Aside0.mk ((by rw [hg]; exact (below_size (zB5_0)) : w.heap.size ≤ gb201)); have n3_ := Aside0.mk ((by rw [hg]; exact (below_size (zB5_0)) : w.heap.size ≤ gb201)); clear HB; have HB := n0_; have BK201 := n1_; have GW201 := n2_; have GE201 := n3_; clear n0_ n1_ n2_ n3_; clear hb hbox hg) | ((with_reducible refine gate_dst (N := 3) rfl ?_); refine box_event ?hg (N := 3) ?hd (cs := #[.int .i64 a1_0, .int .i64 a1_1, .int .i64 a1_2]) (t := 42) ?hr ?_; (case hd => rfl); (case hg => rfl); (case hr => first | (go_simp; done) | (go_simp; rfl)); intro gb202 hg w17 hbox hb; have n0_ := Aside0.mk (zb5 BK201.out hb); have n1_ := Aside0.mk (below_step (zB5_2) hb); have n2_ := Aside0.mk (hbox); have n3_ := Aside0.mk ((by rw [hg]; exact (below_size (zB5_2)) : w.heap.size ≤ gb202)); have n4_ := Aside0.mk ((by rw [hg]; exact (below_size (zB5_2)) : w.heap.size ≤ gb202)); have n5_ := Aside0.mk ((zn5 BK201.out hg : gb201 ≠ gb202)); have n6_ := Aside0.mk ((zm5 BK201.out hg : gb202 ≠ gb201)); clear BK201; clear HB; have BK201 := n0_; have HB := n1_; have BK202 := n2_; have GW202 := n3_; have GE202 := n4_; have NB201_202 := n5_; have NB202_201 := n6_; clear n0_ n1_ n2_ n3_ n4_ n5_ n6_; clear hb hbox hg; have hnb18 := NB201_202.out; have hnc18 := NB202_201.out; obtain ⟨hcz19_0, hcz19_1, hcz19_2, hfz19_0, hfz19_1, hfz19_2⟩ := zc5_3 (w := w17) BK201.out; obtain ⟨hcz20_0, hcz20_1, hcz20_2, hfz20_0, hfz20_1, hfz20_2⟩ := zc5_3 (w := w17) BK202.out))
  go_ret
  exact ⟨zE5, zB5_3⟩
 rw [if_pos c4] at H
 have c4b0 : (a0_1 == a1_1) = true := beq_iff_eq.mpr c4
 have c4b1 : (a0_1 != a1_1) = false := bne_eq_false_iff_eq.mpr c4
 clear c4
 by_cases c5 : a0_2 = a1_2
 rotate_left
 ·rw [if_neg c5] at H
  have c5b0 : (a0_2 == a1_2) = false := beq_eq_false_iff_ne.mpr c5
  have c5b1 : (a0_2 != a1_2) = true := bne_iff_ne.mpr c5
  obtain rfl := Option.some.inj H
  go_enter Try.func24, Try.ntmps24
  go_wp2_with (first | ((with_reducible refine gate_dst (N := 2) rfl ?_); refine box_event ?hg (N := 2) ?hd (cs := #[.int .i64 a0_0, .int .i64 a0_1, .int .i64 a0_2]) (t := 42) ?hr ?_; (case hd => rfl); (case hg => rfl); (case hr => first | (go_simp; done) | (go_simp; rfl)); intro gb201 hg w11 hbox hb; have n0_ := Aside0.mk (below_step (zB5_0) hb); have n1_ := Aside0.mk (hbox); have n2_ := Aside0.mk ((by rw [hg]; exact (below_size (zB5_0)) : w.heap.size ≤ gb201)); have n3_ := Aside0.mk ((by rw [hg]; exact (below_size (zB5_0)) : w.heap.size ≤ gb201)); clear HB; have HB := n0_; have BK201 := n1_; have GW201 := n2_; have GE201 := n3_; clear n0_ n1_ n2_ n3_; clear hb hbox hg) | ((with_reducible refine gate_dst (N := 3) rfl ?_); refine box_event ?hg (N := 3) ?hd (cs := #[.int .i64 a1_0, .int .i64 a1_1, .int .i64 a1_2]) (t := 42) ?hr ?_; (case hd => rfl); (case hg => rfl); (case hr => first | (go_simp; done) | (go_simp; rfl)); intro gb202 hg w12 hbox hb; have n0_ := Aside0.mk (zb5 BK201.out hb); have n1_ := Aside0.mk (below_step (zB5_2) hb); have n2_ := Aside0.mk (hbox); have n3_ := Aside0.mk ((by rw [hg]; exact (below_size (zB5_2)) : w.heap.size ≤ gb202)); have n4_ := Aside0.mk ((by rw [hg]; exact (below_size (zB5_2)) : w.heap.size ≤ gb202)); have n5_ := Aside0.mk ((zn5 BK201.out hg : gb201 ≠ gb202)); have n6_ := Aside0.mk ((zm5 BK201.out hg : gb202 ≠ gb201)); clear BK201; clear HB; have BK201 := n0_; have HB := n1_; have BK202 := n2_; have GW202 := n3_; have GE202 := n4_; have NB201_202 := n5_; have NB202_201 := n6_; clear n0_ n1_ n2_ n3_ n4_ n5_ n6_; clear hb hbox hg; have hnb13 := NB201_202.out; have hnc13 := NB202_201.out; obtain ⟨hcz14_0, hcz14_1, hcz14_2, hfz14_0, hfz14_1, hfz14_2⟩ := zc5_3 (w := w12) BK201.out; obtain ⟨hcz15_0, hcz15_1, hcz15_2, hfz15_0, hfz15_1, hfz15_2⟩ := zc5_3 (w := w12) BK202.out))
  go_ret
  exact ⟨zE5, zB5_3⟩
 rw [if_pos c5] at H
 have c5b0 : (a0_2 == a1_2) = true := beq_iff_eq.mpr c5
 have c5b1 : (a0_2 != a1_2) = false := bne_eq_false_iff_eq.mpr c5
 clear c5
 obtain rfl := Option.some.inj H
 go_enter Try.func24, Try.ntmps24
 go_wp2_with (first | ((with_reducible refine gate_dst (N := 2) rfl ?_); refine box_event ?hg (N := 2) ?hd (cs := #[.int .i64 a0_0, .int .i64 a0_1, .int .i64 a0_2]) (t := 42) ?hr ?_; (case hd => rfl); (case hg => rfl); (case hr => first | (go_simp; done) | (go_simp; rfl)); intro gb201 hg w6 hbox hb; have n0_ := Aside0.mk (below_step (zB5_0) hb); have n1_ := Aside0.mk (hbox); have n2_ := Aside0.mk ((by rw [hg]; exact (below_size (zB5_0)) : w.heap.size ≤ gb201)); have n3_ := Aside0.mk ((by rw [hg]; exact (below_size (zB5_0)) : w.heap.size ≤ gb201)); clear HB; have HB := n0_; have BK201 := n1_; have GW201 := n2_; have GE201 := n3_; clear n0_ n1_ n2_ n3_; clear hb hbox hg) | ((with_reducible refine gate_dst (N := 3) rfl ?_); refine box_event ?hg (N := 3) ?hd (cs := #[.int .i64 a1_0, .int .i64 a1_1, .int .i64 a1_2]) (t := 42) ?hr ?_; (case hd => rfl); (case hg => rfl); (case hr => first | (go_simp; done) | (go_simp; rfl)); intro gb202 hg w7 hbox hb; have n0_ := Aside0.mk (zb5 BK201.out hb); have n1_ := Aside0.mk (below_step (zB5_2) hb); have n2_ := Aside0.mk (hbox); have n3_ := Aside0.mk ((by rw [hg]; exact (below_size (zB5_2)) : w.heap.size ≤ gb202)); have n4_ := Aside0.mk ((by rw [hg]; exact (below_size (zB5_2)) : w.heap.size ≤ gb202)); have n5_ := Aside0.mk ((zn5 BK201.out hg : gb201 ≠ gb202)); have n6_ := Aside0.mk ((zm5 BK201.out hg : gb202 ≠ gb201)); clear BK201; clear HB; have BK201 := n0_; have HB := n1_; have BK202 := n2_; have GW202 := n3_; have GE202 := n4_; have NB201_202 := n5_; have NB202_201 := n6_; clear n0_ n1_ n2_ n3_ n4_ n5_ n6_; clear hb hbox hg; have hnb8 := NB201_202.out; have hnc8 := NB202_201.out; obtain ⟨hcz9_0, hcz9_1, hcz9_2, hfz9_0, hfz9_1, hfz9_2⟩ := zc5_3 (w := w7) BK201.out; obtain ⟨hcz10_0, hcz10_1, hcz10_2, hfz10_0, hfz10_1, hfz10_2⟩ := zc5_3 (w := w7) BK202.out))
 go_ret
 exact ⟨zE5, zB5_3⟩

end Go.Proofs.Ythmkclelkijhoaa.PFnExactSeqOk
