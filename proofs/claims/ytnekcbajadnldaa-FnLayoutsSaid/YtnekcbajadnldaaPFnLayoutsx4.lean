-- made by wip/tools/myprint.py out of the seat's translation
import Derived.Test.YtnekcbajadnldaaPFnLayoutsx0
import Derived.Test.YtnekcbajadnldaaPFnLayoutsx2
import Derived.Test.YtnekcbajadnldaaPFnLayoutsx3
namespace Go.Proofs.Ytnekcbajadnldaa.PFnLayouts
open Go.RowKit Go.Proofs.YtnekcbajadnldaaW.PrintWords Go.Proofs.YtnekcbajadnldaaW.PrintLast Go.Proofs.YtnekcbajadnldaaW.PrintMore
attribute [local go_sem] max2_int min2_int max_two min_two max_three min_three max_four min_four   -- for this text's walks alone
set_option linter.unusedVariables false
set_option linter.unusedSimpArgs false
theorem zc4_3 {w : World} {g : Nat} {a0 a1 a2 : Value} {t : TypeId} (h : w.heap[g]? = some (.cells #[a0, a1, a2] t (0, 0))) : w.cell? ⟨g, 0, none⟩ = some a0 ∧ w.cell? ⟨g, 1, none⟩ = some a1 ∧ w.cell? ⟨g, 2, none⟩ = some a2 ∧ w.frozen? ⟨g, 0, none⟩ = false ∧ w.frozen? ⟨g, 1, none⟩ = false ∧ w.frozen? ⟨g, 2, none⟩ = false := ⟨(blk_cell h 0).trans rfl, (blk_cell h 1).trans rfl, (blk_cell h 2).trans rfl, blk_frozen h 0, blk_frozen h 1, blk_frozen h 2⟩
theorem zc4_5 {w : World} {g : Nat} {a0 a1 a2 a3 a4 : Value} {t : TypeId} (h : w.heap[g]? = some (.cells #[a0, a1, a2, a3, a4] t (0, 0))) : w.cell? ⟨g, 0, none⟩ = some a0 ∧ w.cell? ⟨g, 1, none⟩ = some a1 ∧ w.cell? ⟨g, 2, none⟩ = some a2 ∧ w.cell? ⟨g, 3, none⟩ = some a3 ∧ w.cell? ⟨g, 4, none⟩ = some a4 ∧ w.frozen? ⟨g, 0, none⟩ = false ∧ w.frozen? ⟨g, 1, none⟩ = false ∧ w.frozen? ⟨g, 2, none⟩ = false ∧ w.frozen? ⟨g, 3, none⟩ = false ∧ w.frozen? ⟨g, 4, none⟩ = false := ⟨(blk_cell h 0).trans rfl, (blk_cell h 1).trans rfl, (blk_cell h 2).trans rfl, (blk_cell h 3).trans rfl, (blk_cell h 4).trans rfl, blk_frozen h 0, blk_frozen h 1, blk_frozen h 2, blk_frozen h 3, blk_frozen h 4⟩
theorem zR4 {p q : Prop} (x : q) (h : q → p := by intro h; (with_reducible repeat (first | apply Kd.R_alloc | apply Kd.R_drewN | apply Kd.R_drew)); exact h) : p := h x
theorem zK4 {p q : Prop} (x : q) (h : q → p := by intro h; (with_reducible repeat (first | refine blk_drewN ?_ _ | refine blk_drew ?_ | refine blk_alloc ?_ _)); exact h) : p := h x
theorem zA4 {p : Prop} [Decidable p] (h : decide p = true := by first | (with_reducible assumption) | assumption) : p := of_decide_eq_true h
theorem zT4 {p : Prop} (h : p := by (try simp only [List.map_toArray, List.map_cons, List.map_nil]); first | done | rfl | (simp only [List.length_drop, List.length_take]; rfl)) : p := h
theorem zC4 {p q : Prop} (x : q) (h : q → p := by intro h; repeat (first | exact h | (with_reducible refine Kd.C_alloc ?_ _) | (with_reducible refine Kd.C_drewN ?_ _) | (with_reducible refine Kd.C_drew ?_))) : p := h x
theorem zb4 {W w w1 : World} {g : Nat} {o : Obj} (x : W.heap[g]? = some o) (hb : Below w.heap.size w w1) (h : W.heap[g]? = some o → w.heap[g]? = some o := by intro h; (with_reducible repeat (first | refine blk_drewN ?_ _ | refine blk_drew ?_ | refine blk_alloc ?_ _)); exact h) : w1.heap[g]? = some o := blk_below (h x) hb
theorem zg4 {W w w1 : World} {g : Nat} {o : Obj} {row : Option Nat} (x : W.heap[g]? = some o) (hg : w.grownBy w1 row) (hne : some g ≠ row) (h : W.heap[g]? = some o → w.heap[g]? = some o := by intro h; (with_reducible repeat (first | refine blk_drewN ?_ _ | refine blk_drew ?_ | refine blk_alloc ?_ _)); exact h) : w1.heap[g]? = some o := blk_grown (h x) hg hne
theorem zh4 {W w w1 : World} {g g' : Nat} {o : Obj} (hk : KeepBut w w1 g none) (x : W.heap[g']? = some o) (hn : g' ≠ g) (h : W.heap[g']? = some o → w.heap[g']? = some o := by intro h; (with_reducible repeat (first | refine blk_drewN ?_ _ | refine blk_drew ?_ | refine blk_alloc ?_ _)); exact h) : w1.heap[g']? = some o := KeepBut.blk hk (h x) hn (by simp)
theorem zn4 {W w : World} {g g' : Nat} {o : Obj} (x : W.heap[g]? = some o) (hg : g' = w.heap.size) (h : W.heap[g]? = some o → w.heap[g]? = some o := by intro h; (with_reducible repeat (first | refine blk_drewN ?_ _ | refine blk_drew ?_ | refine blk_alloc ?_ _)); exact h) : g ≠ g' := by rw [hg]; exact Nat.ne_of_lt (blk_lt (h x))
theorem zm4 {W w : World} {g g' : Nat} {o : Obj} (x : W.heap[g]? = some o) (hg : g' = w.heap.size) (h : W.heap[g]? = some o → w.heap[g]? = some o := by intro h; (with_reducible repeat (first | refine blk_drewN ?_ _ | refine blk_drew ?_ | refine blk_alloc ?_ _)); exact h) : g' ≠ g := by rw [hg]; exact Nat.ne_of_gt (blk_lt (h x))
theorem zP4 {p q : Prop} (x : q) (h : q → p := by intro h; (with_reducible repeat (first | refine blk_drewN ?_ _ | refine blk_drew ?_ | refine blk_alloc ?_ _)); exact h) : p := h x
theorem zV4 {a b : Act} (h : a = b := by simp only [Act.put, List.setIfInBounds_toArray, List.set_cons_zero, List.set_cons_succ, i64_w, i32_w]; rfl) : a = b := h
theorem zE4 {p : Prop} (h : p := by first | rfl | (simp [errW_none, errW_some] <;> rfl) | (simp [*, errW_none, errW_some] <;> rfl)) : p := h
theorem zB4_0 {p : Prop} (h : p := by repeat (first | (with_reducible first | exact HI0.out | apply IsS161.alloc | apply IsS161.drewN | apply IsS161.drew | apply IsS161.set_1 | apply IsS161.set_2) | exact HI0.out)) : p := h
theorem zB4_1 {p : Prop} (h : p := by repeat (first | (with_reducible first | exact HK.out | apply KeepBut.set_ | apply keep_drewN | apply keep_drew | apply keep_alloc) | exact HK.out)) : p := h
theorem zB4_2 {p : Prop} (h : p := by repeat (first | (with_reducible first | exact HB.out | apply below_alloc | apply pw_below_drewN | apply below_drew1 | refine below_set ?_ (IsS161.ge HI0.out)) | exact HB.out)) : p := h
theorem zB4_3 {p : Prop} (h : p := by repeat (first | (with_reducible first | exact HK.out | apply KeepBut.set_ | apply keep_drewN | apply keep_drew | apply keep_alloc | refine keep_far ?_ GW198.out _) | exact HK.out)) : p := h
theorem zB4_4 {p : Prop} (h : p := by repeat (first | (with_reducible first | exact HI0.out | apply IsS161.alloc | apply IsS161.drewN | apply IsS161.drew | apply IsS161.set_1 | apply IsS161.set_2 | refine IsS161.far ?_ NB0_198.out _) | exact HI0.out)) : p := h
theorem zB4_5 {p : Prop} (h : p := by repeat (first | (with_reducible first | exact HB.out | apply below_alloc | apply pw_below_drewN | apply below_drew1 | refine below_set ?_ (IsS161.ge HI0.out) | refine below_set ?_ GE198.out) | exact HB.out)) : p := h
theorem zB4_6 {p : Prop} (h : p := by repeat (first | (with_reducible first | exact HI0.out | apply IsS161.alloc | apply IsS161.drewN | apply IsS161.drew | apply IsS161.set_1 | apply IsS161.set_2 | refine IsS161.far ?_ NB0_198.out _ | refine IsS161.far ?_ NB0_205.out _) | exact HI0.out)) : p := h
theorem zB4_7 {p : Prop} (h : p := by repeat (first | (with_reducible first | exact HK.out | apply KeepBut.set_ | apply keep_drewN | apply keep_drew | apply keep_alloc | refine keep_far ?_ GW198.out _ | refine keep_far ?_ GW205.out _) | exact HK.out)) : p := h
theorem zB4_8 {p : Prop} (h : p := by repeat (first | (with_reducible first | exact HB.out | apply below_alloc | apply pw_below_drewN | apply below_drew1 | refine below_set ?_ (IsS161.ge HI0.out) | refine below_set ?_ GE198.out | refine below_set ?_ GE205.out) | exact HB.out)) : p := h
theorem zB4_9 {p : Prop} (h : p := by repeat (first | (with_reducible first | exact HK.out | apply KeepBut.set_ | apply keep_drewN | apply keep_drew | apply keep_alloc | refine keep_far ?_ GW198.out _ | refine keep_far ?_ GW205.out _ | refine keep_far ?_ GW216.out _) | exact HK.out)) : p := h
theorem zB4_10 {p : Prop} (h : p := by repeat (first | (with_reducible first | exact HI0.out | apply IsS161.alloc | apply IsS161.drewN | apply IsS161.drew | apply IsS161.set_1 | apply IsS161.set_2 | refine IsS161.far ?_ NB0_198.out _ | refine IsS161.far ?_ NB0_205.out _ | refine IsS161.far ?_ NB0_216.out _) | exact HI0.out)) : p := h
theorem zB4_11 {p : Prop} (h : p := by repeat (first | (with_reducible first | exact HB.out | apply below_alloc | apply pw_below_drewN | apply below_drew1 | refine below_set ?_ (IsS161.ge HI0.out) | refine below_set ?_ GE198.out | refine below_set ?_ GE205.out | refine below_set ?_ GE216.out) | exact HB.out)) : p := h
theorem zB4_12 {p : Prop} (h : p := by repeat (first | (with_reducible first | exact HI0.out | apply IsS161.alloc | apply IsS161.drewN | apply IsS161.drew | apply IsS161.set_1 | apply IsS161.set_2 | refine IsS161.far ?_ HN0_go114.out _ | refine IsS161.far ?_ HN0_go114.out _ | refine IsS161.far ?_ HN0_go114.out _ | refine IsS161.far ?_ HN0_go114.out _ | refine IsS161.far ?_ HN0_go114.out _ | refine IsS161.far ?_ NB0_198.out _ | refine IsS161.far ?_ NB0_205.out _) | exact HI0.out)) : p := h
theorem zB4_13 {p : Prop} (h : p := by repeat (first | (with_reducible first | exact HK.out | apply KeepBut.set_ | apply keep_drewN | apply keep_drew | apply keep_alloc | refine keep_far ?_ GB114.out _ | refine keep_far ?_ GB114.out _ | refine keep_far ?_ GB114.out _ | refine keep_far ?_ GB114.out _ | refine keep_far ?_ GB114.out _ | refine keep_far ?_ GW198.out _ | refine keep_far ?_ GW205.out _) | exact HK.out)) : p := h
theorem zB4_14 {p : Prop} (h : p := by repeat (first | (with_reducible first | exact HB.out | apply below_alloc | apply pw_below_drewN | apply below_drew1 | refine below_set ?_ (Nat.le_trans HL.out GB114.out) | refine below_set ?_ (Nat.le_trans HL.out GB114.out) | refine below_set ?_ (Nat.le_trans HL.out GB114.out) | refine below_set ?_ (Nat.le_trans HL.out GB114.out) | refine below_set ?_ (Nat.le_trans HL.out GB114.out) | refine below_set ?_ (IsS161.ge HI0.out) | refine below_set ?_ GE198.out | refine below_set ?_ GE205.out) | exact HB.out)) : p := h

/-! ### spec_l27DrawPart: function 104 -/
def spec_l27DrawPart.l0 : Nat → Int → List Int → Int → Int → ByteArray → List (S52) → List (S56) → Option (ByteArray × (List (S52)) × (List (S56)) × Int × Int)
 | 0, _, _, _, _, _, _, _ => none
 | k + 1, x4, x1000, x1001, x1002, x206000, x206001, x206002 => (spec_l1Below.f x1000 x1001 x1002 5).bind fun bt206 => (if x4 < (wrap64 (1 + bt206.1)) then ((spec_l8DrawIns.f k x1000 bt206.2.1 bt206.2.2).bind fun bt209 => (if x206001.length < 3518437208883 then ((some (x206001 ++ [(⟨bt209.1, bt209.2.1, bt209.2.2.1, bt209.2.2.2.1, bt209.2.2.2.2.1⟩ : S52)] : List (S52))).bind fun y217 => ((spec_l27Goes.f bt209.1 bt209.2.1 bt209.2.2.1 bt209.2.2.2.1 bt209.2.2.2.2.1).bind fun t220 => (if t220 = true then ((spec_l1Once.f x1000 bt209.2.2.2.2.2.1 bt209.2.2.2.2.2.2 2).bind fun bt221 => (if bt221.1 = true then ((spec_l1Pick.f x1000 bt221.2.1 bt221.2.2 (([(⟨#[109, 97, 105, 110]⟩ : ByteArray), (⟨#[108, 111, 111, 112]⟩ : ByteArray), (⟨#[101, 110, 100]⟩ : ByteArray)] : List ByteArray))).bind fun bt227 => (if x206002.length < 5864062014805 then (spec_l27DrawPart.l0 k (wrap64 (x4 + 1)) x1000 bt227.2.1 bt227.2.2 x206000 y217 (x206002 ++ [(⟨x4, bt227.1⟩ : S56)])) else (none))) else (spec_l27DrawPart.l0 k (wrap64 (x4 + 1)) x1000 bt221.2.1 bt221.2.2 x206000 y217 x206002))) else (spec_l27DrawPart.l0 k (wrap64 (x4 + 1)) x1000 bt209.2.2.2.2.2.1 bt209.2.2.2.2.2.2 x206000 y217 x206002)))) else (none))) else ((spec_l1Below.f x1000 bt206.2.1 bt206.2.2 14).bind fun bt233 => (if bt233.1 = 0 then ((spec_l1Pick.f x1000 bt233.2.1 bt233.2.2 (([(⟨#[]⟩ : ByteArray), (⟨#[97, 98, 99, 100, 101, 102, 103, 104, 105]⟩ : ByteArray), (⟨#[97, 49]⟩ : ByteArray)] : List ByteArray))).bind fun bt239 => (some (bt239.1, x206001, x206002, bt239.2.1, bt239.2.2))) else (if bt233.1 = 1 then ((spec_l1Below.f x1000 bt233.2.1 bt233.2.2 4).bind fun bt242 => (if x206002.length < 5864062014805 then (some (x206000, x206001, (x206002 ++ [(⟨wrap64 (bt242.1 - 1), (⟨#[101, 110, 100]⟩ : ByteArray)⟩ : S56)]), bt242.2.1, bt242.2.2)) else (none))) else (if bt233.1 = 2 then ((spec_l1Below.f x1000 bt233.2.1 bt233.2.2 256).bind fun bt248 => ((spec_l1Below.f x1000 bt248.2.1 bt248.2.2 256).bind fun bt251 => ((spec_l8DrawOne.f k (([(bt248.1) % 256, (bt251.1) % 256] : List Int))).bind fun bt257 => (if 0 < (x206001.length : Int) then (some (x206000, (x206001.set (0 : Int).toNat (⟨bt257.1, bt257.2.1, bt257.2.2.1, bt257.2.2.2.1, bt257.2.2.2.2⟩ : S52)), x206002, bt251.2.1, bt251.2.2)) else (none))))) else (some (x206000, x206001, x206002, bt233.2.1, bt233.2.2)))))))
def spec_l27DrawPart.f (k : Nat) (s0_0 : List Int) (s0_1 : Int) (s0_2 : Int) : Option (ByteArray × (List (S52)) × (List (S56)) × Int × Int) := (spec_l1Pick.f s0_0 s0_1 s0_2 (([(⟨#[109, 97, 105, 110]⟩ : ByteArray), (⟨#[108, 111, 111, 112]⟩ : ByteArray), (⟨#[101, 110, 100]⟩ : ByteArray), (⟨#[103, 101, 116]⟩ : ByteArray)] : List ByteArray))).bind fun bt202 => (spec_l27DrawPart.l0 k 0 s0_0 bt202.2.1 bt202.2.2 bt202.1 ([] : List (S52)) ([] : List (S56)))
theorem spec_l27DrawPart.mono_l : ∀ k, (∀ y0 y1 y2 y3 y4 y5 y6, LeO (spec_l27DrawPart.l0 k y0 y1 y2 y3 y4 y5 y6) (spec_l27DrawPart.l0 (k + 1) y0 y1 y2 y3 y4 y5 y6))
 | 0 => fun _ _ _ _ _ _ _ r h => by simp [spec_l27DrawPart.l0] at h
 | k + 1 => by
  have ih0 := spec_l27DrawPart.mono_l k
  ·intro y0 y1 y2 y3 y4 y5 y6
   unfold spec_l27DrawPart.l0
   repeat' first
   | (with_reducible exact ih0 _ _ _ _ _ _ _)
   | (with_reducible exact spec_l8DrawIns.mono _ _ _ _)
   | (with_reducible exact spec_l8DrawOne.mono _ _)
   | (with_reducible exact LeO.refl _)
   | (with_reducible exact LeO.none _)
   | (with_reducible refine LeO.ite ?_ ?_)
   | (with_reducible refine LeO.bind ?_ (fun _ => ?_))
   | exact ih0 _ _ _ _ _ _ _
   | exact spec_l8DrawIns.mono _ _ _ _
   | exact spec_l8DrawOne.mono _ _
   | exact LeO.none _
   | refine LeO.ite ?_ ?_
   | refine LeO.bind ?_ (fun _ => ?_)
theorem spec_l27DrawPart.mono : ∀ a0 a1 a2 k, LeO (spec_l27DrawPart.f k a0 a1 a2) (spec_l27DrawPart.f (k + 1) a0 a1 a2) := by
 intro a0 a1 a2 k
 have ih0 := spec_l27DrawPart.mono_l k
 unfold spec_l27DrawPart.f
 repeat' first
   | (with_reducible exact ih0 _ _ _ _ _ _ _)
   | (with_reducible exact spec_l8DrawIns.mono _ _ _ _)
   | (with_reducible exact spec_l8DrawOne.mono _ _)
   | (with_reducible exact LeO.refl _)
   | (with_reducible exact LeO.none _)
   | (with_reducible refine LeO.ite ?_ ?_)
   | (with_reducible refine LeO.bind ?_ (fun _ => ?_))
   | exact ih0 _ _ _ _ _ _ _
   | exact spec_l8DrawIns.mono _ _ _ _
   | exact spec_l8DrawOne.mono _ _
   | exact LeO.none _
   | refine LeO.ite ?_ ?_
   | refine LeO.bind ?_ (fun _ => ?_)
def spec_l27DrawPart.T8 : Bool × List (List Nat × List Nat) := (true, [([], []), ([0], [0]), ([], []), ([], []), ([], []), ([3, 4], [3, 4]), ([2, 5], [2, 5]), ([6], [6]), ([1, 7, 5], [1, 7]), ([0, 1, 2, 3, 4, 5, 6, 7, 8], []), ([9, 8, 8, 0, 1, 2, 3, 4, 5, 6, 7, 8], [8, 9])])
def spec_l27DrawPart.B8 : List Nat := [0, 1, 0, 0, 0, 24, 60, 124, 255, 511, 1023]
theorem spec_l27DrawPart.tab8 : rtab .any (opsOf Try.f104 8) = spec_l27DrawPart.T8 := by kernel_rfl
theorem spec_l27DrawPart.bits8 : waitsOk spec_l27DrawPart.T8.2 spec_l27DrawPart.B8 = true := by kernel_rfl
def spec_l27DrawPart.T13 : Bool × List (List Nat × List Nat) := (true, [([], []), ([0], [0]), ([], []), ([2], [2]), ([3], [3]), ([4], [4]), ([5], [5]), ([1, 6, 3], [1, 6]), ([0, 1, 2, 3, 4, 5, 6, 7], []), ([8, 7, 7, 0, 1, 2, 3, 4, 5, 6, 7], [7, 8])])
def spec_l27DrawPart.B13 : List Nat := [0, 1, 0, 4, 12, 28, 60, 127, 255, 511]
theorem spec_l27DrawPart.tab13 : rtab .any (opsOf Try.f104 13) = spec_l27DrawPart.T13 := by kernel_rfl
theorem spec_l27DrawPart.bits13 : waitsOk spec_l27DrawPart.T13.2 spec_l27DrawPart.B13 = true := by kernel_rfl
def spec_l27DrawPart.T15 : Bool × List (List Nat × List Nat) := (true, [([], []), ([0], [0]), ([], []), ([2], [2]), ([3], [3]), ([], []), ([5, 3], [5]), ([6], [6]), ([4, 7], [4, 7]), ([8, 6], [8]), ([1, 0, 1, 2, 3, 4, 5, 6, 7, 8, 9], [1]), ([10, 9, 9, 0, 1, 2, 3, 4, 5, 6, 7, 8, 9], [9, 10])])
def spec_l27DrawPart.B15 : List Nat := [0, 1, 0, 4, 12, 0, 44, 108, 252, 508, 1023, 2047]
theorem spec_l27DrawPart.tab15 : rtab .any (opsOf Try.f104 15) = spec_l27DrawPart.T15 := by kernel_rfl
theorem spec_l27DrawPart.bits15 : waitsOk spec_l27DrawPart.T15.2 spec_l27DrawPart.B15 = true := by kernel_rfl
set_option maxHeartbeats 8000000 in
set_option maxRecDepth 100000 in
theorem spec_l27DrawPart.calls (k : Nat) (g : Nat) (s0_0 : List Int) (s0_1 : Int) (s0_2 : Int) (r1 : ByteArray) (r2 : List (S52)) (r3 : List (S56)) (r4 : Int) (r5 : Int) (w0 w : World) (hI : IsS161 w0 w g s0_0 s0_1 s0_2) (hB : Below w0.heap.size w0 w) (h : spec_l27DrawPart.f k s0_0 s0_1 s0_2 = some (r1, r2, r3, r4, r5)) :
  Calls Try.prog 104 #[.pointer (some ⟨g, 0, none⟩)] w fun e w' => ∃ v1_ v2_ : Value, e = .returned (.agg #[.string r1, v1_, v2_]) ∧ Kd.R k52 52 w' w.heap.size (fun _ => True) v1_ r2 ∧ Kd.R k56 56 w' w.heap.size (fun _ => True) v2_ r3 ∧ IsS161 w0 w' g s0_0 r4 r5 ∧ Below w0.heap.size w0 w' ∧ KeepBut w w' g none := by
 have hu45 := Try.underlying45
 have hu52 := Try.underlying52
 have hu56 := Try.underlying56
 have HI0 := Aside0.mk hI
 have HK := Aside0.mk (KeepBut.refl w g none)
 have HL := Aside0.mk hB.size
 clear hI
 have HW0 := Aside0.mk hB.size
 have HB := Aside0.mk hB
 clear hB
 have H : ((spec_l1Pick.f s0_0 s0_1 s0_2 (([(⟨#[109, 97, 105, 110]⟩ : ByteArray), (⟨#[108, 111, 111, 112]⟩ : ByteArray), (⟨#[101, 110, 100]⟩ : ByteArray), (⟨#[103, 101, 116]⟩ : ByteArray)] : List ByteArray))).bind fun bt202 => (spec_l27DrawPart.l0 k 0 s0_0 bt202.2.1 bt202.2.2 bt202.1 ([] : List (S52)) ([] : List (S56)))) = some (r1, r2, r3, r4, r5) := h
 clear h
 obtain ⟨y199, hy199⟩ : ∃ y_ : List ByteArray, y_ = (([(⟨#[109, 97, 105, 110]⟩ : ByteArray), (⟨#[108, 111, 111, 112]⟩ : ByteArray), (⟨#[101, 110, 100]⟩ : ByteArray), (⟨#[103, 101, 116]⟩ : ByteArray)] : List ByteArray)) := ⟨_, rfl⟩
 replace H : ((spec_l1Pick.f s0_0 s0_1 s0_2 y199).bind fun bt202 => (spec_l27DrawPart.l0 k 0 s0_0 bt202.2.1 bt202.2.2 bt202.1 ([] : List (S52)) ([] : List (S56)))) = some (r1, r2, r3, r4, r5) := by first | (rw [hy199]; with_reducible exact H) | (have H2_ := (Option.bind_some _ _).symm.trans H; rw [hy199]; with_reducible exact H2_) | (have H2_ := (Option.bind_some _ _).symm.trans H; with_reducible exact H2_) | with_reducible exact H | (rw [hy199]; exact H) | exact H
 have Ny199 := Aside0.mk hy199
 clear hy199
 replace H := Option.bind_eq_some_iff.mp H
 obtain ⟨⟨t202, t203, t204⟩, A20, H⟩ := H
 replace H : (spec_l27DrawPart.l0 k 0 s0_0 t203 t204 t202 ([] : List (S52)) ([] : List (S56))) = some (r1, r2, r3, r4, r5) := H
 have A2 := Aside0.mk A20
 clear A20
 have H' := Aside0.mk H
 clear H
 go_enter Try.func104, Try.ntmps104
 go_wp2_with (first | ((with_reducible refine gate_dst (N := 2) rfl ?_); refine box_event ?hg (N := 2) ?hd (cs := #[.string (⟨#[]⟩ : ByteArray), .slice none 0 0, .slice none 0 0]) (t := 45) ?hr ?_; (case hd => rfl); (case hg => rfl); (case hr => first | (go_simp; done) | (go_simp; rfl)); intro gb198 hg w3 hbox hb; have n0_ := Aside0.mk (IsS161.below (zB4_0) hb); have n1_ := Aside0.mk (KeepBut.trans (zB4_1) (KeepBut.of_below hb g none) (.inl rfl)); have n2_ := Aside0.mk (below_step (zB4_2) hb); have n3_ := Aside0.mk (hbox); have n4_ := Aside0.mk ((by rw [hg]; exact (keep_size (w := w) (g := g) (row := none) (zB4_1)) : w.heap.size ≤ gb198)); have n5_ := Aside0.mk ((Nat.le_trans HW0.out (by rw [hg]; exact (keep_size (w := w) (g := g) (row := none) (zB4_1)) : w.heap.size ≤ gb198) : w0.heap.size ≤ gb198)); have n6_ := Aside0.mk ((by rw [hg]; exact Nat.ne_of_lt (IsS161.lt (show IsS161 w0 _ g s0_0 s0_1 s0_2 from zB4_0)) : g ≠ gb198)); have n7_ := Aside0.mk ((by rw [hg]; exact Nat.ne_of_gt (IsS161.lt (show IsS161 w0 _ g s0_0 s0_1 s0_2 from zB4_0)) : gb198 ≠ g)); clear HI0; clear HK; clear HB; have HI0 := n0_; have HK := n1_; have HB := n2_; have BK198 := n3_; have GW198 := n4_; have GE198 := n5_; have NB0_198 := n6_; have NB198_0 := n7_; clear n0_ n1_ n2_ n3_ n4_ n5_ n6_ n7_; clear hb hbox hg) | ((with_reducible refine gate_dst (N := 7) rfl ?_); refine Kd.R_lit Kd.string _ 9 ?hg (N := 7) ?hd (xs := ([(⟨#[109, 97, 105, 110]⟩ : ByteArray), (⟨#[108, 111, 111, 112]⟩ : ByteArray), (⟨#[101, 110, 100]⟩ : ByteArray), (⟨#[103, 101, 116]⟩ : ByteArray)] : List ByteArray)) (inner := [.string (⟨#[109, 97, 105, 110]⟩ : ByteArray), .string (⟨#[108, 111, 111, 112]⟩ : ByteArray), .string (⟨#[101, 110, 100]⟩ : ByteArray), .string (⟨#[103, 101, 116]⟩ : ByteArray)]) (ok := fun _ => True) (okp := fun _ => True) ?hr ?hp (fun _ hk => hk) trivial (Below.refl _ _) (Nat.le_refl _) (by simp) ?_; (case hd => rfl); (case hg => rfl); (case hr => first | (go_simp; done) | (go_simp; rfl)); (case hp => exact (Reps.one (show Kd.M Kd.string _ _ _ (⟨#[109, 97, 105, 110]⟩ : ByteArray) [.string (⟨#[109, 97, 105, 110]⟩ : ByteArray)] from rfl) (Reps.one (show Kd.M Kd.string _ _ _ (⟨#[108, 111, 111, 112]⟩ : ByteArray) [.string (⟨#[108, 111, 111, 112]⟩ : ByteArray)] from rfl) (Reps.one (show Kd.M Kd.string _ _ _ (⟨#[101, 110, 100]⟩ : ByteArray) [.string (⟨#[101, 110, 100]⟩ : ByteArray)] from rfl) (Reps.one (show Kd.M Kd.string _ _ _ (⟨#[103, 101, 116]⟩ : ByteArray) [.string (⟨#[103, 101, 116]⟩ : ByteArray)] from rfl) (Reps.none _ _)))))); intro v200 w4 ho5 hb hg_ hnew_; clear hg_ hnew_; (first | rw [← Ny199.out] at ho5 | (simp only [Int.reduceToNat] at ho5; rw [← Ny199.out] at ho5)); have n0_ := Aside0.mk (Kd.R_lower ho5 (keep_size (w := w) (g := g) (row := none) (zB4_3))); have n1_ := Aside0.mk (IsS161.below (zB4_4) hb); have n2_ := Aside0.mk (zb4 BK198.out hb); have n3_ := Aside0.mk (KeepBut.trans (zB4_3) (KeepBut.of_below hb g none) (.inl rfl)); have n4_ := Aside0.mk (below_step (zB4_5) hb); clear HI0; clear BK198; clear HK; clear HB; have HO201 := n0_; have HI0 := n1_; have BK198 := n2_; have HK := n3_; have HB := n4_; clear n0_ n1_ n2_ n3_ n4_; clear hb ho5; obtain ⟨Ao6, co6, eo6⟩ := Kd.R_slice HO201.out; subst eo6) | ((with_reducible refine gate_callee (f := 105) rfl ?_); refine goesL_ (some 8) rfl rfl Try.func105 (by kernel_rfl) rfl #[.pointer (some ⟨g, 0, none⟩), .slice Ao6 y199.length co6] rfl zT4 ?_; (with_reducible refine (spec_l1Pick.calls g s0_0 s0_1 s0_2 _ _ y199 t202 t203 t204 w0 _ ?side1 ?side2 ?side3 ?side4 ?side5 A2.out).mono ?_); (case side1 => repeat (first | (with_reducible first | exact HI0.out | apply IsS161.alloc | apply IsS161.drewN | apply IsS161.drew | apply IsS161.set_1 | apply IsS161.set_2 | refine IsS161.far ?_ NB0_198.out _) | exact HI0.out)); (case side2 => repeat (first | (with_reducible first | exact HB.out | apply below_alloc | apply pw_below_drewN | apply below_drew1 | refine below_set ?_ (IsS161.ge HI0.out) | refine below_set ?_ GE198.out) | exact HB.out)); (case side3 => exact zC4 (Kd.R_reads' HO201.out).2.2); (case side4 => exact (Kd.R_reads' HO201.out).2.1); (case side5 => exact far_slice (IsS161.own_ne HI0.out HO201.out (by decide))); rintro e w7 ⟨rfl, hi, hb, hk⟩; refine ⟨_, rfl, ?_⟩; have n0_ := Aside0.mk (zh4 hk BK198.out NB198_0.out); have n1_ := Aside0.mk (Kd.R_mono (Kd.R_keep (IsS161.apart (show IsS161 w0 _ g s0_0 s0_1 s0_2 from zB4_4) (zR4 HO201.out) (by decide)) hk (fun _ h => h.2)) (fun _ h => h.1)); have n2_ := Aside0.mk (KeepBut.trans (zB4_3) hk (.inl rfl)); have n3_ := Aside0.mk (hb); have n4_ := Aside0.mk (hi); clear BK198; clear HO201; clear HK; clear HB; clear HI0; have BK198 := n0_; have HO201 := n1_; have HK := n2_; have HB := n3_; have HI0 := n4_; clear n0_ n1_ n2_ n3_ n4_; (try clear hb); (try clear hb2); (try clear hk); (try clear hi)) | ((with_reducible refine gate_dst (N := 3) rfl ?_); refine box_event ?hg (N := 3) ?hd (cs := #[.string (⟨#[]⟩ : ByteArray), .slice none 0 0, .slice none 0 0]) (t := 45) ?hr ?_; (case hd => rfl); (case hg => rfl); (case hr => first | (go_simp; done) | (go_simp; rfl)); intro gb205 hg w8 hbox hb; have n0_ := Aside0.mk (Kd.R_below (zR4 HO201.out) hb); have n1_ := Aside0.mk (IsS161.below (zB4_4) hb); have n2_ := Aside0.mk (zb4 BK198.out hb); have n3_ := Aside0.mk (KeepBut.trans (zB4_3) (KeepBut.of_below hb g none) (.inl rfl)); have n4_ := Aside0.mk (below_step (zB4_5) hb); have n5_ := Aside0.mk (hbox); have n6_ := Aside0.mk ((by rw [hg]; exact (keep_size (w := w) (g := g) (row := none) (zB4_3)) : w.heap.size ≤ gb205)); have n7_ := Aside0.mk ((Nat.le_trans HW0.out (by rw [hg]; exact (keep_size (w := w) (g := g) (row := none) (zB4_3)) : w.heap.size ≤ gb205) : w0.heap.size ≤ gb205)); have n8_ := Aside0.mk ((zn4 BK198.out hg : gb198 ≠ gb205)); have n9_ := Aside0.mk ((zm4 BK198.out hg : gb205 ≠ gb198)); have n10_ := Aside0.mk ((by rw [hg]; exact Nat.ne_of_lt (IsS161.lt (show IsS161 w0 _ g s0_0 t203 t204 from zB4_4)) : g ≠ gb205)); have n11_ := Aside0.mk ((by rw [hg]; exact Nat.ne_of_gt (IsS161.lt (show IsS161 w0 _ g s0_0 t203 t204 from zB4_4)) : gb205 ≠ g)); clear HO201; clear HI0; clear BK198; clear HK; clear HB; have HO201 := n0_; have HI0 := n1_; have BK198 := n2_; have HK := n3_; have HB := n4_; have BK205 := n5_; have GW205 := n6_; have GE205 := n7_; have NB198_205 := n8_; have NB205_198 := n9_; have NB0_205 := n10_; have NB205_0 := n11_; clear n0_ n1_ n2_ n3_ n4_ n5_ n6_ n7_ n8_ n9_ n10_ n11_; clear hb hbox hg; have hnb9 := NB205_198.out; have hnc9 := NB198_205.out; have hnb10 := NB205_0.out; have hnc10 := NB0_205.out; obtain ⟨hcz11_0, hcz11_1, hcz11_2, hfz11_0, hfz11_1, hfz11_2⟩ := zc4_3 (w := w8) BK205.out))
 go_loopg [4] k (fun kq v4 w' => ∃ (x4_1 : Int) (x1001_1 : Int) (x1002_1 : Int) (x206001_1 : List (S52)) (x206002_1 : List (S56)) (u206001 : Value) (u206002 : Value), v4 = .int .i64 x4_1 ∧ Aside0 (spec_l27DrawPart.l0 kq x4_1 s0_0 x1001_1 x1002_1 t202 x206001_1 x206002_1 = some (r1, r2, r3, r4, r5)) ∧ Aside0 (kq ≤ k) ∧ Aside0 (Kd.R k52 52 w' w.heap.size (fun _ => True) u206001 x206001_1) ∧ Aside0 (Kd.R k56 56 w' w.heap.size (fun _ => True) u206002 x206002_1) ∧ Aside0 (w'.heap[gb198]? = some (.cells #[.string (⟨#[]⟩ : ByteArray), (.slice none 0 0), (.slice none 0 0)] 45 (0, 0))) ∧ Aside0 (w'.heap[gb205]? = some (.cells #[.string t202, u206001, u206002] 45 (0, 0))) ∧ Aside0 (IsS161 w0 w' g s0_0 x1001_1 x1002_1) ∧ Aside0 (KeepBut w w' g none) ∧ Aside0 (Below w0.heap.size w0 w'))
 case atStart => exact ⟨(0), (t203), (t204), (([] : List (S52))), (([] : List (S56))), (.slice none 0 0), (.slice none 0 0), (by first | rfl | (simp; done) | (simp [*]; done)), H', ⟨Nat.le_refl _⟩, ⟨by first | exact Kd.R_nil _ _ _ _ _ | exact Kd.N_nil _ _ _ _ _ | exact Kd.V_nil _ _ _ _ _ | exact Kd.Q_nil _ _ _ _ _ | exact Kd.S_nil _ _ _ _ _⟩, ⟨by first | exact Kd.R_nil _ _ _ _ _ | exact Kd.N_nil _ _ _ _ _ | exact Kd.V_nil _ _ _ _ _ | exact Kd.Q_nil _ _ _ _ _ | exact Kd.S_nil _ _ _ _ _⟩, ⟨by refine zP4 ?_; refine blk_far ?_ NB198_205.out _; refine zP4 ?_; refine blk_far ?_ NB198_205.out _; refine zP4 ?_; refine blk_far ?_ NB198_205.out _; refine zP4 ?_; exact BK198.out⟩, ⟨by refine zP4 ?_; refine blk_put (cs := #[.string t202, .slice none 0 0, .slice none 0 0]) ?_ 2 _ rfl; refine zP4 ?_; refine blk_put (cs := #[.string t202, .slice none 0 0, .slice none 0 0]) ?_ 1 _ rfl; refine zP4 ?_; refine blk_put (cs := #[.string (⟨#[]⟩ : ByteArray), .slice none 0 0, .slice none 0 0]) ?_ 0 _ rfl; refine zP4 ?_; exact BK205.out⟩, ⟨zB4_6⟩, ⟨zB4_7⟩, ⟨zB4_8⟩⟩
 case round =>
  clear H'
  try clear c1
  try clear p2
  try clear c9
  try clear c10
  try clear hcz11_0
  try clear hcz11_1
  try clear hcz11_2
  try clear hfz11_0
  try clear hfz11_1
  try clear hfz11_2
  obtain ⟨x4_1, x1001_1, x1002_1, x206001_1, x206002_1, u206001, u206002, rfl, HA, HK1, HO_206001, HO_206002, BK198, BK205, HI0, HK, HB⟩ := hrel
  cases gk with
  | zero => exact absurd HA.out (by simp [spec_l27DrawPart.l0])
  | succ k1 =>
   have H := HA.out
   clear HA
   simp only [spec_l27DrawPart.l0] at H
   replace H := Option.bind_eq_some_iff.mp H
   obtain ⟨⟨t206, t207, t208⟩, A120, H⟩ := H
   replace H : (if x4_1 < (wrap64 (1 + t206)) then ((spec_l8DrawIns.f k1 s0_0 t207 t208).bind fun bt209 => (if x206001_1.length < 3518437208883 then ((some (x206001_1 ++ [(⟨bt209.1, bt209.2.1, bt209.2.2.1, bt209.2.2.2.1, bt209.2.2.2.2.1⟩ : S52)] : List (S52))).bind fun y217 => ((spec_l27Goes.f bt209.1 bt209.2.1 bt209.2.2.1 bt209.2.2.2.1 bt209.2.2.2.2.1).bind fun t220 => (if t220 = true then ((spec_l1Once.f s0_0 bt209.2.2.2.2.2.1 bt209.2.2.2.2.2.2 2).bind fun bt221 => (if bt221.1 = true then ((spec_l1Pick.f s0_0 bt221.2.1 bt221.2.2 (([(⟨#[109, 97, 105, 110]⟩ : ByteArray), (⟨#[108, 111, 111, 112]⟩ : ByteArray), (⟨#[101, 110, 100]⟩ : ByteArray)] : List ByteArray))).bind fun bt227 => (if x206002_1.length < 5864062014805 then (spec_l27DrawPart.l0 k1 (wrap64 (x4_1 + 1)) s0_0 bt227.2.1 bt227.2.2 t202 y217 (x206002_1 ++ [(⟨x4_1, bt227.1⟩ : S56)])) else (none))) else (spec_l27DrawPart.l0 k1 (wrap64 (x4_1 + 1)) s0_0 bt221.2.1 bt221.2.2 t202 y217 x206002_1))) else (spec_l27DrawPart.l0 k1 (wrap64 (x4_1 + 1)) s0_0 bt209.2.2.2.2.2.1 bt209.2.2.2.2.2.2 t202 y217 x206002_1)))) else (none))) else ((spec_l1Below.f s0_0 t207 t208 14).bind fun bt233 => (if bt233.1 = 0 then ((spec_l1Pick.f s0_0 bt233.2.1 bt233.2.2 (([(⟨#[]⟩ : ByteArray), (⟨#[97, 98, 99, 100, 101, 102, 103, 104, 105]⟩ : ByteArray), (⟨#[97, 49]⟩ : ByteArray)] : List ByteArray))).bind fun bt239 => (some (bt239.1, x206001_1, x206002_1, bt239.2.1, bt239.2.2))) else (if bt233.1 = 1 then ((spec_l1Below.f s0_0 bt233.2.1 bt233.2.2 4).bind fun bt242 => (if x206002_1.length < 5864062014805 then (some (t202, x206001_1, (x206002_1 ++ [(⟨wrap64 (bt242.1 - 1), (⟨#[101, 110, 100]⟩ : ByteArray)⟩ : S56)]), bt242.2.1, bt242.2.2)) else (none))) else (if bt233.1 = 2 then ((spec_l1Below.f s0_0 bt233.2.1 bt233.2.2 256).bind fun bt248 => ((spec_l1Below.f s0_0 bt248.2.1 bt248.2.2 256).bind fun bt251 => ((spec_l8DrawOne.f k1 (([(bt248.1) % 256, (bt251.1) % 256] : List Int))).bind fun bt257 => (if 0 < (x206001_1.length : Int) then (some (t202, (x206001_1.set (0 : Int).toNat (⟨bt257.1, bt257.2.1, bt257.2.2.1, bt257.2.2.2.1, bt257.2.2.2.2⟩ : S52)), x206002_1, bt251.2.1, bt251.2.2)) else (none))))) else (some (t202, x206001_1, x206002_1, bt233.2.1, bt233.2.2))))))) = some (r1, r2, r3, r4, r5) := H
   have A12 := Aside0.mk A120
   clear A120
   by_cases c13 : x4_1 < (wrap64 (1 + t206))
   ·rw [if_pos c13] at H
    have c13b0 : decide (x4_1 < (wrap64 (1 + t206))) = true := decide_eq_true c13
    clear c13
    replace H := Option.bind_eq_some_iff.mp H
    obtain ⟨⟨t209, t210, t211, t212, t213, t214, t215⟩, A140, H⟩ := H
    replace H : (if x206001_1.length < 3518437208883 then ((some (x206001_1 ++ [(⟨t209, t210, t211, t212, t213⟩ : S52)] : List (S52))).bind fun y217 => ((spec_l27Goes.f t209 t210 t211 t212 t213).bind fun t220 => (if t220 = true then ((spec_l1Once.f s0_0 t214 t215 2).bind fun bt221 => (if bt221.1 = true then ((spec_l1Pick.f s0_0 bt221.2.1 bt221.2.2 (([(⟨#[109, 97, 105, 110]⟩ : ByteArray), (⟨#[108, 111, 111, 112]⟩ : ByteArray), (⟨#[101, 110, 100]⟩ : ByteArray)] : List ByteArray))).bind fun bt227 => (if x206002_1.length < 5864062014805 then (spec_l27DrawPart.l0 k1 (wrap64 (x4_1 + 1)) s0_0 bt227.2.1 bt227.2.2 t202 y217 (x206002_1 ++ [(⟨x4_1, bt227.1⟩ : S56)])) else (none))) else (spec_l27DrawPart.l0 k1 (wrap64 (x4_1 + 1)) s0_0 bt221.2.1 bt221.2.2 t202 y217 x206002_1))) else (spec_l27DrawPart.l0 k1 (wrap64 (x4_1 + 1)) s0_0 t214 t215 t202 y217 x206002_1)))) else (none)) = some (r1, r2, r3, r4, r5) := H
    have A14 := Aside0.mk A140
    clear A140
    by_cases c15 : x206001_1.length < 3518437208883
    rotate_left
    ·rw [if_neg c15] at H
     exact absurd H (by simp)
    rw [if_pos c15] at H
    have LMc15 := Aside0.mk c15
    clear c15
    obtain ⟨y217, hy217⟩ : ∃ y_ : List (S52), y_ = (x206001_1 ++ [(⟨t209, t210, t211, t212, t213⟩ : S52)]) := ⟨_, rfl⟩
    replace H : ((spec_l27Goes.f t209 t210 t211 t212 t213).bind fun t220 => (if t220 = true then ((spec_l1Once.f s0_0 t214 t215 2).bind fun bt221 => (if bt221.1 = true then ((spec_l1Pick.f s0_0 bt221.2.1 bt221.2.2 (([(⟨#[109, 97, 105, 110]⟩ : ByteArray), (⟨#[108, 111, 111, 112]⟩ : ByteArray), (⟨#[101, 110, 100]⟩ : ByteArray)] : List ByteArray))).bind fun bt227 => (if x206002_1.length < 5864062014805 then (spec_l27DrawPart.l0 k1 (wrap64 (x4_1 + 1)) s0_0 bt227.2.1 bt227.2.2 t202 y217 (x206002_1 ++ [(⟨x4_1, bt227.1⟩ : S56)])) else (none))) else (spec_l27DrawPart.l0 k1 (wrap64 (x4_1 + 1)) s0_0 bt221.2.1 bt221.2.2 t202 y217 x206002_1))) else (spec_l27DrawPart.l0 k1 (wrap64 (x4_1 + 1)) s0_0 t214 t215 t202 y217 x206002_1))) = some (r1, r2, r3, r4, r5) := by first | (rw [hy217]; with_reducible exact H) | (have H2_ := (Option.bind_some _ _).symm.trans H; rw [hy217]; with_reducible exact H2_) | (have H2_ := (Option.bind_some _ _).symm.trans H; with_reducible exact H2_) | with_reducible exact H | (rw [hy217]; exact H) | exact H
    have Ny217 := Aside0.mk hy217
    clear hy217
    replace H := Option.bind_eq_some_iff.mp H
    obtain ⟨t220, A160, H⟩ := H
    replace H : (if t220 = true then ((spec_l1Once.f s0_0 t214 t215 2).bind fun bt221 => (if bt221.1 = true then ((spec_l1Pick.f s0_0 bt221.2.1 bt221.2.2 (([(⟨#[109, 97, 105, 110]⟩ : ByteArray), (⟨#[108, 111, 111, 112]⟩ : ByteArray), (⟨#[101, 110, 100]⟩ : ByteArray)] : List ByteArray))).bind fun bt227 => (if x206002_1.length < 5864062014805 then (spec_l27DrawPart.l0 k1 (wrap64 (x4_1 + 1)) s0_0 bt227.2.1 bt227.2.2 t202 y217 (x206002_1 ++ [(⟨x4_1, bt227.1⟩ : S56)])) else (none))) else (spec_l27DrawPart.l0 k1 (wrap64 (x4_1 + 1)) s0_0 bt221.2.1 bt221.2.2 t202 y217 x206002_1))) else (spec_l27DrawPart.l0 k1 (wrap64 (x4_1 + 1)) s0_0 t214 t215 t202 y217 x206002_1)) = some (r1, r2, r3, r4, r5) := H
    have A16 := Aside0.mk A160
    clear A160
    by_cases c17 : t220 = true
    rotate_left
    ·replace c17 := Bool.eq_false_iff.mpr c17
     subst c17
     have H1 : (spec_l27DrawPart.l0 k1 (wrap64 (x4_1 + 1)) s0_0 t214 t215 t202 y217 x206002_1) = some (r1, r2, r3, r4, r5) := by rw [if_neg (show ¬ (false = true) by decide)] at H; exact H
     clear H
     have H := H1
     clear H1
     have H' := Aside0.mk H
     clear H
     go_wp2_with (first | ((with_reducible refine gate_callee (f := 123) rfl ?_); refine goesL_ (some 12) rfl rfl Try.func123 (by kernel_rfl) rfl #[.pointer (some ⟨g, 0, none⟩), .int .i64 5] rfl zT4 ?_; (with_reducible refine (spec_l1Below.calls g s0_0 x1001_1 x1002_1 5 t206 t207 t208 w0 _ ?side1 ?side2 A12.out).mono ?_); (case side1 => repeat (first | (with_reducible first | exact HI0.out | apply IsS161.alloc | apply IsS161.drewN | apply IsS161.drew | apply IsS161.set_1 | apply IsS161.set_2 | refine IsS161.far ?_ NB0_198.out _ | refine IsS161.far ?_ NB0_205.out _) | exact HI0.out)); (case side2 => repeat (first | (with_reducible first | exact HB.out | apply below_alloc | apply pw_below_drewN | apply below_drew1 | refine below_set ?_ (IsS161.ge HI0.out) | refine below_set ?_ GE198.out | refine below_set ?_ GE205.out) | exact HB.out)); rintro e w62 ⟨rfl, hi, hb, hk⟩; refine ⟨_, rfl, ?_⟩; have n0_ := Aside0.mk (Kd.R_mono (Kd.R_keep (IsS161.apart (show IsS161 w0 _ g s0_0 x1001_1 x1002_1 from zB4_6) (zR4 HO_206001.out) (by decide)) hk (fun _ h => h.2)) (fun _ h => h.1)); have n1_ := Aside0.mk (Kd.R_mono (Kd.R_keep (IsS161.apart (show IsS161 w0 _ g s0_0 x1001_1 x1002_1 from zB4_6) (zR4 HO_206002.out) (by decide)) hk (fun _ h => h.2)) (fun _ h => h.1)); have n2_ := Aside0.mk (zh4 hk BK198.out NB198_0.out); have n3_ := Aside0.mk (zh4 hk BK205.out NB205_0.out); have n4_ := Aside0.mk (KeepBut.trans (zB4_7) hk (.inl rfl)); have n5_ := Aside0.mk (hb); have n6_ := Aside0.mk (hi); clear HO_206001; clear HO_206002; clear BK198; clear BK205; clear HK; clear HB; clear HI0; have HO_206001 := n0_; have HO_206002 := n1_; have BK198 := n2_; have BK205 := n3_; have HK := n4_; have HB := n5_; have HI0 := n6_; clear n0_ n1_ n2_ n3_ n4_ n5_ n6_; (try clear hb); (try clear hb2); (try clear hk); (try clear hi)) | ((with_reducible refine gate_callee (f := 156) rfl ?_); refine goesL_ (some 18) rfl rfl Try.func156 (by kernel_rfl) rfl #[.pointer (some ⟨g, 0, none⟩)] rfl zT4 ?_; (with_reducible refine (spec_l8DrawIns.calls k1 g s0_0 t207 t208 t209 t210 t211 t212 t213 t214 t215 w0 _ ?side1 ?side2 A14.out).mono ?_); (case side1 => repeat (first | (with_reducible first | exact HI0.out | apply IsS161.alloc | apply IsS161.drewN | apply IsS161.drew | apply IsS161.set_1 | apply IsS161.set_2 | refine IsS161.far ?_ NB0_198.out _ | refine IsS161.far ?_ NB0_205.out _) | exact HI0.out)); (case side2 => repeat (first | (with_reducible first | exact HB.out | apply below_alloc | apply pw_below_drewN | apply below_drew1 | refine below_set ?_ (IsS161.ge HI0.out) | refine below_set ?_ GE198.out | refine below_set ?_ GE205.out) | exact HB.out)); rintro e w63 ⟨rfl, hi, hb, hk⟩; refine ⟨_, rfl, ?_⟩; have n0_ := Aside0.mk (Kd.R_mono (Kd.R_keep (IsS161.apart (show IsS161 w0 _ g s0_0 t207 t208 from zB4_6) (zR4 HO_206001.out) (by decide)) hk (fun _ h => h.2)) (fun _ h => h.1)); have n1_ := Aside0.mk (Kd.R_mono (Kd.R_keep (IsS161.apart (show IsS161 w0 _ g s0_0 t207 t208 from zB4_6) (zR4 HO_206002.out) (by decide)) hk (fun _ h => h.2)) (fun _ h => h.1)); have n2_ := Aside0.mk (zh4 hk BK198.out NB198_0.out); have n3_ := Aside0.mk (zh4 hk BK205.out NB205_0.out); have n4_ := Aside0.mk (KeepBut.trans (zB4_7) hk (.inl rfl)); have n5_ := Aside0.mk (hb); have n6_ := Aside0.mk (hi); clear HO_206001; clear HO_206002; clear BK198; clear BK205; clear HK; clear HB; clear HI0; have HO_206001 := n0_; have HO_206002 := n1_; have BK198 := n2_; have BK205 := n3_; have HK := n4_; have HB := n5_; have HI0 := n6_; clear n0_ n1_ n2_ n3_ n4_ n5_ n6_; (try clear hb); (try clear hb2); (try clear hk); (try clear hi)) | ((with_reducible refine gate_dst (N := 5) rfl ?_); refine box_event ?hg (N := 5) ?hd (cs := #[.int .i64 0, .int .i64 0, .int .i64 0, .int .i64 0, .int .i64 0]) (t := 52) ?hr ?_; (case hd => rfl); (case hg => rfl); (case hr => first | (go_simp; done) | (go_simp; rfl)); intro gb216 hg w64 hbox hb; have n0_ := Aside0.mk (Kd.R_below (Kd.R_elderB (zR4 HO_206001.out) gb216 (Nat.le_of_eq hg.symm)) hb); have n1_ := Aside0.mk (Kd.R_below (zR4 HO_206002.out) hb); have n2_ := Aside0.mk (zb4 BK198.out hb); have n3_ := Aside0.mk (zb4 BK205.out hb); have n4_ := Aside0.mk (IsS161.below (zB4_6) hb); have n5_ := Aside0.mk (KeepBut.trans (zB4_7) (KeepBut.of_below hb g none) (.inl rfl)); have n6_ := Aside0.mk (below_step (zB4_8) hb); have n7_ := Aside0.mk (hbox); have n8_ := Aside0.mk ((by rw [hg]; exact (keep_size (w := w) (g := g) (row := none) (zB4_7)) : w.heap.size ≤ gb216)); have n9_ := Aside0.mk ((Nat.le_trans HW0.out (by rw [hg]; exact (keep_size (w := w) (g := g) (row := none) (zB4_7)) : w.heap.size ≤ gb216) : w0.heap.size ≤ gb216)); have n10_ := Aside0.mk ((zn4 BK198.out hg : gb198 ≠ gb216)); have n11_ := Aside0.mk ((zm4 BK198.out hg : gb216 ≠ gb198)); have n12_ := Aside0.mk ((zn4 BK205.out hg : gb205 ≠ gb216)); have n13_ := Aside0.mk ((zm4 BK205.out hg : gb216 ≠ gb205)); have n14_ := Aside0.mk ((by rw [hg]; exact Nat.ne_of_lt (IsS161.lt (show IsS161 w0 _ g s0_0 t214 t215 from zB4_6)) : g ≠ gb216)); have n15_ := Aside0.mk ((by rw [hg]; exact Nat.ne_of_gt (IsS161.lt (show IsS161 w0 _ g s0_0 t214 t215 from zB4_6)) : gb216 ≠ g)); clear HO_206001; clear HO_206002; clear BK198; clear BK205; clear HI0; clear HK; clear HB; have HO_206001 := n0_; have HO_206002 := n1_; have BK198 := n2_; have BK205 := n3_; have HI0 := n4_; have HK := n5_; have HB := n6_; have BK216 := n7_; have GW216 := n8_; have GE216 := n9_; have NB198_216 := n10_; have NB216_198 := n11_; have NB205_216 := n12_; have NB216_205 := n13_; have NB0_216 := n14_; have NB216_0 := n15_; clear n0_ n1_ n2_ n3_ n4_ n5_ n6_ n7_ n8_ n9_ n10_ n11_ n12_ n13_ n14_ n15_; clear hb hbox hg; have hnb65 := NB216_198.out; have hnc65 := NB198_216.out; have hnb66 := NB216_205.out; have hnc66 := NB205_216.out; have hnb67 := NB216_0.out; have hnc67 := NB0_216.out; obtain ⟨hcz68_0, hcz68_1, hcz68_2, hcz68_3, hcz68_4, hfz68_0, hfz68_1, hfz68_2, hfz68_3, hfz68_4⟩ := zc4_5 (w := w64) BK216.out; have hnb69 := NB205_198.out; have hnc69 := NB198_205.out; have hnb70 := NB205_0.out; have hnc70 := NB0_205.out; obtain ⟨hcz71_0, hcz71_1, hcz71_2, hfz71_0, hfz71_1, hfz71_2⟩ := zc4_3 (w := w64) BK205.out) | ((with_reducible refine gate_builtin (b := .append) (xs := #[.tmp 20, .tmp 22]) rfl ?_); at_builtin; refine Kd.R_append k52 w.heap.size rfl (.tmp 20) (.tmp 22) 42 52 (.agg #[(.int .i64 0), (.int .i64 0), (.int .i64 0), (.int .i64 0), (.int .i64 0)]) 40 rfl Try.underlying42 info52 rfl (by decide) (by omega) u206001 x206001_1 (⟨t209, t210, t211, t212, t213⟩ : S52) [.int .i64 t209, .int .i64 t210, .int .i64 t211, .int .i64 t212, .int .i64 t213] (fun k_ => k_ ≠ gb216) (fun _ => False) rfl (by first | (go_simp; done) | (go_simp; rfl)) ?aP (fun _ hk => hk.elim) ?aF ?aO (Below.refl _ _) ?aS ?aL ?_; (case aP => exact k52_mkM _ _ _ (⟨t209, t210, t211, t212, t213⟩ : S52)); (case aF => exact (fun k_ hk => Kd.freshB (g := gb216) (o := .cells #[.int .i64 t209, .int .i64 t210, .int .i64 t211, .int .i64 t212, .int .i64 t213] 52 (0, 0)) (by refine zP4 ?_; refine blk_put (cs := #[.int .i64 t209, .int .i64 t210, .int .i64 t211, .int .i64 t212, .int .i64 0]) ?_ 4 _ rfl; refine zP4 ?_; refine blk_put (cs := #[.int .i64 t209, .int .i64 t210, .int .i64 t211, .int .i64 0, .int .i64 0]) ?_ 3 _ rfl; refine zP4 ?_; refine blk_put (cs := #[.int .i64 t209, .int .i64 t210, .int .i64 0, .int .i64 0, .int .i64 0]) ?_ 2 _ rfl; refine zP4 ?_; refine blk_put (cs := #[.int .i64 t209, .int .i64 0, .int .i64 0, .int .i64 0, .int .i64 0]) ?_ 1 _ rfl; refine zP4 ?_; refine blk_put (cs := #[.int .i64 0, .int .i64 0, .int .i64 0, .int .i64 0, .int .i64 0]) ?_ 0 _ rfl; refine zP4 ?_; exact BK216.out) k_ hk)); (case aO => exact (by (with_reducible repeat (first | apply Kd.R_alloc | apply Kd.R_drewN | apply Kd.R_drew)); exact Kd.R_mono (Kd.R_far (p := ⟨gb216, 4, none⟩) (Kd.R_far (p := ⟨gb216, 3, none⟩) (Kd.R_far (p := ⟨gb216, 2, none⟩) (Kd.R_far (p := ⟨gb216, 1, none⟩) (Kd.R_far (p := ⟨gb216, 0, none⟩) (Kd.R_mono HO_206001.out (fun k_ hk => (⟨hk, hk.2⟩ : _ ∧ k_ ≠ gb216))) (fun _ hk => hk.2) (.int .i64 t209)) (fun _ hk => hk.2) (.int .i64 t210)) (fun _ hk => hk.2) (.int .i64 t211)) (fun _ hk => hk.2) (.int .i64 t212)) (fun _ hk => hk.2) (.int .i64 t213)) (fun _ hk => hk.1.2))); (case aS => exact (keep_size (w := w) (g := g) (row := none) (zB4_9))); (case aL => have := LMc15.out; omega); intro v218 w72 ho hb hg hat; rw [← Ny217.out] at ho; have n0_ := Aside0.mk (Kd.R_over' (by (with_reducible repeat (first | apply Kd.R_alloc | apply Kd.R_drewN | apply Kd.R_drew)); exact (Kd.R_mono (Kd.R_far (p := ⟨gb216, 4, none⟩) (Kd.R_far (p := ⟨gb216, 3, none⟩) (Kd.R_far (p := ⟨gb216, 2, none⟩) (Kd.R_far (p := ⟨gb216, 1, none⟩) (Kd.R_far (p := ⟨gb216, 0, none⟩) (Kd.R_types HO_206002.out BK216.out (by decide)) (fun _ hk => hk.2) (.int .i64 t209)) (fun _ hk => hk.2) (.int .i64 t210)) (fun _ hk => hk.2) (.int .i64 t211)) (fun _ hk => hk.2) (.int .i64 t212)) (fun _ hk => hk.2) (.int .i64 t213)) (fun _ h_ => h_.1))) (Kd.R_typed (by (with_reducible repeat (first | apply Kd.R_alloc | apply Kd.R_drewN | apply Kd.R_drew)); exact (Kd.R_mono (Kd.R_far (p := ⟨gb216, 4, none⟩) (Kd.R_far (p := ⟨gb216, 3, none⟩) (Kd.R_far (p := ⟨gb216, 2, none⟩) (Kd.R_far (p := ⟨gb216, 1, none⟩) (Kd.R_far (p := ⟨gb216, 0, none⟩) (Kd.R_mono HO_206001.out (fun k_ hk => (⟨hk, hk.2⟩ : _ ∧ k_ ≠ gb216))) (fun _ hk => hk.2) (.int .i64 t209)) (fun _ hk => hk.2) (.int .i64 t210)) (fun _ hk => hk.2) (.int .i64 t211)) (fun _ hk => hk.2) (.int .i64 t212)) (fun _ hk => hk.2) (.int .i64 t213)) (fun _ h_ => h_.1)))) (by decide) hg); have n1_ := Aside0.mk (blk_grown (g := gb198) (o := .cells #[.string (⟨#[]⟩ : ByteArray), .slice none 0 0, .slice none 0 0] 45 (0, 0)) (by refine zP4 ?_; refine blk_far ?_ NB198_216.out _; refine zP4 ?_; refine blk_far ?_ NB198_216.out _; refine zP4 ?_; refine blk_far ?_ NB198_216.out _; refine zP4 ?_; refine blk_far ?_ NB198_216.out _; refine zP4 ?_; refine blk_far ?_ NB198_216.out _; refine zP4 ?_; exact BK198.out) hg (Kd.R_ne HO_206001.out BK198.out (by decide))); have n2_ := Aside0.mk (blk_grown (g := gb205) (o := .cells #[.string t202, u206001, u206002] 45 (0, 0)) (by refine zP4 ?_; refine blk_far ?_ NB205_216.out _; refine zP4 ?_; refine blk_far ?_ NB205_216.out _; refine zP4 ?_; refine blk_far ?_ NB205_216.out _; refine zP4 ?_; refine blk_far ?_ NB205_216.out _; refine zP4 ?_; refine blk_far ?_ NB205_216.out _; refine zP4 ?_; exact BK205.out) hg (Kd.R_ne HO_206001.out BK205.out (by decide))); have n3_ := Aside0.mk (IsS161.grown (show IsS161 w0 _ g s0_0 t214 t215 from zB4_10) hg (IsS161.own_ne HI0.out HO_206001.out (by decide))); have n4_ := Aside0.mk (blk_grown (g := gb216) (o := .cells #[.int .i64 t209, .int .i64 t210, .int .i64 t211, .int .i64 t212, .int .i64 t213] 52 (0, 0)) (by refine zP4 ?_; refine blk_put (cs := #[.int .i64 t209, .int .i64 t210, .int .i64 t211, .int .i64 t212, .int .i64 0]) ?_ 4 _ rfl; refine zP4 ?_; refine blk_put (cs := #[.int .i64 t209, .int .i64 t210, .int .i64 t211, .int .i64 0, .int .i64 0]) ?_ 3 _ rfl; refine zP4 ?_; refine blk_put (cs := #[.int .i64 t209, .int .i64 t210, .int .i64 0, .int .i64 0, .int .i64 0]) ?_ 2 _ rfl; refine zP4 ?_; refine blk_put (cs := #[.int .i64 t209, .int .i64 0, .int .i64 0, .int .i64 0, .int .i64 0]) ?_ 1 _ rfl; refine zP4 ?_; refine blk_put (cs := #[.int .i64 0, .int .i64 0, .int .i64 0, .int .i64 0, .int .i64 0]) ?_ 0 _ rfl; refine zP4 ?_; exact BK216.out) hg (Kd.R_away HO_206001.out (fun _ hk => hk.2))); have n5_ := Aside0.mk (below_weaken (zB4_11) HL.out hb); have n6_ := Aside0.mk (KeepBut.trans (zB4_9) (KeepBut.of_grown hg g) (Kd.R_base2 HO_206001.out)); have n7_ := Aside0.mk (ho); clear HO_206002; clear BK198; clear BK205; clear HI0; clear BK216; clear HB; clear HK; clear HO_206001; have HO_206002 := n0_; have BK198 := n1_; have BK205 := n2_; have HI0 := n3_; have BK216 := n4_; have HB := n5_; have HK := n6_; have HO219 := n7_; clear n0_ n1_ n2_ n3_ n4_ n5_ n6_ n7_; clear ho hb hg hat; obtain ⟨Ao73, co73, eo73⟩ := Kd.R_slice HO219.out; subst eo73; obtain ⟨hcz74_0, hcz74_1, hcz74_2, hfz74_0, hfz74_1, hfz74_2⟩ := zc4_3 (w := w72) BK205.out; obtain ⟨hcz75_0, hcz75_1, hcz75_2, hcz75_3, hcz75_4, hfz75_0, hfz75_1, hfz75_2, hfz75_3, hfz75_4⟩ := zc4_5 (w := w72) BK216.out) | ((with_reducible refine gate_callee (f := 115) rfl ?_); refine goesL_ (some 26) rfl rfl Try.func115 (by kernel_rfl) rfl #[.agg #[.int .i64 t209, .int .i64 t210, .int .i64 t211, .int .i64 t212, .int .i64 t213]] rfl zT4 ?_; (with_reducible refine (spec_l27Goes.calls t209 t210 t211 t212 t213 false _ A16.out).mono ?_); rintro e w76 ⟨rfl, hb⟩; refine ⟨_, rfl, ?_⟩; have n0_ := Aside0.mk (Kd.R_below (by (with_reducible repeat (first | apply Kd.R_alloc | apply Kd.R_drewN | apply Kd.R_drew)); exact (Kd.R_mono (Kd.R_far (p := ⟨gb205, 1, none⟩) (Kd.R_types HO_206002.out BK205.out (by decide)) (fun _ hk => hk.2) (.slice Ao73 y217.length co73)) (fun _ h_ => h_.1))) hb); have n1_ := Aside0.mk (Kd.R_below (by (with_reducible repeat (first | apply Kd.R_alloc | apply Kd.R_drewN | apply Kd.R_drew)); exact (Kd.R_mono (Kd.R_far (p := ⟨gb205, 1, none⟩) (Kd.R_types HO219.out BK205.out (by decide)) (fun _ hk => hk.2) (.slice Ao73 y217.length co73)) (fun _ h_ => h_.1))) hb); have n2_ := Aside0.mk (blk_below (g := gb198) (o := .cells #[.string (⟨#[]⟩ : ByteArray), .slice none 0 0, .slice none 0 0] 45 (0, 0)) (by refine zP4 ?_; refine blk_far ?_ NB198_205.out _; refine zP4 ?_; exact BK198.out) hb); have n3_ := Aside0.mk (blk_below (g := gb205) (o := .cells #[.string t202, .slice Ao73 y217.length co73, u206002] 45 (0, 0)) (by refine zP4 ?_; refine blk_put (cs := #[.string t202, u206001, u206002]) ?_ 1 _ rfl; refine zP4 ?_; exact BK205.out) hb); have n4_ := Aside0.mk (IsS161.below (show IsS161 w0 (w72.setCell ⟨gb205, 1, none⟩ (.slice Ao73 y217.length co73)) g s0_0 t214 t215 from zB4_10) hb); have n5_ := Aside0.mk (blk_below (g := gb216) (o := .cells #[.int .i64 t209, .int .i64 t210, .int .i64 t211, .int .i64 t212, .int .i64 t213] 52 (0, 0)) (by refine zP4 ?_; refine blk_far ?_ NB216_205.out _; refine zP4 ?_; exact BK216.out) hb); have n6_ := Aside0.mk (KeepBut.trans (zB4_9) (KeepBut.of_below hb g none) (.inl rfl)); have n7_ := Aside0.mk (below_step (zB4_11) hb); clear HO_206002; clear HO219; clear BK198; clear BK205; clear HI0; clear BK216; clear HK; clear HB; have HO_206002 := n0_; have HO219 := n1_; have BK198 := n2_; have BK205 := n3_; have HI0 := n4_; have BK216 := n5_; have HK := n6_; have HB := n7_; clear n0_ n1_ n2_ n3_ n4_ n5_ n6_ n7_; (try clear hb); (try clear hb2); (try clear hk); (try clear hi)))
     go_roundg k1
     case measure => have := HK1.out; omega
     case rel => exact ⟨(wrap64 (x4_1 + 1)), (t214), (t215), (y217), (x206002_1), (.slice Ao73 y217.length co73), (u206002), (by first | rfl | (simp; done) | (simp [*]; done)), H', ⟨by have := HK1.out; omega⟩, ⟨by (with_reducible repeat (first | apply Kd.R_alloc | apply Kd.R_drewN | apply Kd.R_drew)); exact Kd.R_mono HO219.out (fun _ hk => trivial)⟩, ⟨zR4 HO_206002.out⟩, ⟨zK4 BK198.out⟩, ⟨zK4 BK205.out⟩, ⟨zB4_10⟩, ⟨zB4_9⟩, ⟨zB4_11⟩⟩
    subst c17
    have H1 : ((spec_l1Once.f s0_0 t214 t215 2).bind fun bt221 => (if bt221.1 = true then ((spec_l1Pick.f s0_0 bt221.2.1 bt221.2.2 (([(⟨#[109, 97, 105, 110]⟩ : ByteArray), (⟨#[108, 111, 111, 112]⟩ : ByteArray), (⟨#[101, 110, 100]⟩ : ByteArray)] : List ByteArray))).bind fun bt227 => (if x206002_1.length < 5864062014805 then (spec_l27DrawPart.l0 k1 (wrap64 (x4_1 + 1)) s0_0 bt227.2.1 bt227.2.2 t202 y217 (x206002_1 ++ [(⟨x4_1, bt227.1⟩ : S56)])) else (none))) else (spec_l27DrawPart.l0 k1 (wrap64 (x4_1 + 1)) s0_0 bt221.2.1 bt221.2.2 t202 y217 x206002_1))) = some (r1, r2, r3, r4, r5) := by rw [if_pos rfl] at H; exact H
    clear H
    have H := H1
    clear H1
    replace H := Option.bind_eq_some_iff.mp H
    obtain ⟨⟨t221, t222, t223⟩, A180, H⟩ := H
    replace H : (if t221 = true then ((spec_l1Pick.f s0_0 t222 t223 (([(⟨#[109, 97, 105, 110]⟩ : ByteArray), (⟨#[108, 111, 111, 112]⟩ : ByteArray), (⟨#[101, 110, 100]⟩ : ByteArray)] : List ByteArray))).bind fun bt227 => (if x206002_1.length < 5864062014805 then (spec_l27DrawPart.l0 k1 (wrap64 (x4_1 + 1)) s0_0 bt227.2.1 bt227.2.2 t202 y217 (x206002_1 ++ [(⟨x4_1, bt227.1⟩ : S56)])) else (none))) else (spec_l27DrawPart.l0 k1 (wrap64 (x4_1 + 1)) s0_0 t222 t223 t202 y217 x206002_1)) = some (r1, r2, r3, r4, r5) := H
    have A18 := Aside0.mk A180
    clear A180
    by_cases c19 : t221 = true
    rotate_left
    ·replace c19 := Bool.eq_false_iff.mpr c19
     subst c19
     have H1 : (spec_l27DrawPart.l0 k1 (wrap64 (x4_1 + 1)) s0_0 t222 t223 t202 y217 x206002_1) = some (r1, r2, r3, r4, r5) := by rw [if_neg (show ¬ (false = true) by decide)] at H; exact H
     clear H
     have H := H1
     clear H1
     have H' := Aside0.mk H
     clear H
     go_wp2_with (first | ((with_reducible refine gate_callee (f := 123) rfl ?_); refine goesL_ (some 12) rfl rfl Try.func123 (by kernel_rfl) rfl #[.pointer (some ⟨g, 0, none⟩), .int .i64 5] rfl zT4 ?_; (with_reducible refine (spec_l1Below.calls g s0_0 x1001_1 x1002_1 5 t206 t207 t208 w0 _ ?side1 ?side2 A12.out).mono ?_); (case side1 => repeat (first | (with_reducible first | exact HI0.out | apply IsS161.alloc | apply IsS161.drewN | apply IsS161.drew | apply IsS161.set_1 | apply IsS161.set_2 | refine IsS161.far ?_ NB0_198.out _ | refine IsS161.far ?_ NB0_205.out _) | exact HI0.out)); (case side2 => repeat (first | (with_reducible first | exact HB.out | apply below_alloc | apply pw_below_drewN | apply below_drew1 | refine below_set ?_ (IsS161.ge HI0.out) | refine below_set ?_ GE198.out | refine below_set ?_ GE205.out) | exact HB.out)); rintro e w46 ⟨rfl, hi, hb, hk⟩; refine ⟨_, rfl, ?_⟩; have n0_ := Aside0.mk (Kd.R_mono (Kd.R_keep (IsS161.apart (show IsS161 w0 _ g s0_0 x1001_1 x1002_1 from zB4_6) (zR4 HO_206001.out) (by decide)) hk (fun _ h => h.2)) (fun _ h => h.1)); have n1_ := Aside0.mk (Kd.R_mono (Kd.R_keep (IsS161.apart (show IsS161 w0 _ g s0_0 x1001_1 x1002_1 from zB4_6) (zR4 HO_206002.out) (by decide)) hk (fun _ h => h.2)) (fun _ h => h.1)); have n2_ := Aside0.mk (zh4 hk BK198.out NB198_0.out); have n3_ := Aside0.mk (zh4 hk BK205.out NB205_0.out); have n4_ := Aside0.mk (KeepBut.trans (zB4_7) hk (.inl rfl)); have n5_ := Aside0.mk (hb); have n6_ := Aside0.mk (hi); clear HO_206001; clear HO_206002; clear BK198; clear BK205; clear HK; clear HB; clear HI0; have HO_206001 := n0_; have HO_206002 := n1_; have BK198 := n2_; have BK205 := n3_; have HK := n4_; have HB := n5_; have HI0 := n6_; clear n0_ n1_ n2_ n3_ n4_ n5_ n6_; (try clear hb); (try clear hb2); (try clear hk); (try clear hi)) | ((with_reducible refine gate_callee (f := 156) rfl ?_); refine goesL_ (some 18) rfl rfl Try.func156 (by kernel_rfl) rfl #[.pointer (some ⟨g, 0, none⟩)] rfl zT4 ?_; (with_reducible refine (spec_l8DrawIns.calls k1 g s0_0 t207 t208 t209 t210 t211 t212 t213 t214 t215 w0 _ ?side1 ?side2 A14.out).mono ?_); (case side1 => repeat (first | (with_reducible first | exact HI0.out | apply IsS161.alloc | apply IsS161.drewN | apply IsS161.drew | apply IsS161.set_1 | apply IsS161.set_2 | refine IsS161.far ?_ NB0_198.out _ | refine IsS161.far ?_ NB0_205.out _) | exact HI0.out)); (case side2 => repeat (first | (with_reducible first | exact HB.out | apply below_alloc | apply pw_below_drewN | apply below_drew1 | refine below_set ?_ (IsS161.ge HI0.out) | refine below_set ?_ GE198.out | refine below_set ?_ GE205.out) | exact HB.out)); rintro e w47 ⟨rfl, hi, hb, hk⟩; refine ⟨_, rfl, ?_⟩; have n0_ := Aside0.mk (Kd.R_mono (Kd.R_keep (IsS161.apart (show IsS161 w0 _ g s0_0 t207 t208 from zB4_6) (zR4 HO_206001.out) (by decide)) hk (fun _ h => h.2)) (fun _ h => h.1)); have n1_ := Aside0.mk (Kd.R_mono (Kd.R_keep (IsS161.apart (show IsS161 w0 _ g s0_0 t207 t208 from zB4_6) (zR4 HO_206002.out) (by decide)) hk (fun _ h => h.2)) (fun _ h => h.1)); have n2_ := Aside0.mk (zh4 hk BK198.out NB198_0.out); have n3_ := Aside0.mk (zh4 hk BK205.out NB205_0.out); have n4_ := Aside0.mk (KeepBut.trans (zB4_7) hk (.inl rfl)); have n5_ := Aside0.mk (hb); have n6_ := Aside0.mk (hi); clear HO_206001; clear HO_206002; clear BK198; clear BK205; clear HK; clear HB; clear HI0; have HO_206001 := n0_; have HO_206002 := n1_; have BK198 := n2_; have BK205 := n3_; have HK := n4_; have HB := n5_; have HI0 := n6_; clear n0_ n1_ n2_ n3_ n4_ n5_ n6_; (try clear hb); (try clear hb2); (try clear hk); (try clear hi)) | ((with_reducible refine gate_dst (N := 5) rfl ?_); refine box_event ?hg (N := 5) ?hd (cs := #[.int .i64 0, .int .i64 0, .int .i64 0, .int .i64 0, .int .i64 0]) (t := 52) ?hr ?_; (case hd => rfl); (case hg => rfl); (case hr => first | (go_simp; done) | (go_simp; rfl)); intro gb216 hg w48 hbox hb; have n0_ := Aside0.mk (Kd.R_below (Kd.R_elderB (zR4 HO_206001.out) gb216 (Nat.le_of_eq hg.symm)) hb); have n1_ := Aside0.mk (Kd.R_below (zR4 HO_206002.out) hb); have n2_ := Aside0.mk (zb4 BK198.out hb); have n3_ := Aside0.mk (zb4 BK205.out hb); have n4_ := Aside0.mk (IsS161.below (zB4_6) hb); have n5_ := Aside0.mk (KeepBut.trans (zB4_7) (KeepBut.of_below hb g none) (.inl rfl)); have n6_ := Aside0.mk (below_step (zB4_8) hb); have n7_ := Aside0.mk (hbox); have n8_ := Aside0.mk ((by rw [hg]; exact (keep_size (w := w) (g := g) (row := none) (zB4_7)) : w.heap.size ≤ gb216)); have n9_ := Aside0.mk ((Nat.le_trans HW0.out (by rw [hg]; exact (keep_size (w := w) (g := g) (row := none) (zB4_7)) : w.heap.size ≤ gb216) : w0.heap.size ≤ gb216)); have n10_ := Aside0.mk ((zn4 BK198.out hg : gb198 ≠ gb216)); have n11_ := Aside0.mk ((zm4 BK198.out hg : gb216 ≠ gb198)); have n12_ := Aside0.mk ((zn4 BK205.out hg : gb205 ≠ gb216)); have n13_ := Aside0.mk ((zm4 BK205.out hg : gb216 ≠ gb205)); have n14_ := Aside0.mk ((by rw [hg]; exact Nat.ne_of_lt (IsS161.lt (show IsS161 w0 _ g s0_0 t214 t215 from zB4_6)) : g ≠ gb216)); have n15_ := Aside0.mk ((by rw [hg]; exact Nat.ne_of_gt (IsS161.lt (show IsS161 w0 _ g s0_0 t214 t215 from zB4_6)) : gb216 ≠ g)); clear HO_206001; clear HO_206002; clear BK198; clear BK205; clear HI0; clear HK; clear HB; have HO_206001 := n0_; have HO_206002 := n1_; have BK198 := n2_; have BK205 := n3_; have HI0 := n4_; have HK := n5_; have HB := n6_; have BK216 := n7_; have GW216 := n8_; have GE216 := n9_; have NB198_216 := n10_; have NB216_198 := n11_; have NB205_216 := n12_; have NB216_205 := n13_; have NB0_216 := n14_; have NB216_0 := n15_; clear n0_ n1_ n2_ n3_ n4_ n5_ n6_ n7_ n8_ n9_ n10_ n11_ n12_ n13_ n14_ n15_; clear hb hbox hg; have hnb49 := NB216_198.out; have hnc49 := NB198_216.out; have hnb50 := NB216_205.out; have hnc50 := NB205_216.out; have hnb51 := NB216_0.out; have hnc51 := NB0_216.out; obtain ⟨hcz52_0, hcz52_1, hcz52_2, hcz52_3, hcz52_4, hfz52_0, hfz52_1, hfz52_2, hfz52_3, hfz52_4⟩ := zc4_5 (w := w48) BK216.out; have hnb53 := NB205_198.out; have hnc53 := NB198_205.out; have hnb54 := NB205_0.out; have hnc54 := NB0_205.out; obtain ⟨hcz55_0, hcz55_1, hcz55_2, hfz55_0, hfz55_1, hfz55_2⟩ := zc4_3 (w := w48) BK205.out) | ((with_reducible refine gate_builtin (b := .append) (xs := #[.tmp 20, .tmp 22]) rfl ?_); at_builtin; refine Kd.R_append k52 w.heap.size rfl (.tmp 20) (.tmp 22) 42 52 (.agg #[(.int .i64 0), (.int .i64 0), (.int .i64 0), (.int .i64 0), (.int .i64 0)]) 40 rfl Try.underlying42 info52 rfl (by decide) (by omega) u206001 x206001_1 (⟨t209, t210, t211, t212, t213⟩ : S52) [.int .i64 t209, .int .i64 t210, .int .i64 t211, .int .i64 t212, .int .i64 t213] (fun k_ => k_ ≠ gb216) (fun _ => False) rfl (by first | (go_simp; done) | (go_simp; rfl)) ?aP (fun _ hk => hk.elim) ?aF ?aO (Below.refl _ _) ?aS ?aL ?_; (case aP => exact k52_mkM _ _ _ (⟨t209, t210, t211, t212, t213⟩ : S52)); (case aF => exact (fun k_ hk => Kd.freshB (g := gb216) (o := .cells #[.int .i64 t209, .int .i64 t210, .int .i64 t211, .int .i64 t212, .int .i64 t213] 52 (0, 0)) (by refine zP4 ?_; refine blk_put (cs := #[.int .i64 t209, .int .i64 t210, .int .i64 t211, .int .i64 t212, .int .i64 0]) ?_ 4 _ rfl; refine zP4 ?_; refine blk_put (cs := #[.int .i64 t209, .int .i64 t210, .int .i64 t211, .int .i64 0, .int .i64 0]) ?_ 3 _ rfl; refine zP4 ?_; refine blk_put (cs := #[.int .i64 t209, .int .i64 t210, .int .i64 0, .int .i64 0, .int .i64 0]) ?_ 2 _ rfl; refine zP4 ?_; refine blk_put (cs := #[.int .i64 t209, .int .i64 0, .int .i64 0, .int .i64 0, .int .i64 0]) ?_ 1 _ rfl; refine zP4 ?_; refine blk_put (cs := #[.int .i64 0, .int .i64 0, .int .i64 0, .int .i64 0, .int .i64 0]) ?_ 0 _ rfl; refine zP4 ?_; exact BK216.out) k_ hk)); (case aO => exact (by (with_reducible repeat (first | apply Kd.R_alloc | apply Kd.R_drewN | apply Kd.R_drew)); exact Kd.R_mono (Kd.R_far (p := ⟨gb216, 4, none⟩) (Kd.R_far (p := ⟨gb216, 3, none⟩) (Kd.R_far (p := ⟨gb216, 2, none⟩) (Kd.R_far (p := ⟨gb216, 1, none⟩) (Kd.R_far (p := ⟨gb216, 0, none⟩) (Kd.R_mono HO_206001.out (fun k_ hk => (⟨hk, hk.2⟩ : _ ∧ k_ ≠ gb216))) (fun _ hk => hk.2) (.int .i64 t209)) (fun _ hk => hk.2) (.int .i64 t210)) (fun _ hk => hk.2) (.int .i64 t211)) (fun _ hk => hk.2) (.int .i64 t212)) (fun _ hk => hk.2) (.int .i64 t213)) (fun _ hk => hk.1.2))); (case aS => exact (keep_size (w := w) (g := g) (row := none) (zB4_9))); (case aL => have := LMc15.out; omega); intro v218 w56 ho hb hg hat; rw [← Ny217.out] at ho; have n0_ := Aside0.mk (Kd.R_over' (by (with_reducible repeat (first | apply Kd.R_alloc | apply Kd.R_drewN | apply Kd.R_drew)); exact (Kd.R_mono (Kd.R_far (p := ⟨gb216, 4, none⟩) (Kd.R_far (p := ⟨gb216, 3, none⟩) (Kd.R_far (p := ⟨gb216, 2, none⟩) (Kd.R_far (p := ⟨gb216, 1, none⟩) (Kd.R_far (p := ⟨gb216, 0, none⟩) (Kd.R_types HO_206002.out BK216.out (by decide)) (fun _ hk => hk.2) (.int .i64 t209)) (fun _ hk => hk.2) (.int .i64 t210)) (fun _ hk => hk.2) (.int .i64 t211)) (fun _ hk => hk.2) (.int .i64 t212)) (fun _ hk => hk.2) (.int .i64 t213)) (fun _ h_ => h_.1))) (Kd.R_typed (by (with_reducible repeat (first | apply Kd.R_alloc | apply Kd.R_drewN | apply Kd.R_drew)); exact (Kd.R_mono (Kd.R_far (p := ⟨gb216, 4, none⟩) (Kd.R_far (p := ⟨gb216, 3, none⟩) (Kd.R_far (p := ⟨gb216, 2, none⟩) (Kd.R_far (p := ⟨gb216, 1, none⟩) (Kd.R_far (p := ⟨gb216, 0, none⟩) (Kd.R_mono HO_206001.out (fun k_ hk => (⟨hk, hk.2⟩ : _ ∧ k_ ≠ gb216))) (fun _ hk => hk.2) (.int .i64 t209)) (fun _ hk => hk.2) (.int .i64 t210)) (fun _ hk => hk.2) (.int .i64 t211)) (fun _ hk => hk.2) (.int .i64 t212)) (fun _ hk => hk.2) (.int .i64 t213)) (fun _ h_ => h_.1)))) (by decide) hg); have n1_ := Aside0.mk (blk_grown (g := gb198) (o := .cells #[.string (⟨#[]⟩ : ByteArray), .slice none 0 0, .slice none 0 0] 45 (0, 0)) (by refine zP4 ?_; refine blk_far ?_ NB198_216.out _; refine zP4 ?_; refine blk_far ?_ NB198_216.out _; refine zP4 ?_; refine blk_far ?_ NB198_216.out _; refine zP4 ?_; refine blk_far ?_ NB198_216.out _; refine zP4 ?_; refine blk_far ?_ NB198_216.out _; refine zP4 ?_; exact BK198.out) hg (Kd.R_ne HO_206001.out BK198.out (by decide))); have n2_ := Aside0.mk (blk_grown (g := gb205) (o := .cells #[.string t202, u206001, u206002] 45 (0, 0)) (by refine zP4 ?_; refine blk_far ?_ NB205_216.out _; refine zP4 ?_; refine blk_far ?_ NB205_216.out _; refine zP4 ?_; refine blk_far ?_ NB205_216.out _; refine zP4 ?_; refine blk_far ?_ NB205_216.out _; refine zP4 ?_; refine blk_far ?_ NB205_216.out _; refine zP4 ?_; exact BK205.out) hg (Kd.R_ne HO_206001.out BK205.out (by decide))); have n3_ := Aside0.mk (IsS161.grown (show IsS161 w0 _ g s0_0 t214 t215 from zB4_10) hg (IsS161.own_ne HI0.out HO_206001.out (by decide))); have n4_ := Aside0.mk (blk_grown (g := gb216) (o := .cells #[.int .i64 t209, .int .i64 t210, .int .i64 t211, .int .i64 t212, .int .i64 t213] 52 (0, 0)) (by refine zP4 ?_; refine blk_put (cs := #[.int .i64 t209, .int .i64 t210, .int .i64 t211, .int .i64 t212, .int .i64 0]) ?_ 4 _ rfl; refine zP4 ?_; refine blk_put (cs := #[.int .i64 t209, .int .i64 t210, .int .i64 t211, .int .i64 0, .int .i64 0]) ?_ 3 _ rfl; refine zP4 ?_; refine blk_put (cs := #[.int .i64 t209, .int .i64 t210, .int .i64 0, .int .i64 0, .int .i64 0]) ?_ 2 _ rfl; refine zP4 ?_; refine blk_put (cs := #[.int .i64 t209, .int .i64 0, .int .i64 0, .int .i64 0, .int .i64 0]) ?_ 1 _ rfl; refine zP4 ?_; refine blk_put (cs := #[.int .i64 0, .int .i64 0, .int .i64 0, .int .i64 0, .int .i64 0]) ?_ 0 _ rfl; refine zP4 ?_; exact BK216.out) hg (Kd.R_away HO_206001.out (fun _ hk => hk.2))); have n5_ := Aside0.mk (below_weaken (zB4_11) HL.out hb); have n6_ := Aside0.mk (KeepBut.trans (zB4_9) (KeepBut.of_grown hg g) (Kd.R_base2 HO_206001.out)); have n7_ := Aside0.mk (ho); clear HO_206002; clear BK198; clear BK205; clear HI0; clear BK216; clear HB; clear HK; clear HO_206001; have HO_206002 := n0_; have BK198 := n1_; have BK205 := n2_; have HI0 := n3_; have BK216 := n4_; have HB := n5_; have HK := n6_; have HO219 := n7_; clear n0_ n1_ n2_ n3_ n4_ n5_ n6_ n7_; clear ho hb hg hat; obtain ⟨Ao57, co57, eo57⟩ := Kd.R_slice HO219.out; subst eo57; obtain ⟨hcz58_0, hcz58_1, hcz58_2, hfz58_0, hfz58_1, hfz58_2⟩ := zc4_3 (w := w56) BK205.out; obtain ⟨hcz59_0, hcz59_1, hcz59_2, hcz59_3, hcz59_4, hfz59_0, hfz59_1, hfz59_2, hfz59_3, hfz59_4⟩ := zc4_5 (w := w56) BK216.out) | ((with_reducible refine gate_callee (f := 115) rfl ?_); refine goesL_ (some 26) rfl rfl Try.func115 (by kernel_rfl) rfl #[.agg #[.int .i64 t209, .int .i64 t210, .int .i64 t211, .int .i64 t212, .int .i64 t213]] rfl zT4 ?_; (with_reducible refine (spec_l27Goes.calls t209 t210 t211 t212 t213 true _ A16.out).mono ?_); rintro e w60 ⟨rfl, hb⟩; refine ⟨_, rfl, ?_⟩; have n0_ := Aside0.mk (Kd.R_below (by (with_reducible repeat (first | apply Kd.R_alloc | apply Kd.R_drewN | apply Kd.R_drew)); exact (Kd.R_mono (Kd.R_far (p := ⟨gb205, 1, none⟩) (Kd.R_types HO_206002.out BK205.out (by decide)) (fun _ hk => hk.2) (.slice Ao57 y217.length co57)) (fun _ h_ => h_.1))) hb); have n1_ := Aside0.mk (Kd.R_below (by (with_reducible repeat (first | apply Kd.R_alloc | apply Kd.R_drewN | apply Kd.R_drew)); exact (Kd.R_mono (Kd.R_far (p := ⟨gb205, 1, none⟩) (Kd.R_types HO219.out BK205.out (by decide)) (fun _ hk => hk.2) (.slice Ao57 y217.length co57)) (fun _ h_ => h_.1))) hb); have n2_ := Aside0.mk (blk_below (g := gb198) (o := .cells #[.string (⟨#[]⟩ : ByteArray), .slice none 0 0, .slice none 0 0] 45 (0, 0)) (by refine zP4 ?_; refine blk_far ?_ NB198_205.out _; refine zP4 ?_; exact BK198.out) hb); have n3_ := Aside0.mk (blk_below (g := gb205) (o := .cells #[.string t202, .slice Ao57 y217.length co57, u206002] 45 (0, 0)) (by refine zP4 ?_; refine blk_put (cs := #[.string t202, u206001, u206002]) ?_ 1 _ rfl; refine zP4 ?_; exact BK205.out) hb); have n4_ := Aside0.mk (IsS161.below (show IsS161 w0 (w56.setCell ⟨gb205, 1, none⟩ (.slice Ao57 y217.length co57)) g s0_0 t214 t215 from zB4_10) hb); have n5_ := Aside0.mk (blk_below (g := gb216) (o := .cells #[.int .i64 t209, .int .i64 t210, .int .i64 t211, .int .i64 t212, .int .i64 t213] 52 (0, 0)) (by refine zP4 ?_; refine blk_far ?_ NB216_205.out _; refine zP4 ?_; exact BK216.out) hb); have n6_ := Aside0.mk (KeepBut.trans (zB4_9) (KeepBut.of_below hb g none) (.inl rfl)); have n7_ := Aside0.mk (below_step (zB4_11) hb); clear HO_206002; clear HO219; clear BK198; clear BK205; clear HI0; clear BK216; clear HK; clear HB; have HO_206002 := n0_; have HO219 := n1_; have BK198 := n2_; have BK205 := n3_; have HI0 := n4_; have BK216 := n5_; have HK := n6_; have HB := n7_; clear n0_ n1_ n2_ n3_ n4_ n5_ n6_ n7_; (try clear hb); (try clear hb2); (try clear hk); (try clear hi)) | (go_at_call 122; (with_reducible refine (spec_l1Once.calls g s0_0 t214 t215 2 false t222 t223 w0 _ ?side1 ?side2 A18.out).mono ?_); (case side1 => repeat (first | (with_reducible first | exact HI0.out | apply IsS161.alloc | apply IsS161.drewN | apply IsS161.drew | apply IsS161.set_1 | apply IsS161.set_2 | refine IsS161.far ?_ NB0_198.out _ | refine IsS161.far ?_ NB0_205.out _ | refine IsS161.far ?_ NB0_216.out _) | exact HI0.out)); (case side2 => repeat (first | (with_reducible first | exact HB.out | apply below_alloc | apply pw_below_drewN | apply below_drew1 | refine below_set ?_ (IsS161.ge HI0.out) | refine below_set ?_ GE198.out | refine below_set ?_ GE205.out | refine below_set ?_ GE216.out) | exact HB.out)); rintro e w61 ⟨rfl, hi, hb, hk⟩; have n0_ := Aside0.mk (Kd.R_mono (Kd.R_keep (IsS161.apart (show IsS161 w0 _ g s0_0 t214 t215 from zB4_10) (zR4 HO_206002.out) (by decide)) hk (fun _ h => h.2)) (fun _ h => h.1)); have n1_ := Aside0.mk (zh4 hk BK198.out NB198_0.out); have n2_ := Aside0.mk (zh4 hk BK205.out NB205_0.out); have n3_ := Aside0.mk (zh4 hk BK216.out NB216_0.out); have n4_ := Aside0.mk (Kd.R_mono (Kd.R_keep (IsS161.apart (show IsS161 w0 _ g s0_0 t214 t215 from zB4_10) (zR4 HO219.out) (by decide)) hk (fun _ h => h.2)) (fun _ h => h.1)); have n5_ := Aside0.mk (KeepBut.trans (zB4_9) hk (.inl rfl)); have n6_ := Aside0.mk (hb); have n7_ := Aside0.mk (hi); clear HO_206002; clear BK198; clear BK205; clear BK216; clear HO219; clear HK; clear HB; clear HI0; have HO_206002 := n0_; have BK198 := n1_; have BK205 := n2_; have BK216 := n3_; have HO219 := n4_; have HK := n5_; have HB := n6_; have HI0 := n7_; clear n0_ n1_ n2_ n3_ n4_ n5_ n6_ n7_; (try clear hb); (try clear hb2); (try clear hk); (try clear hi)))
     go_roundg k1
     case measure => have := HK1.out; omega
     case rel => exact ⟨(wrap64 (x4_1 + 1)), (t222), (t223), (y217), (x206002_1), (.slice Ao57 y217.length co57), (u206002), (by first | rfl | (simp; done) | (simp [*]; done)), H', ⟨by have := HK1.out; omega⟩, ⟨by (with_reducible repeat (first | apply Kd.R_alloc | apply Kd.R_drewN | apply Kd.R_drew)); exact Kd.R_mono HO219.out (fun _ hk => trivial)⟩, ⟨zR4 HO_206002.out⟩, ⟨zK4 BK198.out⟩, ⟨zK4 BK205.out⟩, ⟨zB4_10⟩, ⟨zB4_9⟩, ⟨zB4_11⟩⟩
    subst c19
    have H1 : ((spec_l1Pick.f s0_0 t222 t223 (([(⟨#[109, 97, 105, 110]⟩ : ByteArray), (⟨#[108, 111, 111, 112]⟩ : ByteArray), (⟨#[101, 110, 100]⟩ : ByteArray)] : List ByteArray))).bind fun bt227 => (if x206002_1.length < 5864062014805 then (spec_l27DrawPart.l0 k1 (wrap64 (x4_1 + 1)) s0_0 bt227.2.1 bt227.2.2 t202 y217 (x206002_1 ++ [(⟨x4_1, bt227.1⟩ : S56)])) else (none))) = some (r1, r2, r3, r4, r5) := by rw [if_pos rfl] at H; exact H
    clear H
    have H := H1
    clear H1
    obtain ⟨y224, hy224⟩ : ∃ y_ : List ByteArray, y_ = (([(⟨#[109, 97, 105, 110]⟩ : ByteArray), (⟨#[108, 111, 111, 112]⟩ : ByteArray), (⟨#[101, 110, 100]⟩ : ByteArray)] : List ByteArray)) := ⟨_, rfl⟩
    replace H : ((spec_l1Pick.f s0_0 t222 t223 y224).bind fun bt227 => (if x206002_1.length < 5864062014805 then (spec_l27DrawPart.l0 k1 (wrap64 (x4_1 + 1)) s0_0 bt227.2.1 bt227.2.2 t202 y217 (x206002_1 ++ [(⟨x4_1, bt227.1⟩ : S56)])) else (none))) = some (r1, r2, r3, r4, r5) := by first | (rw [hy224]; with_reducible exact H) | (have H2_ := (Option.bind_some _ _).symm.trans H; rw [hy224]; with_reducible exact H2_) | (have H2_ := (Option.bind_some _ _).symm.trans H; with_reducible exact H2_) | with_reducible exact H | (rw [hy224]; exact H) | exact H
    have Ny224 := Aside0.mk hy224
    clear hy224
    replace H := Option.bind_eq_some_iff.mp H
    obtain ⟨⟨t227, t228, t229⟩, A200, H⟩ := H
    replace H : (if x206002_1.length < 5864062014805 then (spec_l27DrawPart.l0 k1 (wrap64 (x4_1 + 1)) s0_0 t228 t229 t202 y217 (x206002_1 ++ [(⟨x4_1, t227⟩ : S56)])) else (none)) = some (r1, r2, r3, r4, r5) := H
    have A20 := Aside0.mk A200
    clear A200
    by_cases c21 : x206002_1.length < 5864062014805
    rotate_left
    ·rw [if_neg c21] at H
     exact absurd H (by simp)
    rw [if_pos c21] at H
    have LMc21 := Aside0.mk c21
    clear c21
    obtain ⟨y230, hy230⟩ : ∃ y_ : List (S56), y_ = (x206002_1 ++ [(⟨x4_1, t227⟩ : S56)]) := ⟨_, rfl⟩
    replace H : (spec_l27DrawPart.l0 k1 (wrap64 (x4_1 + 1)) s0_0 t228 t229 t202 y217 y230) = some (r1, r2, r3, r4, r5) := by first | (rw [hy230]; with_reducible exact H) | (have H2_ := (Option.bind_some _ _).symm.trans H; rw [hy230]; with_reducible exact H2_) | (have H2_ := (Option.bind_some _ _).symm.trans H; with_reducible exact H2_) | with_reducible exact H | (rw [hy230]; exact H) | exact H
    have Ny230 := Aside0.mk hy230
    clear hy230
    have H' := Aside0.mk H
    clear H
    try go_wp2_with (first | ((with_reducible refine gate_callee (f := 123) rfl ?_); refine goesL_ (some 12) rfl rfl Try.func123 (by kernel_rfl) rfl #[.pointer (some ⟨g, 0, none⟩), .int .i64 5] rfl zT4 ?_; (with_reducible refine (spec_l1Below.calls g s0_0 x1001_1 x1002_1 5 t206 t207 t208 w0 _ ?side1 ?side2 A12.out).mono ?_); (case side1 => repeat (first | (with_reducible first | exact HI0.out | apply IsS161.alloc | apply IsS161.drewN | apply IsS161.drew | apply IsS161.set_1 | apply IsS161.set_2 | refine IsS161.far ?_ NB0_198.out _ | refine IsS161.far ?_ NB0_205.out _) | exact HI0.out)); (case side2 => repeat (first | (with_reducible first | exact HB.out | apply below_alloc | apply pw_below_drewN | apply below_drew1 | refine below_set ?_ (IsS161.ge HI0.out) | refine below_set ?_ GE198.out | refine below_set ?_ GE205.out) | exact HB.out)); rintro e w22 ⟨rfl, hi, hb, hk⟩; refine ⟨_, rfl, ?_⟩; have n0_ := Aside0.mk (Kd.R_mono (Kd.R_keep (IsS161.apart (show IsS161 w0 _ g s0_0 x1001_1 x1002_1 from zB4_6) (zR4 HO_206001.out) (by decide)) hk (fun _ h => h.2)) (fun _ h => h.1)); have n1_ := Aside0.mk (Kd.R_mono (Kd.R_keep (IsS161.apart (show IsS161 w0 _ g s0_0 x1001_1 x1002_1 from zB4_6) (zR4 HO_206002.out) (by decide)) hk (fun _ h => h.2)) (fun _ h => h.1)); have n2_ := Aside0.mk (zh4 hk BK198.out NB198_0.out); have n3_ := Aside0.mk (zh4 hk BK205.out NB205_0.out); have n4_ := Aside0.mk (KeepBut.trans (zB4_7) hk (.inl rfl)); have n5_ := Aside0.mk (hb); have n6_ := Aside0.mk (hi); clear HO_206001; clear HO_206002; clear BK198; clear BK205; clear HK; clear HB; clear HI0; have HO_206001 := n0_; have HO_206002 := n1_; have BK198 := n2_; have BK205 := n3_; have HK := n4_; have HB := n5_; have HI0 := n6_; clear n0_ n1_ n2_ n3_ n4_ n5_ n6_; (try clear hb); (try clear hb2); (try clear hk); (try clear hi)) | ((with_reducible refine gate_callee (f := 156) rfl ?_); refine goesL_ (some 18) rfl rfl Try.func156 (by kernel_rfl) rfl #[.pointer (some ⟨g, 0, none⟩)] rfl zT4 ?_; (with_reducible refine (spec_l8DrawIns.calls k1 g s0_0 t207 t208 t209 t210 t211 t212 t213 t214 t215 w0 _ ?side1 ?side2 A14.out).mono ?_); (case side1 => repeat (first | (with_reducible first | exact HI0.out | apply IsS161.alloc | apply IsS161.drewN | apply IsS161.drew | apply IsS161.set_1 | apply IsS161.set_2 | refine IsS161.far ?_ NB0_198.out _ | refine IsS161.far ?_ NB0_205.out _) | exact HI0.out)); (case side2 => repeat (first | (with_reducible first | exact HB.out | apply below_alloc | apply pw_below_drewN | apply below_drew1 | refine below_set ?_ (IsS161.ge HI0.out) | refine below_set ?_ GE198.out | refine below_set ?_ GE205.out) | exact HB.out)); rintro e w23 ⟨rfl, hi, hb, hk⟩; refine ⟨_, rfl, ?_⟩; have n0_ := Aside0.mk (Kd.R_mono (Kd.R_keep (IsS161.apart (show IsS161 w0 _ g s0_0 t207 t208 from zB4_6) (zR4 HO_206001.out) (by decide)) hk (fun _ h => h.2)) (fun _ h => h.1)); have n1_ := Aside0.mk (Kd.R_mono (Kd.R_keep (IsS161.apart (show IsS161 w0 _ g s0_0 t207 t208 from zB4_6) (zR4 HO_206002.out) (by decide)) hk (fun _ h => h.2)) (fun _ h => h.1)); have n2_ := Aside0.mk (zh4 hk BK198.out NB198_0.out); have n3_ := Aside0.mk (zh4 hk BK205.out NB205_0.out); have n4_ := Aside0.mk (KeepBut.trans (zB4_7) hk (.inl rfl)); have n5_ := Aside0.mk (hb); have n6_ := Aside0.mk (hi); clear HO_206001; clear HO_206002; clear BK198; clear BK205; clear HK; clear HB; clear HI0; have HO_206001 := n0_; have HO_206002 := n1_; have BK198 := n2_; have BK205 := n3_; have HK := n4_; have HB := n5_; have HI0 := n6_; clear n0_ n1_ n2_ n3_ n4_ n5_ n6_; (try clear hb); (try clear hb2); (try clear hk); (try clear hi)) | ((with_reducible refine gate_dst (N := 5) rfl ?_); refine box_event ?hg (N := 5) ?hd (cs := #[.int .i64 0, .int .i64 0, .int .i64 0, .int .i64 0, .int .i64 0]) (t := 52) ?hr ?_; (case hd => rfl); (case hg => rfl); (case hr => first | (go_simp; done) | (go_simp; rfl)); intro gb216 hg w24 hbox hb; have n0_ := Aside0.mk (Kd.R_below (Kd.R_elderB (zR4 HO_206001.out) gb216 (Nat.le_of_eq hg.symm)) hb); have n1_ := Aside0.mk (Kd.R_below (zR4 HO_206002.out) hb); have n2_ := Aside0.mk (zb4 BK198.out hb); have n3_ := Aside0.mk (zb4 BK205.out hb); have n4_ := Aside0.mk (IsS161.below (zB4_6) hb); have n5_ := Aside0.mk (KeepBut.trans (zB4_7) (KeepBut.of_below hb g none) (.inl rfl)); have n6_ := Aside0.mk (below_step (zB4_8) hb); have n7_ := Aside0.mk (hbox); have n8_ := Aside0.mk ((by rw [hg]; exact (keep_size (w := w) (g := g) (row := none) (zB4_7)) : w.heap.size ≤ gb216)); have n9_ := Aside0.mk ((Nat.le_trans HW0.out (by rw [hg]; exact (keep_size (w := w) (g := g) (row := none) (zB4_7)) : w.heap.size ≤ gb216) : w0.heap.size ≤ gb216)); have n10_ := Aside0.mk ((zn4 BK198.out hg : gb198 ≠ gb216)); have n11_ := Aside0.mk ((zm4 BK198.out hg : gb216 ≠ gb198)); have n12_ := Aside0.mk ((zn4 BK205.out hg : gb205 ≠ gb216)); have n13_ := Aside0.mk ((zm4 BK205.out hg : gb216 ≠ gb205)); have n14_ := Aside0.mk ((by rw [hg]; exact Nat.ne_of_lt (IsS161.lt (show IsS161 w0 _ g s0_0 t214 t215 from zB4_6)) : g ≠ gb216)); have n15_ := Aside0.mk ((by rw [hg]; exact Nat.ne_of_gt (IsS161.lt (show IsS161 w0 _ g s0_0 t214 t215 from zB4_6)) : gb216 ≠ g)); clear HO_206001; clear HO_206002; clear BK198; clear BK205; clear HI0; clear HK; clear HB; have HO_206001 := n0_; have HO_206002 := n1_; have BK198 := n2_; have BK205 := n3_; have HI0 := n4_; have HK := n5_; have HB := n6_; have BK216 := n7_; have GW216 := n8_; have GE216 := n9_; have NB198_216 := n10_; have NB216_198 := n11_; have NB205_216 := n12_; have NB216_205 := n13_; have NB0_216 := n14_; have NB216_0 := n15_; clear n0_ n1_ n2_ n3_ n4_ n5_ n6_ n7_ n8_ n9_ n10_ n11_ n12_ n13_ n14_ n15_; clear hb hbox hg; have hnb25 := NB216_198.out; have hnc25 := NB198_216.out; have hnb26 := NB216_205.out; have hnc26 := NB205_216.out; have hnb27 := NB216_0.out; have hnc27 := NB0_216.out; obtain ⟨hcz28_0, hcz28_1, hcz28_2, hcz28_3, hcz28_4, hfz28_0, hfz28_1, hfz28_2, hfz28_3, hfz28_4⟩ := zc4_5 (w := w24) BK216.out; have hnb29 := NB205_198.out; have hnc29 := NB198_205.out; have hnb30 := NB205_0.out; have hnc30 := NB0_205.out; obtain ⟨hcz31_0, hcz31_1, hcz31_2, hfz31_0, hfz31_1, hfz31_2⟩ := zc4_3 (w := w24) BK205.out) | ((with_reducible refine gate_builtin (b := .append) (xs := #[.tmp 20, .tmp 22]) rfl ?_); at_builtin; refine Kd.R_append k52 w.heap.size rfl (.tmp 20) (.tmp 22) 42 52 (.agg #[(.int .i64 0), (.int .i64 0), (.int .i64 0), (.int .i64 0), (.int .i64 0)]) 40 rfl Try.underlying42 info52 rfl (by decide) (by omega) u206001 x206001_1 (⟨t209, t210, t211, t212, t213⟩ : S52) [.int .i64 t209, .int .i64 t210, .int .i64 t211, .int .i64 t212, .int .i64 t213] (fun k_ => k_ ≠ gb216) (fun _ => False) rfl (by first | (go_simp; done) | (go_simp; rfl)) ?aP (fun _ hk => hk.elim) ?aF ?aO (Below.refl _ _) ?aS ?aL ?_; (case aP => exact k52_mkM _ _ _ (⟨t209, t210, t211, t212, t213⟩ : S52)); (case aF => exact (fun k_ hk => Kd.freshB (g := gb216) (o := .cells #[.int .i64 t209, .int .i64 t210, .int .i64 t211, .int .i64 t212, .int .i64 t213] 52 (0, 0)) (by refine zP4 ?_; refine blk_put (cs := #[.int .i64 t209, .int .i64 t210, .int .i64 t211, .int .i64 t212, .int .i64 0]) ?_ 4 _ rfl; refine zP4 ?_; refine blk_put (cs := #[.int .i64 t209, .int .i64 t210, .int .i64 t211, .int .i64 0, .int .i64 0]) ?_ 3 _ rfl; refine zP4 ?_; refine blk_put (cs := #[.int .i64 t209, .int .i64 t210, .int .i64 0, .int .i64 0, .int .i64 0]) ?_ 2 _ rfl; refine zP4 ?_; refine blk_put (cs := #[.int .i64 t209, .int .i64 0, .int .i64 0, .int .i64 0, .int .i64 0]) ?_ 1 _ rfl; refine zP4 ?_; refine blk_put (cs := #[.int .i64 0, .int .i64 0, .int .i64 0, .int .i64 0, .int .i64 0]) ?_ 0 _ rfl; refine zP4 ?_; exact BK216.out) k_ hk)); (case aO => exact (by (with_reducible repeat (first | apply Kd.R_alloc | apply Kd.R_drewN | apply Kd.R_drew)); exact Kd.R_mono (Kd.R_far (p := ⟨gb216, 4, none⟩) (Kd.R_far (p := ⟨gb216, 3, none⟩) (Kd.R_far (p := ⟨gb216, 2, none⟩) (Kd.R_far (p := ⟨gb216, 1, none⟩) (Kd.R_far (p := ⟨gb216, 0, none⟩) (Kd.R_mono HO_206001.out (fun k_ hk => (⟨hk, hk.2⟩ : _ ∧ k_ ≠ gb216))) (fun _ hk => hk.2) (.int .i64 t209)) (fun _ hk => hk.2) (.int .i64 t210)) (fun _ hk => hk.2) (.int .i64 t211)) (fun _ hk => hk.2) (.int .i64 t212)) (fun _ hk => hk.2) (.int .i64 t213)) (fun _ hk => hk.1.2))); (case aS => exact (keep_size (w := w) (g := g) (row := none) (zB4_9))); (case aL => have := LMc15.out; omega); intro v218 w32 ho hb hg hat; rw [← Ny217.out] at ho; have n0_ := Aside0.mk (Kd.R_over' (by (with_reducible repeat (first | apply Kd.R_alloc | apply Kd.R_drewN | apply Kd.R_drew)); exact (Kd.R_mono (Kd.R_far (p := ⟨gb216, 4, none⟩) (Kd.R_far (p := ⟨gb216, 3, none⟩) (Kd.R_far (p := ⟨gb216, 2, none⟩) (Kd.R_far (p := ⟨gb216, 1, none⟩) (Kd.R_far (p := ⟨gb216, 0, none⟩) (Kd.R_types HO_206002.out BK216.out (by decide)) (fun _ hk => hk.2) (.int .i64 t209)) (fun _ hk => hk.2) (.int .i64 t210)) (fun _ hk => hk.2) (.int .i64 t211)) (fun _ hk => hk.2) (.int .i64 t212)) (fun _ hk => hk.2) (.int .i64 t213)) (fun _ h_ => h_.1))) (Kd.R_typed (by (with_reducible repeat (first | apply Kd.R_alloc | apply Kd.R_drewN | apply Kd.R_drew)); exact (Kd.R_mono (Kd.R_far (p := ⟨gb216, 4, none⟩) (Kd.R_far (p := ⟨gb216, 3, none⟩) (Kd.R_far (p := ⟨gb216, 2, none⟩) (Kd.R_far (p := ⟨gb216, 1, none⟩) (Kd.R_far (p := ⟨gb216, 0, none⟩) (Kd.R_mono HO_206001.out (fun k_ hk => (⟨hk, hk.2⟩ : _ ∧ k_ ≠ gb216))) (fun _ hk => hk.2) (.int .i64 t209)) (fun _ hk => hk.2) (.int .i64 t210)) (fun _ hk => hk.2) (.int .i64 t211)) (fun _ hk => hk.2) (.int .i64 t212)) (fun _ hk => hk.2) (.int .i64 t213)) (fun _ h_ => h_.1)))) (by decide) hg); have n1_ := Aside0.mk (blk_grown (g := gb198) (o := .cells #[.string (⟨#[]⟩ : ByteArray), .slice none 0 0, .slice none 0 0] 45 (0, 0)) (by refine zP4 ?_; refine blk_far ?_ NB198_216.out _; refine zP4 ?_; refine blk_far ?_ NB198_216.out _; refine zP4 ?_; refine blk_far ?_ NB198_216.out _; refine zP4 ?_; refine blk_far ?_ NB198_216.out _; refine zP4 ?_; refine blk_far ?_ NB198_216.out _; refine zP4 ?_; exact BK198.out) hg (Kd.R_ne HO_206001.out BK198.out (by decide))); have n2_ := Aside0.mk (blk_grown (g := gb205) (o := .cells #[.string t202, u206001, u206002] 45 (0, 0)) (by refine zP4 ?_; refine blk_far ?_ NB205_216.out _; refine zP4 ?_; refine blk_far ?_ NB205_216.out _; refine zP4 ?_; refine blk_far ?_ NB205_216.out _; refine zP4 ?_; refine blk_far ?_ NB205_216.out _; refine zP4 ?_; refine blk_far ?_ NB205_216.out _; refine zP4 ?_; exact BK205.out) hg (Kd.R_ne HO_206001.out BK205.out (by decide))); have n3_ := Aside0.mk (IsS161.grown (show IsS161 w0 _ g s0_0 t214 t215 from zB4_10) hg (IsS161.own_ne HI0.out HO_206001.out (by decide))); have n4_ := Aside0.mk (blk_grown (g := gb216) (o := .cells #[.int .i64 t209, .int .i64 t210, .int .i64 t211, .int .i64 t212, .int .i64 t213] 52 (0, 0)) (by refine zP4 ?_; refine blk_put (cs := #[.int .i64 t209, .int .i64 t210, .int .i64 t211, .int .i64 t212, .int .i64 0]) ?_ 4 _ rfl; refine zP4 ?_; refine blk_put (cs := #[.int .i64 t209, .int .i64 t210, .int .i64 t211, .int .i64 0, .int .i64 0]) ?_ 3 _ rfl; refine zP4 ?_; refine blk_put (cs := #[.int .i64 t209, .int .i64 t210, .int .i64 0, .int .i64 0, .int .i64 0]) ?_ 2 _ rfl; refine zP4 ?_; refine blk_put (cs := #[.int .i64 t209, .int .i64 0, .int .i64 0, .int .i64 0, .int .i64 0]) ?_ 1 _ rfl; refine zP4 ?_; refine blk_put (cs := #[.int .i64 0, .int .i64 0, .int .i64 0, .int .i64 0, .int .i64 0]) ?_ 0 _ rfl; refine zP4 ?_; exact BK216.out) hg (Kd.R_away HO_206001.out (fun _ hk => hk.2))); have n5_ := Aside0.mk (below_weaken (zB4_11) HL.out hb); have n6_ := Aside0.mk (KeepBut.trans (zB4_9) (KeepBut.of_grown hg g) (Kd.R_base2 HO_206001.out)); have n7_ := Aside0.mk (ho); clear HO_206002; clear BK198; clear BK205; clear HI0; clear BK216; clear HB; clear HK; clear HO_206001; have HO_206002 := n0_; have BK198 := n1_; have BK205 := n2_; have HI0 := n3_; have BK216 := n4_; have HB := n5_; have HK := n6_; have HO219 := n7_; clear n0_ n1_ n2_ n3_ n4_ n5_ n6_ n7_; clear ho hb hg hat; obtain ⟨Ao33, co33, eo33⟩ := Kd.R_slice HO219.out; subst eo33; obtain ⟨hcz34_0, hcz34_1, hcz34_2, hfz34_0, hfz34_1, hfz34_2⟩ := zc4_3 (w := w32) BK205.out; obtain ⟨hcz35_0, hcz35_1, hcz35_2, hcz35_3, hcz35_4, hfz35_0, hfz35_1, hfz35_2, hfz35_3, hfz35_4⟩ := zc4_5 (w := w32) BK216.out) | ((with_reducible refine gate_callee (f := 115) rfl ?_); refine goesL_ (some 26) rfl rfl Try.func115 (by kernel_rfl) rfl #[.agg #[.int .i64 t209, .int .i64 t210, .int .i64 t211, .int .i64 t212, .int .i64 t213]] rfl zT4 ?_; (with_reducible refine (spec_l27Goes.calls t209 t210 t211 t212 t213 true _ A16.out).mono ?_); rintro e w36 ⟨rfl, hb⟩; refine ⟨_, rfl, ?_⟩; have n0_ := Aside0.mk (Kd.R_below (by (with_reducible repeat (first | apply Kd.R_alloc | apply Kd.R_drewN | apply Kd.R_drew)); exact (Kd.R_mono (Kd.R_far (p := ⟨gb205, 1, none⟩) (Kd.R_types HO_206002.out BK205.out (by decide)) (fun _ hk => hk.2) (.slice Ao33 y217.length co33)) (fun _ h_ => h_.1))) hb); have n1_ := Aside0.mk (Kd.R_below (by (with_reducible repeat (first | apply Kd.R_alloc | apply Kd.R_drewN | apply Kd.R_drew)); exact (Kd.R_mono (Kd.R_far (p := ⟨gb205, 1, none⟩) (Kd.R_types HO219.out BK205.out (by decide)) (fun _ hk => hk.2) (.slice Ao33 y217.length co33)) (fun _ h_ => h_.1))) hb); have n2_ := Aside0.mk (blk_below (g := gb198) (o := .cells #[.string (⟨#[]⟩ : ByteArray), .slice none 0 0, .slice none 0 0] 45 (0, 0)) (by refine zP4 ?_; refine blk_far ?_ NB198_205.out _; refine zP4 ?_; exact BK198.out) hb); have n3_ := Aside0.mk (blk_below (g := gb205) (o := .cells #[.string t202, .slice Ao33 y217.length co33, u206002] 45 (0, 0)) (by refine zP4 ?_; refine blk_put (cs := #[.string t202, u206001, u206002]) ?_ 1 _ rfl; refine zP4 ?_; exact BK205.out) hb); have n4_ := Aside0.mk (IsS161.below (show IsS161 w0 (w32.setCell ⟨gb205, 1, none⟩ (.slice Ao33 y217.length co33)) g s0_0 t214 t215 from zB4_10) hb); have n5_ := Aside0.mk (blk_below (g := gb216) (o := .cells #[.int .i64 t209, .int .i64 t210, .int .i64 t211, .int .i64 t212, .int .i64 t213] 52 (0, 0)) (by refine zP4 ?_; refine blk_far ?_ NB216_205.out _; refine zP4 ?_; exact BK216.out) hb); have n6_ := Aside0.mk (KeepBut.trans (zB4_9) (KeepBut.of_below hb g none) (.inl rfl)); have n7_ := Aside0.mk (below_step (zB4_11) hb); clear HO_206002; clear HO219; clear BK198; clear BK205; clear HI0; clear BK216; clear HK; clear HB; have HO_206002 := n0_; have HO219 := n1_; have BK198 := n2_; have BK205 := n3_; have HI0 := n4_; have BK216 := n5_; have HK := n6_; have HB := n7_; clear n0_ n1_ n2_ n3_ n4_ n5_ n6_ n7_; (try clear hb); (try clear hb2); (try clear hk); (try clear hi)) | (go_at_call 122; (with_reducible refine (spec_l1Once.calls g s0_0 t214 t215 2 true t222 t223 w0 _ ?side1 ?side2 A18.out).mono ?_); (case side1 => repeat (first | (with_reducible first | exact HI0.out | apply IsS161.alloc | apply IsS161.drewN | apply IsS161.drew | apply IsS161.set_1 | apply IsS161.set_2 | refine IsS161.far ?_ NB0_198.out _ | refine IsS161.far ?_ NB0_205.out _ | refine IsS161.far ?_ NB0_216.out _) | exact HI0.out)); (case side2 => repeat (first | (with_reducible first | exact HB.out | apply below_alloc | apply pw_below_drewN | apply below_drew1 | refine below_set ?_ (IsS161.ge HI0.out) | refine below_set ?_ GE198.out | refine below_set ?_ GE205.out | refine below_set ?_ GE216.out) | exact HB.out)); rintro e w37 ⟨rfl, hi, hb, hk⟩; have n0_ := Aside0.mk (Kd.R_mono (Kd.R_keep (IsS161.apart (show IsS161 w0 _ g s0_0 t214 t215 from zB4_10) (zR4 HO_206002.out) (by decide)) hk (fun _ h => h.2)) (fun _ h => h.1)); have n1_ := Aside0.mk (zh4 hk BK198.out NB198_0.out); have n2_ := Aside0.mk (zh4 hk BK205.out NB205_0.out); have n3_ := Aside0.mk (zh4 hk BK216.out NB216_0.out); have n4_ := Aside0.mk (Kd.R_mono (Kd.R_keep (IsS161.apart (show IsS161 w0 _ g s0_0 t214 t215 from zB4_10) (zR4 HO219.out) (by decide)) hk (fun _ h => h.2)) (fun _ h => h.1)); have n5_ := Aside0.mk (KeepBut.trans (zB4_9) hk (.inl rfl)); have n6_ := Aside0.mk (hb); have n7_ := Aside0.mk (hi); clear HO_206002; clear BK198; clear BK205; clear BK216; clear HO219; clear HK; clear HB; clear HI0; have HO_206002 := n0_; have BK198 := n1_; have BK205 := n2_; have BK216 := n3_; have HO219 := n4_; have HK := n5_; have HB := n6_; have HI0 := n7_; clear n0_ n1_ n2_ n3_ n4_ n5_ n6_ n7_; (try clear hb); (try clear hb2); (try clear hk); (try clear hi)))
    have n0_ := Aside0.mk (Kd.R_drew HO_206002.out)
    have n1_ := Aside0.mk (Kd.R_drew HO219.out)
    have n2_ := Aside0.mk (blk_drew BK198.out)
    have n3_ := Aside0.mk (blk_drew BK205.out)
    have n4_ := Aside0.mk (blk_drew BK216.out)
    have n5_ := Aside0.mk (IsS161.drew HI0.out)
    have n6_ := Aside0.mk (keep_drew HK.out)
    have n7_ := Aside0.mk (below_drew1 HB.out)
    clear HO_206002 HO219 BK198 BK205 BK216 HI0 HK HB
    have HO_206002 := n0_
    have HO219 := n1_
    have BK198 := n2_
    have BK205 := n3_
    have BK216 := n4_
    have HI0 := n5_
    have HK := n6_
    have HB := n7_
    clear n0_ n1_ n2_ n3_ n4_ n5_ n6_ n7_
    refine start_ (n := 11) (S := fun w' => w'.cell? ⟨gb205, 0, none⟩ = some (.string t202) ∧ w'.cell? ⟨gb205, 1, none⟩ = some (.slice Ao33 y217.length co33) ∧ w'.cell? ⟨gb205, 2, none⟩ = some (u206002)) (ds := [10]) #[false, false, false, false, false, false, false, false, false, false, false] (by kernel_rfl) rfl rfl ⟨(blk_cell BK205.out 0).trans rfl, (blk_cell BK205.out 1).trans rfl, (blk_cell BK205.out 2).trans rfl⟩ (fun hHeld => ?_); refine with_tabW spec_l27DrawPart.tab8 spec_l27DrawPart.bits8 (fun HT_ HW_ => ?_)
    generalize w37.drew = w38 at HO_206002 HO219 BK198 BK205 BK216 HI0 HK HB hHeld ⊢
    refine pure_ (i := 0) (N := some 31) (v := ?_) (a' := ?_) #[true, false, false, false, false, false, false, false, false, false, false] rfl rfl (any_of HT_.out (by kernel_rfl)) (fun _ _ _ h => h) (Or.inl ⟨by rfl, ?_⟩) ?_ ?_
    rotate_left
    ·intro w'
     go_simp
     with_reducible rfl
    rotate_left
    ·exact zV4
    refine pure_ (i := 2) (N := some 33) (v := ?_) (a' := ?_) #[true, false, true, false, false, false, false, false, false, false, false] rfl rfl (any_of HT_.out (by kernel_rfl)) (fun _ _ _ h => h) (Or.inl ⟨by rfl, ?_⟩) ?_ ?_
    rotate_left
    ·intro w'
     go_simp
     with_reducible rfl
    rotate_left
    ·exact zV4
    refine pure_ (i := 3) (N := some 34) (v := ?_) (a' := ?_) #[true, false, true, true, false, false, false, false, false, false, false] rfl rfl (any_of HT_.out (by kernel_rfl)) (fun _ _ _ h => h) (Or.inl ⟨by rfl, ?_⟩) ?_ ?_
    rotate_left
    ·intro w'
     go_simp
     with_reducible rfl
    rotate_left
    ·exact zV4
    refine take_ (i := 1) (N := some 32) (v := ?_) (a' := ?_) #[true, true, true, true, false, false, false, false, false, false, false] rfl rfl (take_ofW HT_.out HW_.out (by kernel_rfl)) (fun _ _ _ h => h) (Or.inl ⟨by rfl, ?_⟩) hHeld ?_ ?_
    rotate_left
    ·rintro w' ⟨s0, s1, s2⟩
     go_simp
     with_reducible rfl
    rotate_left
    ·exact zV4
    refine one_ (i := 4) (N := some 35) #[true, true, true, true, true, false, false, false, false, false, false] rfl rfl (one_of HT_.out (by kernel_rfl)) (by decide) (fun K hK => ?_)
    refine Kd.R_lit_step Kd.string _ 9 ?hg (N := 35) ?hd (xs := ([(⟨#[109, 97, 105, 110]⟩ : ByteArray), (⟨#[108, 111, 111, 112]⟩ : ByteArray), (⟨#[101, 110, 100]⟩ : ByteArray)] : List ByteArray)) (inner := [.string (⟨#[109, 97, 105, 110]⟩ : ByteArray), .string (⟨#[108, 111, 111, 112]⟩ : ByteArray), .string (⟨#[101, 110, 100]⟩ : ByteArray)]) (ok := fun _ => True) (okp := fun _ => True) ?hr ?hp (fun _ hk => hk) trivial (Below.refl _ _) (Nat.le_refl _) (by simp) ?_; (case hd => rfl); (case hg => rfl); (case hr => first | (go_simp; done) | (go_simp; rfl)); (case hp => exact (Reps.one (show Kd.M Kd.string _ _ _ (⟨#[109, 97, 105, 110]⟩ : ByteArray) [.string (⟨#[109, 97, 105, 110]⟩ : ByteArray)] from rfl) (Reps.one (show Kd.M Kd.string _ _ _ (⟨#[108, 111, 111, 112]⟩ : ByteArray) [.string (⟨#[108, 111, 111, 112]⟩ : ByteArray)] from rfl) (Reps.one (show Kd.M Kd.string _ _ _ (⟨#[101, 110, 100]⟩ : ByteArray) [.string (⟨#[101, 110, 100]⟩ : ByteArray)] from rfl) (Reps.none _ _)))))
    intro v225 w39 ho40 hb hg_ hnew_
    clear hg_ hnew_
    (first | rw [← Ny224.out] at ho40 | (simp only [Int.reduceToNat] at ho40; rw [← Ny224.out] at ho40))
    have n0_ := Aside0.mk (Kd.R_below (zR4 HO_206002.out) hb)
    have n1_ := Aside0.mk (Kd.R_below (zR4 HO219.out) hb)
    have n2_ := Aside0.mk (Kd.R_lower ho40 (keep_size (w := w) (g := g) (row := none) (zB4_9)))
    have n3_ := Aside0.mk (zb4 BK198.out hb)
    have n4_ := Aside0.mk (zb4 BK205.out hb)
    have n5_ := Aside0.mk (IsS161.below (zB4_10) hb)
    have n6_ := Aside0.mk (zb4 BK216.out hb)
    have n7_ := Aside0.mk (KeepBut.trans (zB4_9) (KeepBut.of_below hb g none) (.inl rfl))
    have n8_ := Aside0.mk (below_step (zB4_11) hb)
    clear HO_206002 HO219 BK198 BK205 HI0 BK216 HK HB
    have HO_206002 := n0_
    have HO219 := n1_
    have HO226 := n2_
    have BK198 := n3_
    have BK205 := n4_
    have HI0 := n5_
    have BK216 := n6_
    have HK := n7_
    have HB := n8_
    clear n0_ n1_ n2_ n3_ n4_ n5_ n6_ n7_ n8_ hb ho40
    obtain ⟨Ao41, co41, eo41⟩ := Kd.R_slice HO226.out
    (first | subst eo41 | (injection eo41 with f1_ f2_ f3_; have f4_ := f1_.symm; have f5_ := f3_.symm; clear f1_ f2_ f3_; subst f4_; subst f5_))
    refine hK.out _ _ ⟨(blk_cell BK205.out 0).trans rfl, (blk_cell BK205.out 1).trans rfl, (blk_cell BK205.out 2).trans rfl⟩ (fun hHeld => ?_)
    clear hK K
    refine norm_ (a' := ?_) ?_ ?_
    rotate_left
    ·show Act.put _ (some 35) _ = _
     simp only [Act.put, List.setIfInBounds_toArray, List.set_cons_zero, List.set_cons_succ, i64_w, i32_w]
     rfl
    refine one_ (i := 5) (N := some 36) #[true, true, true, true, true, true, false, false, false, false, false] rfl rfl (one_of HT_.out (by kernel_rfl)) (by decide) (fun K hK => ?_)
    refine goes_ Try.func105 (by kernel_rfl) rfl #[.pointer (some ⟨g, 0, none⟩), .slice Ao41 y224.length co41] (by rfl) rfl rfl zT4 ?_
    with_reducible refine (spec_l1Pick.calls g s0_0 t222 t223 _ _ y224 t227 t228 t229 w0 _ ?side1 ?side2 ?side3 ?side4 ?side5 A20.out).mono ?_
    (case side1 => repeat (first | (with_reducible first | exact HI0.out | apply IsS161.alloc | apply IsS161.drewN | apply IsS161.drew | apply IsS161.set_1 | apply IsS161.set_2 | refine IsS161.far ?_ NB0_198.out _ | refine IsS161.far ?_ NB0_205.out _ | refine IsS161.far ?_ NB0_216.out _) | exact HI0.out))
    (case side2 => repeat (first | (with_reducible first | exact HB.out | apply below_alloc | apply pw_below_drewN | apply below_drew1 | refine below_set ?_ (IsS161.ge HI0.out) | refine below_set ?_ GE198.out | refine below_set ?_ GE205.out | refine below_set ?_ GE216.out) | exact HB.out))
    (case side3 => exact zC4 (Kd.R_reads' HO226.out).2.2)
    (case side4 => exact (Kd.R_reads' HO226.out).2.1)
    (case side5 => exact far_slice (IsS161.own_ne HI0.out HO226.out (by decide)))
    rintro e w42 ⟨rfl, hi, hb, hk⟩
    refine ⟨_, rfl, ?_⟩
    have n0_ := Aside0.mk (Kd.R_mono (Kd.R_keep (IsS161.apart (show IsS161 w0 _ g s0_0 t222 t223 from zB4_10) (zR4 HO_206002.out) (by decide)) hk (fun _ h => h.2)) (fun _ h => h.1))
    have n1_ := Aside0.mk (zh4 hk BK198.out NB198_0.out)
    have n2_ := Aside0.mk (zh4 hk BK205.out NB205_0.out)
    have n3_ := Aside0.mk (zh4 hk BK216.out NB216_0.out)
    have n4_ := Aside0.mk (Kd.R_mono (Kd.R_keep (IsS161.apart (show IsS161 w0 _ g s0_0 t222 t223 from zB4_10) (zR4 HO219.out) (by decide)) hk (fun _ h => h.2)) (fun _ h => h.1))
    have n5_ := Aside0.mk (Kd.R_mono (Kd.R_keep (IsS161.apart (show IsS161 w0 _ g s0_0 t222 t223 from zB4_10) (zR4 HO226.out) (by decide)) hk (fun _ h => h.2)) (fun _ h => h.1))
    have n6_ := Aside0.mk (KeepBut.trans (zB4_9) hk (.inl rfl))
    have n7_ := Aside0.mk (hb)
    have n8_ := Aside0.mk (hi)
    clear HO_206002 BK198 BK205 BK216 HO219 HO226 HK HB HI0
    have HO_206002 := n0_
    have BK198 := n1_
    have BK205 := n2_
    have BK216 := n3_
    have HO219 := n4_
    have HO226 := n5_
    have HK := n6_
    have HB := n7_
    have HI0 := n8_
    clear n0_ n1_ n2_ n3_ n4_ n5_ n6_ n7_ n8_
    (try clear hb)
    (try clear hb2)
    (try clear hk)
    (try clear hi)
    refine hK.out _ _ ⟨(blk_cell BK205.out 0).trans rfl, (blk_cell BK205.out 1).trans rfl, (blk_cell BK205.out 2).trans rfl⟩ (fun hHeld => ?_)
    clear hK K
    refine norm_ (a' := ?_) ?_ ?_
    rotate_left
    ·show Act.put _ (some 36) _ = _
     simp only [Act.put, List.setIfInBounds_toArray, List.set_cons_zero, List.set_cons_succ, i64_w, i32_w]
     rfl
    refine pure_ (i := 6) (N := some 37) (v := ?_) (a' := ?_) #[true, true, true, true, true, true, true, false, false, false, false] rfl rfl (any_of HT_.out (by kernel_rfl)) (fun _ _ _ h => h) (Or.inl ⟨by rfl, ?_⟩) ?_ ?_
    rotate_left
    ·intro w'
     go_simp
     with_reducible rfl
    rotate_left
    ·exact zV4
    refine one_ (i := 7) (N := some 38) #[true, true, true, true, true, true, true, true, false, false, false] rfl rfl (one_of HT_.out (by kernel_rfl)) (by decide) (fun K hK => ?_)
    refine value_ (w1 := ?_) (v := ?_) (by rfl) rfl ?_ ?_
    rotate_left 2
    ·go_simp
     constructor
     ·rfl
     ·rfl
    refine hK.out _ _ ⟨(blk_cell (blk_alloc BK205.out _) 0).trans rfl, (blk_cell (blk_alloc BK205.out _) 1).trans rfl, (blk_cell (blk_alloc BK205.out _) 2).trans rfl⟩ (fun hHeld => ?_)
    clear hK K
    refine norm_ (a' := ?_) ?_ ?_
    rotate_left
    ·show Act.put _ (some 38) _ = _
     simp only [Act.put, List.setIfInBounds_toArray, List.set_cons_zero, List.set_cons_succ, i64_w, i32_w]
     rfl
    refine one_ (i := 8) (N := some 39) #[true, true, true, true, true, true, true, true, true, false, false] rfl rfl (one_of HT_.out (by kernel_rfl)) (by decide) (fun K hK => ?_)
    refine Kd.R_append_step k56 w.heap.size (by rfl) (.tmp 32) (.tmp 38) 43 56 (.agg #[(.int .i64 0), (.string ⟨#[]⟩)]) 24 rfl Try.underlying43 info56 rfl (by decide) (by omega) u206002 x206002_1 (⟨x4_1, t227⟩ : S56) [.int .i64 x4_1, .string t227] (fun _ => True) (fun _ => False) rfl rfl ?aP (fun _ hk => hk.elim) ?aF ?aO (Below.refl _ _) ?aS ?aL ?_
    (case aP => exact k56_mkM _ _ _ (⟨x4_1, t227⟩ : S56))
    (case aF => exact (fun _ _ => trivial))
    (case aO => exact (zR4 HO_206002.out))
    (case aS => exact (keep_size (w := w) (g := g) (row := none) (zB4_9)))
    (case aL => have := LMc21.out; omega)
    intro v231 w43 ho hb hg hat
    rw [← Ny230.out] at ho
    have n0_ := Aside0.mk (zg4 BK198.out hg (Kd.R_ne HO_206002.out BK198.out (by decide)))
    have n1_ := Aside0.mk (zg4 BK205.out hg (Kd.R_ne HO_206002.out BK205.out (by decide)))
    have n2_ := Aside0.mk (IsS161.grown (zB4_10) hg (IsS161.own_ne HI0.out HO_206002.out (by decide)))
    have n3_ := Aside0.mk (zg4 BK216.out hg (Kd.R_ne HO_206002.out BK216.out (by decide)))
    have n4_ := Aside0.mk (Kd.R_over' (zR4 HO219.out) (Kd.R_typed (zR4 HO_206002.out)) (by decide) hg)
    have n5_ := Aside0.mk (Kd.R_over' (zR4 HO226.out) (Kd.R_typed (zR4 HO_206002.out)) (by decide) hg)
    have n6_ := Aside0.mk (below_weaken (zB4_11) HL.out hb)
    have n7_ := Aside0.mk (KeepBut.trans (zB4_9) (KeepBut.of_grown hg g) (Kd.R_base2 HO_206002.out))
    have n8_ := Aside0.mk (ho)
    clear BK198 BK205 HI0 BK216 HO219 HO226 HB HK HO_206002
    have BK198 := n0_
    have BK205 := n1_
    have HI0 := n2_
    have BK216 := n3_
    have HO219 := n4_
    have HO226 := n5_
    have HB := n6_
    have HK := n7_
    have HO232 := n8_
    clear n0_ n1_ n2_ n3_ n4_ n5_ n6_ n7_ n8_ ho hb hg hat
    obtain ⟨Ao44, co44, eo44⟩ := Kd.R_slice HO232.out
    (first | subst eo44 | (injection eo44 with f1_ f2_ f3_; have f4_ := f1_.symm; have f5_ := f3_.symm; clear f1_ f2_ f3_; subst f4_; subst f5_))
    refine hK.out _ _ ⟨(blk_cell BK205.out 0).trans rfl, (blk_cell BK205.out 1).trans rfl, (blk_cell BK205.out 2).trans rfl⟩ (fun hHeld => ?_)
    clear hK K
    refine norm_ (a' := ?_) ?_ ?_
    rotate_left
    ·show Act.put _ (some 39) _ = _
     simp only [Act.put, List.setIfInBounds_toArray, List.set_cons_zero, List.set_cons_succ, i64_w, i32_w]
     rfl
    refine pure_ (i := 9) (N := some 40) (v := ?_) (a' := ?_) #[true, true, true, true, true, true, true, true, true, true, false] rfl rfl (any_of HT_.out (by kernel_rfl)) (fun _ _ _ h => h) (Or.inl ⟨by rfl, ?_⟩) ?_ ?_
    rotate_left
    ·intro w'
     go_simp
     with_reducible rfl
    rotate_left
    ·exact zV4
    refine last_ (i := 10) (N := none) #[true, true, true, true, true, true, true, true, true, true, true] rfl rfl (one_of HT_.out (by kernel_rfl)) (by decide) (fun K hK => ?_)
    have hs45 : w43.cell? ⟨gb205, 2, none⟩ = some (u206002) := (blk_cell BK205.out 2).trans rfl
    have hfs45 := blk_frozen BK205.out 2
    have hns45_0 := NB198_205.out
    have hns45_2 := NB216_205.out
    have hms45_0 := NB205_198.out
    have hms45_2 := NB205_216.out
    refine skip_ (w1 := ?_) (by rfl) rfl ?_ ?_
    rotate_left
    ·go_simp
     rfl
    refine hK.out _ _ ?_
    clear hK K
    refine done_ (done_of HT_.out (by kernel_rfl)) ?_
    try go_wp2
    go_roundg k1
    case measure => have := HK1.out; omega
    case rel => exact ⟨(wrap64 (x4_1 + 1)), (t228), (t229), (y217), (y230), (.slice Ao33 y217.length co33), (.slice Ao44 y230.length co44), (by first | rfl | (simp; done) | (simp [*]; done)), H', ⟨by have := HK1.out; omega⟩, ⟨by (with_reducible repeat (first | apply Kd.R_alloc | apply Kd.R_drewN | apply Kd.R_drew)); exact Kd.R_mono (Kd.R_far (p := ⟨gb205, 2, none⟩) (Kd.R_types HO219.out BK205.out (by decide)) (fun _ hk => hk.2) (.slice Ao44 y230.length co44)) (fun _ hk => trivial)⟩, ⟨by (with_reducible repeat (first | apply Kd.R_alloc | apply Kd.R_drewN | apply Kd.R_drew)); exact Kd.R_mono (Kd.R_far (p := ⟨gb205, 2, none⟩) (Kd.R_types HO232.out BK205.out (by decide)) (fun _ hk => hk.2) (.slice Ao44 y230.length co44)) (fun _ hk => trivial)⟩, ⟨by refine zP4 ?_; refine blk_far ?_ NB198_205.out _; refine zP4 ?_; exact BK198.out⟩, ⟨by refine zP4 ?_; refine blk_put (cs := #[.string t202, .slice Ao33 y217.length co33, u206002]) ?_ 2 _ rfl; refine zP4 ?_; exact BK205.out⟩, ⟨zB4_10⟩, ⟨zB4_9⟩, ⟨zB4_11⟩⟩
   rw [if_neg c13] at H
   have c13b0 : decide (x4_1 < (wrap64 (1 + t206))) = false := decide_eq_false c13
   clear c13
   replace H := Option.bind_eq_some_iff.mp H
   obtain ⟨⟨t233, t234, t235⟩, A770, H⟩ := H
   replace H : (if t233 = 0 then ((spec_l1Pick.f s0_0 t234 t235 (([(⟨#[]⟩ : ByteArray), (⟨#[97, 98, 99, 100, 101, 102, 103, 104, 105]⟩ : ByteArray), (⟨#[97, 49]⟩ : ByteArray)] : List ByteArray))).bind fun bt239 => (some (bt239.1, x206001_1, x206002_1, bt239.2.1, bt239.2.2))) else (if t233 = 1 then ((spec_l1Below.f s0_0 t234 t235 4).bind fun bt242 => (if x206002_1.length < 5864062014805 then (some (t202, x206001_1, (x206002_1 ++ [(⟨wrap64 (bt242.1 - 1), (⟨#[101, 110, 100]⟩ : ByteArray)⟩ : S56)]), bt242.2.1, bt242.2.2)) else (none))) else (if t233 = 2 then ((spec_l1Below.f s0_0 t234 t235 256).bind fun bt248 => ((spec_l1Below.f s0_0 bt248.2.1 bt248.2.2 256).bind fun bt251 => ((spec_l8DrawOne.f k1 (([(bt248.1) % 256, (bt251.1) % 256] : List Int))).bind fun bt257 => (if 0 < (x206001_1.length : Int) then (some (t202, (x206001_1.set (0 : Int).toNat (⟨bt257.1, bt257.2.1, bt257.2.2.1, bt257.2.2.2.1, bt257.2.2.2.2⟩ : S52)), x206002_1, bt251.2.1, bt251.2.2)) else (none))))) else (some (t202, x206001_1, x206002_1, t234, t235))))) = some (r1, r2, r3, r4, r5) := H
   have A77 := Aside0.mk A770
   clear A770
   by_cases c78 : t233 = 0
   ·rw [if_pos c78] at H
    have c78b0 : (t233 == 0) = true := beq_iff_eq.mpr c78
    have c78b1 : (t233 != 0) = false := bne_eq_false_iff_eq.mpr c78
    clear c78
    obtain ⟨y236, hy236⟩ : ∃ y_ : List ByteArray, y_ = (([(⟨#[]⟩ : ByteArray), (⟨#[97, 98, 99, 100, 101, 102, 103, 104, 105]⟩ : ByteArray), (⟨#[97, 49]⟩ : ByteArray)] : List ByteArray)) := ⟨_, rfl⟩
    replace H : ((spec_l1Pick.f s0_0 t234 t235 y236).bind fun bt239 => (some (bt239.1, x206001_1, x206002_1, bt239.2.1, bt239.2.2))) = some (r1, r2, r3, r4, r5) := by first | (rw [hy236]; with_reducible exact H) | (have H2_ := (Option.bind_some _ _).symm.trans H; rw [hy236]; with_reducible exact H2_) | (have H2_ := (Option.bind_some _ _).symm.trans H; with_reducible exact H2_) | with_reducible exact H | (rw [hy236]; exact H) | exact H
    have Ny236 := Aside0.mk hy236
    clear hy236
    replace H := Option.bind_eq_some_iff.mp H
    obtain ⟨⟨t239, t240, t241⟩, A790, H⟩ := H
    replace H : (some (t239, x206001_1, x206002_1, t240, t241)) = some (r1, r2, r3, r4, r5) := H
    have A79 := Aside0.mk A790
    clear A790
    simp only [Option.some.injEq, Prod.mk.injEq] at H
    obtain ⟨rfl, rfl, rfl, rfl, rfl⟩ := H
    go_wp2_with (first | ((with_reducible refine gate_callee (f := 123) rfl ?_); refine goesL_ (some 12) rfl rfl Try.func123 (by kernel_rfl) rfl #[.pointer (some ⟨g, 0, none⟩), .int .i64 5] rfl zT4 ?_; (with_reducible refine (spec_l1Below.calls g s0_0 x1001_1 x1002_1 5 t206 t207 t208 w0 _ ?side1 ?side2 A12.out).mono ?_); (case side1 => repeat (first | (with_reducible first | exact HI0.out | apply IsS161.alloc | apply IsS161.drewN | apply IsS161.drew | apply IsS161.set_1 | apply IsS161.set_2 | refine IsS161.far ?_ NB0_198.out _ | refine IsS161.far ?_ NB0_205.out _) | exact HI0.out)); (case side2 => repeat (first | (with_reducible first | exact HB.out | apply below_alloc | apply pw_below_drewN | apply below_drew1 | refine below_set ?_ (IsS161.ge HI0.out) | refine below_set ?_ GE198.out | refine below_set ?_ GE205.out) | exact HB.out)); rintro e w80 ⟨rfl, hi, hb, hk⟩; refine ⟨_, rfl, ?_⟩; have n0_ := Aside0.mk (Kd.R_mono (Kd.R_keep (IsS161.apart (show IsS161 w0 _ g s0_0 x1001_1 x1002_1 from zB4_6) (zR4 HO_206001.out) (by decide)) hk (fun _ h => h.2)) (fun _ h => h.1)); have n1_ := Aside0.mk (Kd.R_mono (Kd.R_keep (IsS161.apart (show IsS161 w0 _ g s0_0 x1001_1 x1002_1 from zB4_6) (zR4 HO_206002.out) (by decide)) hk (fun _ h => h.2)) (fun _ h => h.1)); have n2_ := Aside0.mk (zh4 hk BK198.out NB198_0.out); have n3_ := Aside0.mk (zh4 hk BK205.out NB205_0.out); have n4_ := Aside0.mk (KeepBut.trans (zB4_7) hk (.inl rfl)); have n5_ := Aside0.mk (hb); have n6_ := Aside0.mk (hi); clear HO_206001; clear HO_206002; clear BK198; clear BK205; clear HK; clear HB; clear HI0; have HO_206001 := n0_; have HO_206002 := n1_; have BK198 := n2_; have BK205 := n3_; have HK := n4_; have HB := n5_; have HI0 := n6_; clear n0_ n1_ n2_ n3_ n4_ n5_ n6_; (try clear hb); (try clear hb2); (try clear hk); (try clear hi)) | ((with_reducible refine gate_callee (f := 123) rfl ?_); refine goesL_ (some 42) rfl rfl Try.func123 (by kernel_rfl) rfl #[.pointer (some ⟨g, 0, none⟩), .int .i64 14] rfl zT4 ?_; (with_reducible refine (spec_l1Below.calls g s0_0 t207 t208 14 t233 t234 t235 w0 _ ?side1 ?side2 A77.out).mono ?_); (case side1 => repeat (first | (with_reducible first | exact HI0.out | apply IsS161.alloc | apply IsS161.drewN | apply IsS161.drew | apply IsS161.set_1 | apply IsS161.set_2 | refine IsS161.far ?_ NB0_198.out _ | refine IsS161.far ?_ NB0_205.out _) | exact HI0.out)); (case side2 => repeat (first | (with_reducible first | exact HB.out | apply below_alloc | apply pw_below_drewN | apply below_drew1 | refine below_set ?_ (IsS161.ge HI0.out) | refine below_set ?_ GE198.out | refine below_set ?_ GE205.out) | exact HB.out)); rintro e w81 ⟨rfl, hi, hb, hk⟩; refine ⟨_, rfl, ?_⟩; have n0_ := Aside0.mk (Kd.R_mono (Kd.R_keep (IsS161.apart (show IsS161 w0 _ g s0_0 t207 t208 from zB4_6) (zR4 HO_206001.out) (by decide)) hk (fun _ h => h.2)) (fun _ h => h.1)); have n1_ := Aside0.mk (Kd.R_mono (Kd.R_keep (IsS161.apart (show IsS161 w0 _ g s0_0 t207 t208 from zB4_6) (zR4 HO_206002.out) (by decide)) hk (fun _ h => h.2)) (fun _ h => h.1)); have n2_ := Aside0.mk (zh4 hk BK198.out NB198_0.out); have n3_ := Aside0.mk (zh4 hk BK205.out NB205_0.out); have n4_ := Aside0.mk (KeepBut.trans (zB4_7) hk (.inl rfl)); have n5_ := Aside0.mk (hb); have n6_ := Aside0.mk (hi); clear HO_206001; clear HO_206002; clear BK198; clear BK205; clear HK; clear HB; clear HI0; have HO_206001 := n0_; have HO_206002 := n1_; have BK198 := n2_; have BK205 := n3_; have HK := n4_; have HB := n5_; have HI0 := n6_; clear n0_ n1_ n2_ n3_ n4_ n5_ n6_; (try clear hb); (try clear hb2); (try clear hk); (try clear hi)) | ((with_reducible refine gate_dst (N := 46) rfl ?_); refine Kd.R_lit Kd.string _ 9 ?hg (N := 46) ?hd (xs := ([(⟨#[]⟩ : ByteArray), (⟨#[97, 98, 99, 100, 101, 102, 103, 104, 105]⟩ : ByteArray), (⟨#[97, 49]⟩ : ByteArray)] : List ByteArray)) (inner := [.string (⟨#[]⟩ : ByteArray), .string (⟨#[97, 98, 99, 100, 101, 102, 103, 104, 105]⟩ : ByteArray), .string (⟨#[97, 49]⟩ : ByteArray)]) (ok := fun _ => True) (okp := fun _ => True) ?hr ?hp (fun _ hk => hk) trivial (Below.refl _ _) (Nat.le_refl _) (by simp) ?_; (case hd => rfl); (case hg => rfl); (case hr => first | (go_simp; done) | (go_simp; rfl)); (case hp => exact (Reps.one (show Kd.M Kd.string _ _ _ (⟨#[]⟩ : ByteArray) [.string (⟨#[]⟩ : ByteArray)] from rfl) (Reps.one (show Kd.M Kd.string _ _ _ (⟨#[97, 98, 99, 100, 101, 102, 103, 104, 105]⟩ : ByteArray) [.string (⟨#[97, 98, 99, 100, 101, 102, 103, 104, 105]⟩ : ByteArray)] from rfl) (Reps.one (show Kd.M Kd.string _ _ _ (⟨#[97, 49]⟩ : ByteArray) [.string (⟨#[97, 49]⟩ : ByteArray)] from rfl) (Reps.none _ _))))); intro v237 w82 ho83 hb hg_ hnew_; clear hg_ hnew_; (first | rw [← Ny236.out] at ho83 | (simp only [Int.reduceToNat] at ho83; rw [← Ny236.out] at ho83)); have n0_ := Aside0.mk (Kd.R_below (zR4 HO_206001.out) hb); have n1_ := Aside0.mk (Kd.R_below (zR4 HO_206002.out) hb); have n2_ := Aside0.mk (Kd.R_lower ho83 (keep_size (w := w) (g := g) (row := none) (zB4_7))); have n3_ := Aside0.mk (zb4 BK198.out hb); have n4_ := Aside0.mk (zb4 BK205.out hb); have n5_ := Aside0.mk (IsS161.below (zB4_6) hb); have n6_ := Aside0.mk (KeepBut.trans (zB4_7) (KeepBut.of_below hb g none) (.inl rfl)); have n7_ := Aside0.mk (below_step (zB4_8) hb); clear HO_206001; clear HO_206002; clear BK198; clear BK205; clear HI0; clear HK; clear HB; have HO_206001 := n0_; have HO_206002 := n1_; have HO238 := n2_; have BK198 := n3_; have BK205 := n4_; have HI0 := n5_; have HK := n6_; have HB := n7_; clear n0_ n1_ n2_ n3_ n4_ n5_ n6_ n7_; clear hb ho83; obtain ⟨Ao84, co84, eo84⟩ := Kd.R_slice HO238.out; subst eo84) | ((with_reducible refine gate_callee (f := 105) rfl ?_); refine goesL_ (some 47) rfl rfl Try.func105 (by kernel_rfl) rfl #[.pointer (some ⟨g, 0, none⟩), .slice Ao84 y236.length co84] rfl zT4 ?_; (with_reducible refine (spec_l1Pick.calls g s0_0 t234 t235 _ _ y236 t239 t240 t241 w0 _ ?side1 ?side2 ?side3 ?side4 ?side5 A79.out).mono ?_); (case side1 => repeat (first | (with_reducible first | exact HI0.out | apply IsS161.alloc | apply IsS161.drewN | apply IsS161.drew | apply IsS161.set_1 | apply IsS161.set_2 | refine IsS161.far ?_ NB0_198.out _ | refine IsS161.far ?_ NB0_205.out _) | exact HI0.out)); (case side2 => repeat (first | (with_reducible first | exact HB.out | apply below_alloc | apply pw_below_drewN | apply below_drew1 | refine below_set ?_ (IsS161.ge HI0.out) | refine below_set ?_ GE198.out | refine below_set ?_ GE205.out) | exact HB.out)); (case side3 => exact zC4 (Kd.R_reads' HO238.out).2.2); (case side4 => exact (Kd.R_reads' HO238.out).2.1); (case side5 => exact far_slice (IsS161.own_ne HI0.out HO238.out (by decide))); rintro e w85 ⟨rfl, hi, hb, hk⟩; refine ⟨_, rfl, ?_⟩; have n0_ := Aside0.mk (Kd.R_mono (Kd.R_keep (IsS161.apart (show IsS161 w0 _ g s0_0 t234 t235 from zB4_6) (zR4 HO_206001.out) (by decide)) hk (fun _ h => h.2)) (fun _ h => h.1)); have n1_ := Aside0.mk (Kd.R_mono (Kd.R_keep (IsS161.apart (show IsS161 w0 _ g s0_0 t234 t235 from zB4_6) (zR4 HO_206002.out) (by decide)) hk (fun _ h => h.2)) (fun _ h => h.1)); have n2_ := Aside0.mk (zh4 hk BK198.out NB198_0.out); have n3_ := Aside0.mk (zh4 hk BK205.out NB205_0.out); have n4_ := Aside0.mk (Kd.R_mono (Kd.R_keep (IsS161.apart (show IsS161 w0 _ g s0_0 t234 t235 from zB4_6) (zR4 HO238.out) (by decide)) hk (fun _ h => h.2)) (fun _ h => h.1)); have n5_ := Aside0.mk (KeepBut.trans (zB4_7) hk (.inl rfl)); have n6_ := Aside0.mk (hb); have n7_ := Aside0.mk (hi); clear HO_206001; clear HO_206002; clear BK198; clear BK205; clear HO238; clear HK; clear HB; clear HI0; have HO_206001 := n0_; have HO_206002 := n1_; have BK198 := n2_; have BK205 := n3_; have HO238 := n4_; have HK := n5_; have HB := n6_; have HI0 := n7_; clear n0_ n1_ n2_ n3_ n4_ n5_ n6_ n7_; (try clear hb); (try clear hb2); (try clear hk); (try clear hi); have hnb86 := NB205_198.out; have hnc86 := NB198_205.out; have hnb87 := NB205_0.out; have hnc87 := NB0_205.out; obtain ⟨hcz88_0, hcz88_1, hcz88_2, hfz88_0, hfz88_1, hfz88_2⟩ := zc4_3 (w := w85) BK205.out; have hnb89 := NB198_0.out; have hnc89 := NB0_198.out; obtain ⟨hcz90_0, hcz90_1, hcz90_2, hfz90_0, hfz90_1, hfz90_2⟩ := zc4_3 (w := w85) BK198.out; obtain ⟨Ao91, co91, eo91⟩ := Kd.R_slice HO_206001.out; subst eo91; obtain ⟨Ao92, co92, eo92⟩ := Kd.R_slice HO_206002.out; subst eo92))
    refine bodyPost_ret (results_cell_row rfl _ _ gb198 45 #[.string t239, .slice Ao91 x206001_1.length co91, .slice Ao92 x206002_1.length co92] (0, 0) _ rfl (by refine zP4 ?_; refine blk_put (cs := #[.string t239, .slice Ao91 x206001_1.length co91, .slice none 0 0]) ?_ 2 _ rfl; refine zP4 ?_; refine blk_put (cs := #[.string t239, .slice none 0 0, .slice none 0 0]) ?_ 1 _ rfl; refine zP4 ?_; refine blk_put (cs := #[.string (⟨#[]⟩ : ByteArray), .slice none 0 0, .slice none 0 0]) ?_ 0 _ rfl; refine zP4 ?_; refine blk_far ?_ NB198_205.out _; refine zP4 ?_; exact BK198.out) Try.underlying45 rfl (by kernel_rfl)) rfl ?_
    exact ⟨_, _, zE4, by (with_reducible repeat (first | apply Kd.R_alloc | apply Kd.R_drewN | apply Kd.R_drew)); exact Kd.R_mono (Kd.R_far (p := ⟨gb198, 2, none⟩) (Kd.R_far (p := ⟨gb198, 1, none⟩) (Kd.R_far (p := ⟨gb198, 0, none⟩) (Kd.R_far (p := ⟨gb205, 0, none⟩) (Kd.R_types (Kd.R_types HO_206001.out BK205.out (by decide)) BK198.out (by decide)) (fun _ hk => hk.1.2) (.string t239)) (fun _ hk => hk.2) (.string t239)) (fun _ hk => hk.2) (.slice Ao91 x206001_1.length co91)) (fun _ hk => hk.2) (.slice Ao92 x206002_1.length co92)) (fun _ hk => trivial), by (with_reducible repeat (first | apply Kd.R_alloc | apply Kd.R_drewN | apply Kd.R_drew)); exact Kd.R_mono (Kd.R_far (p := ⟨gb198, 2, none⟩) (Kd.R_far (p := ⟨gb198, 1, none⟩) (Kd.R_far (p := ⟨gb198, 0, none⟩) (Kd.R_far (p := ⟨gb205, 0, none⟩) (Kd.R_types (Kd.R_types HO_206002.out BK205.out (by decide)) BK198.out (by decide)) (fun _ hk => hk.1.2) (.string t239)) (fun _ hk => hk.2) (.string t239)) (fun _ hk => hk.2) (.slice Ao91 x206001_1.length co91)) (fun _ hk => hk.2) (.slice Ao92 x206002_1.length co92)) (fun _ hk => trivial), zB4_6, zB4_8, zB4_7⟩
   rw [if_neg c78] at H
   have c78b0 : (t233 == 0) = false := beq_eq_false_iff_ne.mpr c78
   have c78b1 : (t233 != 0) = true := bne_iff_ne.mpr c78
   by_cases c93 : t233 = 1
   ·rw [if_pos c93] at H
    have c93b0 : (t233 == 1) = true := beq_iff_eq.mpr c93
    have c93b1 : (t233 != 1) = false := bne_eq_false_iff_eq.mpr c93
    clear c93
    replace H := Option.bind_eq_some_iff.mp H
    obtain ⟨⟨t242, t243, t244⟩, A940, H⟩ := H
    replace H : (if x206002_1.length < 5864062014805 then (some (t202, x206001_1, (x206002_1 ++ [(⟨wrap64 (t242 - 1), (⟨#[101, 110, 100]⟩ : ByteArray)⟩ : S56)]), t243, t244)) else (none)) = some (r1, r2, r3, r4, r5) := H
    have A94 := Aside0.mk A940
    clear A940
    by_cases c95 : x206002_1.length < 5864062014805
    rotate_left
    ·rw [if_neg c95] at H
     exact absurd H (by simp)
    rw [if_pos c95] at H
    have LMc95 := Aside0.mk c95
    clear c95
    obtain ⟨y245, hy245⟩ : ∃ y_ : List (S56), y_ = (x206002_1 ++ [(⟨wrap64 (t242 - 1), (⟨#[101, 110, 100]⟩ : ByteArray)⟩ : S56)]) := ⟨_, rfl⟩
    replace H : (some (t202, x206001_1, y245, t243, t244)) = some (r1, r2, r3, r4, r5) := by first | (rw [hy245]; with_reducible exact H) | (have H2_ := (Option.bind_some _ _).symm.trans H; rw [hy245]; with_reducible exact H2_) | (have H2_ := (Option.bind_some _ _).symm.trans H; with_reducible exact H2_) | with_reducible exact H | (rw [hy245]; exact H) | exact H
    have Ny245 := Aside0.mk hy245
    clear hy245
    simp only [Option.some.injEq, Prod.mk.injEq] at H
    obtain ⟨rfl, rfl, rfl, rfl, rfl⟩ := H
    try go_wp2_with (first | ((with_reducible refine gate_callee (f := 123) rfl ?_); refine goesL_ (some 12) rfl rfl Try.func123 (by kernel_rfl) rfl #[.pointer (some ⟨g, 0, none⟩), .int .i64 5] rfl zT4 ?_; (with_reducible refine (spec_l1Below.calls g s0_0 x1001_1 x1002_1 5 t206 t207 t208 w0 _ ?side1 ?side2 A12.out).mono ?_); (case side1 => repeat (first | (with_reducible first | exact HI0.out | apply IsS161.alloc | apply IsS161.drewN | apply IsS161.drew | apply IsS161.set_1 | apply IsS161.set_2 | refine IsS161.far ?_ NB0_198.out _ | refine IsS161.far ?_ NB0_205.out _) | exact HI0.out)); (case side2 => repeat (first | (with_reducible first | exact HB.out | apply below_alloc | apply pw_below_drewN | apply below_drew1 | refine below_set ?_ (IsS161.ge HI0.out) | refine below_set ?_ GE198.out | refine below_set ?_ GE205.out) | exact HB.out)); rintro e w96 ⟨rfl, hi, hb, hk⟩; refine ⟨_, rfl, ?_⟩; have n0_ := Aside0.mk (Kd.R_mono (Kd.R_keep (IsS161.apart (show IsS161 w0 _ g s0_0 x1001_1 x1002_1 from zB4_6) (zR4 HO_206001.out) (by decide)) hk (fun _ h => h.2)) (fun _ h => h.1)); have n1_ := Aside0.mk (Kd.R_mono (Kd.R_keep (IsS161.apart (show IsS161 w0 _ g s0_0 x1001_1 x1002_1 from zB4_6) (zR4 HO_206002.out) (by decide)) hk (fun _ h => h.2)) (fun _ h => h.1)); have n2_ := Aside0.mk (zh4 hk BK198.out NB198_0.out); have n3_ := Aside0.mk (zh4 hk BK205.out NB205_0.out); have n4_ := Aside0.mk (KeepBut.trans (zB4_7) hk (.inl rfl)); have n5_ := Aside0.mk (hb); have n6_ := Aside0.mk (hi); clear HO_206001; clear HO_206002; clear BK198; clear BK205; clear HK; clear HB; clear HI0; have HO_206001 := n0_; have HO_206002 := n1_; have BK198 := n2_; have BK205 := n3_; have HK := n4_; have HB := n5_; have HI0 := n6_; clear n0_ n1_ n2_ n3_ n4_ n5_ n6_; (try clear hb); (try clear hb2); (try clear hk); (try clear hi)) | ((with_reducible refine gate_callee (f := 123) rfl ?_); refine goesL_ (some 42) rfl rfl Try.func123 (by kernel_rfl) rfl #[.pointer (some ⟨g, 0, none⟩), .int .i64 14] rfl zT4 ?_; (with_reducible refine (spec_l1Below.calls g s0_0 t207 t208 14 t233 t234 t235 w0 _ ?side1 ?side2 A77.out).mono ?_); (case side1 => repeat (first | (with_reducible first | exact HI0.out | apply IsS161.alloc | apply IsS161.drewN | apply IsS161.drew | apply IsS161.set_1 | apply IsS161.set_2 | refine IsS161.far ?_ NB0_198.out _ | refine IsS161.far ?_ NB0_205.out _) | exact HI0.out)); (case side2 => repeat (first | (with_reducible first | exact HB.out | apply below_alloc | apply pw_below_drewN | apply below_drew1 | refine below_set ?_ (IsS161.ge HI0.out) | refine below_set ?_ GE198.out | refine below_set ?_ GE205.out) | exact HB.out)); rintro e w97 ⟨rfl, hi, hb, hk⟩; refine ⟨_, rfl, ?_⟩; have n0_ := Aside0.mk (Kd.R_mono (Kd.R_keep (IsS161.apart (show IsS161 w0 _ g s0_0 t207 t208 from zB4_6) (zR4 HO_206001.out) (by decide)) hk (fun _ h => h.2)) (fun _ h => h.1)); have n1_ := Aside0.mk (Kd.R_mono (Kd.R_keep (IsS161.apart (show IsS161 w0 _ g s0_0 t207 t208 from zB4_6) (zR4 HO_206002.out) (by decide)) hk (fun _ h => h.2)) (fun _ h => h.1)); have n2_ := Aside0.mk (zh4 hk BK198.out NB198_0.out); have n3_ := Aside0.mk (zh4 hk BK205.out NB205_0.out); have n4_ := Aside0.mk (KeepBut.trans (zB4_7) hk (.inl rfl)); have n5_ := Aside0.mk (hb); have n6_ := Aside0.mk (hi); clear HO_206001; clear HO_206002; clear BK198; clear BK205; clear HK; clear HB; clear HI0; have HO_206001 := n0_; have HO_206002 := n1_; have BK198 := n2_; have BK205 := n3_; have HK := n4_; have HB := n5_; have HI0 := n6_; clear n0_ n1_ n2_ n3_ n4_ n5_ n6_; (try clear hb); (try clear hb2); (try clear hk); (try clear hi)))
    have n0_ := Aside0.mk (Kd.R_drew HO_206001.out)
    have n1_ := Aside0.mk (Kd.R_drew HO_206002.out)
    have n2_ := Aside0.mk (blk_drew BK198.out)
    have n3_ := Aside0.mk (blk_drew BK205.out)
    have n4_ := Aside0.mk (IsS161.drew HI0.out)
    have n5_ := Aside0.mk (keep_drew HK.out)
    have n6_ := Aside0.mk (below_drew1 HB.out)
    clear HO_206001 HO_206002 BK198 BK205 HI0 HK HB
    have HO_206001 := n0_
    have HO_206002 := n1_
    have BK198 := n2_
    have BK205 := n3_
    have HI0 := n4_
    have HK := n5_
    have HB := n6_
    clear n0_ n1_ n2_ n3_ n4_ n5_ n6_
    refine start_ (n := 10) (S := fun w' => w'.cell? ⟨gb205, 0, none⟩ = some (.string t202) ∧ w'.cell? ⟨gb205, 1, none⟩ = some (u206001) ∧ w'.cell? ⟨gb205, 2, none⟩ = some (u206002)) (ds := [9]) #[false, false, false, false, false, false, false, false, false, false] (by kernel_rfl) rfl rfl ⟨(blk_cell BK205.out 0).trans rfl, (blk_cell BK205.out 1).trans rfl, (blk_cell BK205.out 2).trans rfl⟩ (fun hHeld => ?_); refine with_tabW spec_l27DrawPart.tab13 spec_l27DrawPart.bits13 (fun HT_ HW_ => ?_)
    generalize w97.drew = w98 at HO_206001 HO_206002 BK198 BK205 HI0 HK HB hHeld ⊢
    refine pure_ (i := 0) (N := some 51) (v := ?_) (a' := ?_) #[true, false, false, false, false, false, false, false, false, false] rfl rfl (any_of HT_.out (by kernel_rfl)) (fun _ _ _ h => h) (Or.inl ⟨by rfl, ?_⟩) ?_ ?_
    rotate_left
    ·intro w'
     go_simp
     with_reducible rfl
    rotate_left
    ·exact zV4
    refine pure_ (i := 2) (N := some 53) (v := ?_) (a' := ?_) #[true, false, true, false, false, false, false, false, false, false] rfl rfl (any_of HT_.out (by kernel_rfl)) (fun _ _ _ h => h) (Or.inl ⟨by rfl, ?_⟩) ?_ ?_
    rotate_left
    ·intro w'
     go_simp
     with_reducible rfl
    rotate_left
    ·exact zV4
    refine take_ (i := 1) (N := some 52) (v := ?_) (a' := ?_) #[true, true, true, false, false, false, false, false, false, false] rfl rfl (take_ofW HT_.out HW_.out (by kernel_rfl)) (fun _ _ _ h => h) (Or.inl ⟨by rfl, ?_⟩) hHeld ?_ ?_
    rotate_left
    ·rintro w' ⟨s0, s1, s2⟩
     go_simp
     with_reducible rfl
    rotate_left
    ·exact zV4
    refine one_ (i := 3) (N := some 54) #[true, true, true, true, false, false, false, false, false, false] rfl rfl (one_of HT_.out (by kernel_rfl)) (by decide) (fun K hK => ?_)
    refine goes_ Try.func123 (by kernel_rfl) rfl #[.pointer (some ⟨g, 0, none⟩), .int .i64 4] (by rfl) rfl rfl zT4 ?_
    with_reducible refine (spec_l1Below.calls g s0_0 t234 t235 4 t242 t243 t244 w0 _ ?side1 ?side2 A94.out).mono ?_
    (case side1 => repeat (first | (with_reducible first | exact HI0.out | apply IsS161.alloc | apply IsS161.drewN | apply IsS161.drew | apply IsS161.set_1 | apply IsS161.set_2 | refine IsS161.far ?_ NB0_198.out _ | refine IsS161.far ?_ NB0_205.out _) | exact HI0.out))
    (case side2 => repeat (first | (with_reducible first | exact HB.out | apply below_alloc | apply pw_below_drewN | apply below_drew1 | refine below_set ?_ (IsS161.ge HI0.out) | refine below_set ?_ GE198.out | refine below_set ?_ GE205.out) | exact HB.out))
    rintro e w99 ⟨rfl, hi, hb, hk⟩
    refine ⟨_, rfl, ?_⟩
    have n0_ := Aside0.mk (Kd.R_mono (Kd.R_keep (IsS161.apart (show IsS161 w0 _ g s0_0 t234 t235 from zB4_6) (zR4 HO_206001.out) (by decide)) hk (fun _ h => h.2)) (fun _ h => h.1))
    have n1_ := Aside0.mk (Kd.R_mono (Kd.R_keep (IsS161.apart (show IsS161 w0 _ g s0_0 t234 t235 from zB4_6) (zR4 HO_206002.out) (by decide)) hk (fun _ h => h.2)) (fun _ h => h.1))
    have n2_ := Aside0.mk (zh4 hk BK198.out NB198_0.out)
    have n3_ := Aside0.mk (zh4 hk BK205.out NB205_0.out)
    have n4_ := Aside0.mk (KeepBut.trans (zB4_7) hk (.inl rfl))
    have n5_ := Aside0.mk (hb)
    have n6_ := Aside0.mk (hi)
    clear HO_206001 HO_206002 BK198 BK205 HK HB HI0
    have HO_206001 := n0_
    have HO_206002 := n1_
    have BK198 := n2_
    have BK205 := n3_
    have HK := n4_
    have HB := n5_
    have HI0 := n6_
    clear n0_ n1_ n2_ n3_ n4_ n5_ n6_
    (try clear hb)
    (try clear hb2)
    (try clear hk)
    (try clear hi)
    refine hK.out _ _ ⟨(blk_cell BK205.out 0).trans rfl, (blk_cell BK205.out 1).trans rfl, (blk_cell BK205.out 2).trans rfl⟩ (fun hHeld => ?_)
    clear hK K
    refine norm_ (a' := ?_) ?_ ?_
    rotate_left
    ·show Act.put _ (some 54) _ = _
     simp only [Act.put, List.setIfInBounds_toArray, List.set_cons_zero, List.set_cons_succ, i64_w, i32_w]
     rfl
    refine pure_ (i := 4) (N := some 55) (v := ?_) (a' := ?_) #[true, true, true, true, true, false, false, false, false, false] rfl rfl (any_of HT_.out (by kernel_rfl)) (fun _ _ _ h => h) (Or.inl ⟨by rfl, ?_⟩) ?_ ?_
    rotate_left
    ·intro w'
     go_simp
     with_reducible rfl
    rotate_left
    ·exact zV4
    refine pure_ (i := 5) (N := some 56) (v := ?_) (a' := ?_) #[true, true, true, true, true, true, false, false, false, false] rfl rfl (any_of HT_.out (by kernel_rfl)) (fun _ _ _ h => h) (Or.inl ⟨by rfl, ?_⟩) ?_ ?_
    rotate_left
    ·intro w'
     go_simp
     with_reducible rfl
    rotate_left
    ·exact zV4
    refine one_ (i := 6) (N := some 57) #[true, true, true, true, true, true, true, false, false, false] rfl rfl (one_of HT_.out (by kernel_rfl)) (by decide) (fun K hK => ?_)
    refine value_ (w1 := ?_) (v := ?_) (by rfl) rfl ?_ ?_
    rotate_left 2
    ·go_simp
     constructor
     ·rfl
     ·rfl
    refine hK.out _ _ ⟨(blk_cell (blk_alloc BK205.out _) 0).trans rfl, (blk_cell (blk_alloc BK205.out _) 1).trans rfl, (blk_cell (blk_alloc BK205.out _) 2).trans rfl⟩ (fun hHeld => ?_)
    clear hK K
    refine norm_ (a' := ?_) ?_ ?_
    rotate_left
    ·show Act.put _ (some 57) _ = _
     simp only [Act.put, List.setIfInBounds_toArray, List.set_cons_zero, List.set_cons_succ, i64_w, i32_w]
     rfl
    refine one_ (i := 7) (N := some 58) #[true, true, true, true, true, true, true, true, false, false] rfl rfl (one_of HT_.out (by kernel_rfl)) (by decide) (fun K hK => ?_)
    refine Kd.R_append_step k56 w.heap.size (by rfl) (.tmp 52) (.tmp 57) 43 56 (.agg #[(.int .i64 0), (.string ⟨#[]⟩)]) 24 rfl Try.underlying43 info56 rfl (by decide) (by omega) u206002 x206002_1 (⟨wrap64 (t242 - 1), (⟨#[101, 110, 100]⟩ : ByteArray)⟩ : S56) [.int .i64 (wrap64 (t242 - 1)), .string (⟨#[101, 110, 100]⟩ : ByteArray)] (fun _ => True) (fun _ => False) rfl rfl ?aP (fun _ hk => hk.elim) ?aF ?aO (Below.refl _ _) ?aS ?aL ?_
    (case aP => exact k56_mkM _ _ _ (⟨wrap64 (t242 - 1), (⟨#[101, 110, 100]⟩ : ByteArray)⟩ : S56))
    (case aF => exact (fun _ _ => trivial))
    (case aO => exact (zR4 HO_206002.out))
    (case aS => exact (keep_size (w := w) (g := g) (row := none) (zB4_7)))
    (case aL => have := LMc95.out; omega)
    intro v246 w100 ho hb hg hat
    rw [← Ny245.out] at ho
    have n0_ := Aside0.mk (Kd.R_over' (zR4 HO_206001.out) (Kd.R_typed (zR4 HO_206002.out)) (by decide) hg)
    have n1_ := Aside0.mk (zg4 BK198.out hg (Kd.R_ne HO_206002.out BK198.out (by decide)))
    have n2_ := Aside0.mk (zg4 BK205.out hg (Kd.R_ne HO_206002.out BK205.out (by decide)))
    have n3_ := Aside0.mk (IsS161.grown (zB4_6) hg (IsS161.own_ne HI0.out HO_206002.out (by decide)))
    have n4_ := Aside0.mk (below_weaken (zB4_8) HL.out hb)
    have n5_ := Aside0.mk (KeepBut.trans (zB4_7) (KeepBut.of_grown hg g) (Kd.R_base2 HO_206002.out))
    have n6_ := Aside0.mk (ho)
    clear HO_206001 BK198 BK205 HI0 HB HK HO_206002
    have HO_206001 := n0_
    have BK198 := n1_
    have BK205 := n2_
    have HI0 := n3_
    have HB := n4_
    have HK := n5_
    have HO247 := n6_
    clear n0_ n1_ n2_ n3_ n4_ n5_ n6_ ho hb hg hat
    obtain ⟨Ao101, co101, eo101⟩ := Kd.R_slice HO247.out
    (first | subst eo101 | (injection eo101 with f1_ f2_ f3_; have f4_ := f1_.symm; have f5_ := f3_.symm; clear f1_ f2_ f3_; subst f4_; subst f5_))
    refine hK.out _ _ ⟨(blk_cell BK205.out 0).trans rfl, (blk_cell BK205.out 1).trans rfl, (blk_cell BK205.out 2).trans rfl⟩ (fun hHeld => ?_)
    clear hK K
    refine norm_ (a' := ?_) ?_ ?_
    rotate_left
    ·show Act.put _ (some 58) _ = _
     simp only [Act.put, List.setIfInBounds_toArray, List.set_cons_zero, List.set_cons_succ, i64_w, i32_w]
     rfl
    refine pure_ (i := 8) (N := some 59) (v := ?_) (a' := ?_) #[true, true, true, true, true, true, true, true, true, false] rfl rfl (any_of HT_.out (by kernel_rfl)) (fun _ _ _ h => h) (Or.inl ⟨by rfl, ?_⟩) ?_ ?_
    rotate_left
    ·intro w'
     go_simp
     with_reducible rfl
    rotate_left
    ·exact zV4
    refine last_ (i := 9) (N := none) #[true, true, true, true, true, true, true, true, true, true] rfl rfl (one_of HT_.out (by kernel_rfl)) (by decide) (fun K hK => ?_)
    have hs102 : w100.cell? ⟨gb205, 2, none⟩ = some (u206002) := (blk_cell BK205.out 2).trans rfl
    have hfs102 := blk_frozen BK205.out 2
    have hns102_0 := NB198_205.out
    have hms102_0 := NB205_198.out
    refine skip_ (w1 := ?_) (by rfl) rfl ?_ ?_
    rotate_left
    ·go_simp
     rfl
    refine hK.out _ _ ?_
    clear hK K
    refine done_ (done_of HT_.out (by kernel_rfl)) ?_
    have hnb103 := NB205_198.out
    have hnc103 := NB198_205.out
    have hnb104 := NB205_0.out
    have hnc104 := NB0_205.out
    obtain ⟨hcz105_0, hcz105_1, hcz105_2, hfz105_0, hfz105_1, hfz105_2⟩ := zc4_3 (w := w100) BK205.out
    have hnb106 := NB198_0.out
    have hnc106 := NB0_198.out
    obtain ⟨hcz107_0, hcz107_1, hcz107_2, hfz107_0, hfz107_1, hfz107_2⟩ := zc4_3 (w := w100) BK198.out
    obtain ⟨Ao108, co108, eo108⟩ := Kd.R_slice HO_206001.out
    subst eo108
    try go_wp2
    refine bodyPost_ret (results_cell_row rfl _ _ gb198 45 #[.string t202, .slice Ao108 x206001_1.length co108, .slice Ao101 y245.length co101] (0, 0) _ rfl (by refine zP4 ?_; refine blk_put (cs := #[.string t202, .slice Ao108 x206001_1.length co108, .slice none 0 0]) ?_ 2 _ rfl; refine zP4 ?_; refine blk_put (cs := #[.string t202, .slice none 0 0, .slice none 0 0]) ?_ 1 _ rfl; refine zP4 ?_; refine blk_put (cs := #[.string (⟨#[]⟩ : ByteArray), .slice none 0 0, .slice none 0 0]) ?_ 0 _ rfl; refine zP4 ?_; refine blk_far ?_ NB198_205.out _; refine zP4 ?_; exact BK198.out) Try.underlying45 rfl (by kernel_rfl)) rfl ?_
    exact ⟨_, _, zE4, by (with_reducible repeat (first | apply Kd.R_alloc | apply Kd.R_drewN | apply Kd.R_drew)); exact Kd.R_mono (Kd.R_far (p := ⟨gb198, 2, none⟩) (Kd.R_far (p := ⟨gb198, 1, none⟩) (Kd.R_far (p := ⟨gb198, 0, none⟩) (Kd.R_far (p := ⟨gb205, 2, none⟩) (Kd.R_types (Kd.R_types HO_206001.out BK205.out (by decide)) BK198.out (by decide)) (fun _ hk => hk.1.2) (.slice Ao101 y245.length co101)) (fun _ hk => hk.2) (.string t202)) (fun _ hk => hk.2) (.slice Ao108 x206001_1.length co108)) (fun _ hk => hk.2) (.slice Ao101 y245.length co101)) (fun _ hk => trivial), by (with_reducible repeat (first | apply Kd.R_alloc | apply Kd.R_drewN | apply Kd.R_drew)); exact Kd.R_mono (Kd.R_far (p := ⟨gb198, 2, none⟩) (Kd.R_far (p := ⟨gb198, 1, none⟩) (Kd.R_far (p := ⟨gb198, 0, none⟩) (Kd.R_far (p := ⟨gb205, 2, none⟩) (Kd.R_types (Kd.R_types HO247.out BK205.out (by decide)) BK198.out (by decide)) (fun _ hk => hk.1.2) (.slice Ao101 y245.length co101)) (fun _ hk => hk.2) (.string t202)) (fun _ hk => hk.2) (.slice Ao108 x206001_1.length co108)) (fun _ hk => hk.2) (.slice Ao101 y245.length co101)) (fun _ hk => trivial), zB4_6, zB4_8, zB4_7⟩
   rw [if_neg c93] at H
   have c93b0 : (t233 == 1) = false := beq_eq_false_iff_ne.mpr c93
   have c93b1 : (t233 != 1) = true := bne_iff_ne.mpr c93
   by_cases c109 : t233 = 2
   rotate_left
   ·rw [if_neg c109] at H
    have c109b0 : (t233 == 2) = false := beq_eq_false_iff_ne.mpr c109
    have c109b1 : (t233 != 2) = true := bne_iff_ne.mpr c109
    simp only [Option.some.injEq, Prod.mk.injEq] at H
    obtain ⟨rfl, rfl, rfl, rfl, rfl⟩ := H
    go_wp2_with (first | ((with_reducible refine gate_callee (f := 123) rfl ?_); refine goesL_ (some 12) rfl rfl Try.func123 (by kernel_rfl) rfl #[.pointer (some ⟨g, 0, none⟩), .int .i64 5] rfl zT4 ?_; (with_reducible refine (spec_l1Below.calls g s0_0 x1001_1 x1002_1 5 t206 t207 t208 w0 _ ?side1 ?side2 A12.out).mono ?_); (case side1 => repeat (first | (with_reducible first | exact HI0.out | apply IsS161.alloc | apply IsS161.drewN | apply IsS161.drew | apply IsS161.set_1 | apply IsS161.set_2 | refine IsS161.far ?_ NB0_198.out _ | refine IsS161.far ?_ NB0_205.out _) | exact HI0.out)); (case side2 => repeat (first | (with_reducible first | exact HB.out | apply below_alloc | apply pw_below_drewN | apply below_drew1 | refine below_set ?_ (IsS161.ge HI0.out) | refine below_set ?_ GE198.out | refine below_set ?_ GE205.out) | exact HB.out)); rintro e w132 ⟨rfl, hi, hb, hk⟩; refine ⟨_, rfl, ?_⟩; have n0_ := Aside0.mk (Kd.R_mono (Kd.R_keep (IsS161.apart (show IsS161 w0 _ g s0_0 x1001_1 x1002_1 from zB4_6) (zR4 HO_206001.out) (by decide)) hk (fun _ h => h.2)) (fun _ h => h.1)); have n1_ := Aside0.mk (Kd.R_mono (Kd.R_keep (IsS161.apart (show IsS161 w0 _ g s0_0 x1001_1 x1002_1 from zB4_6) (zR4 HO_206002.out) (by decide)) hk (fun _ h => h.2)) (fun _ h => h.1)); have n2_ := Aside0.mk (zh4 hk BK198.out NB198_0.out); have n3_ := Aside0.mk (zh4 hk BK205.out NB205_0.out); have n4_ := Aside0.mk (KeepBut.trans (zB4_7) hk (.inl rfl)); have n5_ := Aside0.mk (hb); have n6_ := Aside0.mk (hi); clear HO_206001; clear HO_206002; clear BK198; clear BK205; clear HK; clear HB; clear HI0; have HO_206001 := n0_; have HO_206002 := n1_; have BK198 := n2_; have BK205 := n3_; have HK := n4_; have HB := n5_; have HI0 := n6_; clear n0_ n1_ n2_ n3_ n4_ n5_ n6_; (try clear hb); (try clear hb2); (try clear hk); (try clear hi)) | ((with_reducible refine gate_callee (f := 123) rfl ?_); refine goesL_ (some 42) rfl rfl Try.func123 (by kernel_rfl) rfl #[.pointer (some ⟨g, 0, none⟩), .int .i64 14] rfl zT4 ?_; (with_reducible refine (spec_l1Below.calls g s0_0 t207 t208 14 t233 t234 t235 w0 _ ?side1 ?side2 A77.out).mono ?_); (case side1 => repeat (first | (with_reducible first | exact HI0.out | apply IsS161.alloc | apply IsS161.drewN | apply IsS161.drew | apply IsS161.set_1 | apply IsS161.set_2 | refine IsS161.far ?_ NB0_198.out _ | refine IsS161.far ?_ NB0_205.out _) | exact HI0.out)); (case side2 => repeat (first | (with_reducible first | exact HB.out | apply below_alloc | apply pw_below_drewN | apply below_drew1 | refine below_set ?_ (IsS161.ge HI0.out) | refine below_set ?_ GE198.out | refine below_set ?_ GE205.out) | exact HB.out)); rintro e w133 ⟨rfl, hi, hb, hk⟩; refine ⟨_, rfl, ?_⟩; have n0_ := Aside0.mk (Kd.R_mono (Kd.R_keep (IsS161.apart (show IsS161 w0 _ g s0_0 t207 t208 from zB4_6) (zR4 HO_206001.out) (by decide)) hk (fun _ h => h.2)) (fun _ h => h.1)); have n1_ := Aside0.mk (Kd.R_mono (Kd.R_keep (IsS161.apart (show IsS161 w0 _ g s0_0 t207 t208 from zB4_6) (zR4 HO_206002.out) (by decide)) hk (fun _ h => h.2)) (fun _ h => h.1)); have n2_ := Aside0.mk (zh4 hk BK198.out NB198_0.out); have n3_ := Aside0.mk (zh4 hk BK205.out NB205_0.out); have n4_ := Aside0.mk (KeepBut.trans (zB4_7) hk (.inl rfl)); have n5_ := Aside0.mk (hb); have n6_ := Aside0.mk (hi); clear HO_206001; clear HO_206002; clear BK198; clear BK205; clear HK; clear HB; clear HI0; have HO_206001 := n0_; have HO_206002 := n1_; have BK198 := n2_; have BK205 := n3_; have HK := n4_; have HB := n5_; have HI0 := n6_; clear n0_ n1_ n2_ n3_ n4_ n5_ n6_; (try clear hb); (try clear hb2); (try clear hk); (try clear hi); have hnb134 := NB205_198.out; have hnc134 := NB198_205.out; have hnb135 := NB205_0.out; have hnc135 := NB0_205.out; obtain ⟨hcz136_0, hcz136_1, hcz136_2, hfz136_0, hfz136_1, hfz136_2⟩ := zc4_3 (w := w133) BK205.out; have hnb137 := NB198_0.out; have hnc137 := NB0_198.out; obtain ⟨hcz138_0, hcz138_1, hcz138_2, hfz138_0, hfz138_1, hfz138_2⟩ := zc4_3 (w := w133) BK198.out; obtain ⟨Ao139, co139, eo139⟩ := Kd.R_slice HO_206001.out; subst eo139; obtain ⟨Ao140, co140, eo140⟩ := Kd.R_slice HO_206002.out; subst eo140))
    refine bodyPost_ret (results_cell_row rfl _ _ gb198 45 #[.string t202, .slice Ao139 x206001_1.length co139, .slice Ao140 x206002_1.length co140] (0, 0) _ rfl (by refine zP4 ?_; refine blk_put (cs := #[.string t202, .slice Ao139 x206001_1.length co139, .slice none 0 0]) ?_ 2 _ rfl; refine zP4 ?_; refine blk_put (cs := #[.string t202, .slice none 0 0, .slice none 0 0]) ?_ 1 _ rfl; refine zP4 ?_; refine blk_put (cs := #[.string (⟨#[]⟩ : ByteArray), .slice none 0 0, .slice none 0 0]) ?_ 0 _ rfl; refine zP4 ?_; exact BK198.out) Try.underlying45 rfl (by kernel_rfl)) rfl ?_
    exact ⟨_, _, zE4, by (with_reducible repeat (first | apply Kd.R_alloc | apply Kd.R_drewN | apply Kd.R_drew)); exact Kd.R_mono (Kd.R_far (p := ⟨gb198, 2, none⟩) (Kd.R_far (p := ⟨gb198, 1, none⟩) (Kd.R_far (p := ⟨gb198, 0, none⟩) (Kd.R_types HO_206001.out BK198.out (by decide)) (fun _ hk => hk.2) (.string t202)) (fun _ hk => hk.2) (.slice Ao139 x206001_1.length co139)) (fun _ hk => hk.2) (.slice Ao140 x206002_1.length co140)) (fun _ hk => trivial), by (with_reducible repeat (first | apply Kd.R_alloc | apply Kd.R_drewN | apply Kd.R_drew)); exact Kd.R_mono (Kd.R_far (p := ⟨gb198, 2, none⟩) (Kd.R_far (p := ⟨gb198, 1, none⟩) (Kd.R_far (p := ⟨gb198, 0, none⟩) (Kd.R_types HO_206002.out BK198.out (by decide)) (fun _ hk => hk.2) (.string t202)) (fun _ hk => hk.2) (.slice Ao139 x206001_1.length co139)) (fun _ hk => hk.2) (.slice Ao140 x206002_1.length co140)) (fun _ hk => trivial), zB4_6, zB4_8, zB4_7⟩
   rw [if_pos c109] at H
   have c109b0 : (t233 == 2) = true := beq_iff_eq.mpr c109
   have c109b1 : (t233 != 2) = false := bne_eq_false_iff_eq.mpr c109
   clear c109
   replace H := Option.bind_eq_some_iff.mp H
   obtain ⟨⟨t248, t249, t250⟩, A1100, H⟩ := H
   replace H : ((spec_l1Below.f s0_0 t249 t250 256).bind fun bt251 => ((spec_l8DrawOne.f k1 (([(t248) % 256, (bt251.1) % 256] : List Int))).bind fun bt257 => (if 0 < (x206001_1.length : Int) then (some (t202, (x206001_1.set (0 : Int).toNat (⟨bt257.1, bt257.2.1, bt257.2.2.1, bt257.2.2.2.1, bt257.2.2.2.2⟩ : S52)), x206002_1, bt251.2.1, bt251.2.2)) else (none)))) = some (r1, r2, r3, r4, r5) := H
   have A110 := Aside0.mk A1100
   clear A1100
   replace H := Option.bind_eq_some_iff.mp H
   obtain ⟨⟨t251, t252, t253⟩, A1110, H⟩ := H
   replace H : ((spec_l8DrawOne.f k1 (([(t248) % 256, (t251) % 256] : List Int))).bind fun bt257 => (if 0 < (x206001_1.length : Int) then (some (t202, (x206001_1.set (0 : Int).toNat (⟨bt257.1, bt257.2.1, bt257.2.2.1, bt257.2.2.2.1, bt257.2.2.2.2⟩ : S52)), x206002_1, t252, t253)) else (none))) = some (r1, r2, r3, r4, r5) := H
   have A111 := Aside0.mk A1110
   clear A1110
   obtain ⟨y254, hy254⟩ : ∃ y_ : List Int, y_ = (([(t248) % 256, (t251) % 256] : List Int)) := ⟨_, rfl⟩
   replace H : ((spec_l8DrawOne.f k1 y254).bind fun bt257 => (if 0 < (x206001_1.length : Int) then (some (t202, (x206001_1.set (0 : Int).toNat (⟨bt257.1, bt257.2.1, bt257.2.2.1, bt257.2.2.2.1, bt257.2.2.2.2⟩ : S52)), x206002_1, t252, t253)) else (none))) = some (r1, r2, r3, r4, r5) := by first | (rw [hy254]; with_reducible exact H) | (have H2_ := (Option.bind_some _ _).symm.trans H; rw [hy254]; with_reducible exact H2_) | (have H2_ := (Option.bind_some _ _).symm.trans H; with_reducible exact H2_) | with_reducible exact H | (rw [hy254]; exact H) | exact H
   have Ny254 := Aside0.mk hy254
   clear hy254
   replace H := Option.bind_eq_some_iff.mp H
   obtain ⟨⟨t257, t258, t259, t260, t261⟩, A1120, H⟩ := H
   replace H : (if 0 < (x206001_1.length : Int) then (some (t202, (x206001_1.set (0 : Int).toNat (⟨t257, t258, t259, t260, t261⟩ : S52)), x206002_1, t252, t253)) else (none)) = some (r1, r2, r3, r4, r5) := H
   have A112 := Aside0.mk A1120
   clear A1120
   by_cases c113 : 0 < (x206001_1.length : Int)
   rotate_left
   ·rw [if_neg c113] at H
    exact absurd H (by simp)
   rw [if_pos c113] at H
   have c113b0 : decide (0 < (x206001_1.length : Int)) = true := decide_eq_true c113
   have c113b1 : decide (0 < x206001_1.length) = true := decide_eq_true (by omega)
   clear c113
   obtain ⟨y262, hy262⟩ : ∃ y_ : List (S52), y_ = (x206001_1.set (0 : Int).toNat (⟨t257, t258, t259, t260, t261⟩ : S52)) := ⟨_, rfl⟩
   replace H : (some (t202, y262, x206002_1, t252, t253)) = some (r1, r2, r3, r4, r5) := by first | (rw [hy262]; with_reducible exact H) | (have H2_ := (Option.bind_some _ _).symm.trans H; rw [hy262]; with_reducible exact H2_) | (have H2_ := (Option.bind_some _ _).symm.trans H; with_reducible exact H2_) | with_reducible exact H | (rw [hy262]; exact H) | exact H
   have Ny262 := Aside0.mk hy262
   clear hy262
   simp only [Option.some.injEq, Prod.mk.injEq] at H
   obtain ⟨rfl, rfl, rfl, rfl, rfl⟩ := H
   try go_wp2_with (first | ((with_reducible refine gate_callee (f := 123) rfl ?_); refine goesL_ (some 12) rfl rfl Try.func123 (by kernel_rfl) rfl #[.pointer (some ⟨g, 0, none⟩), .int .i64 5] rfl zT4 ?_; (with_reducible refine (spec_l1Below.calls g s0_0 x1001_1 x1002_1 5 t206 t207 t208 w0 _ ?side1 ?side2 A12.out).mono ?_); (case side1 => repeat (first | (with_reducible first | exact HI0.out | apply IsS161.alloc | apply IsS161.drewN | apply IsS161.drew | apply IsS161.set_1 | apply IsS161.set_2 | refine IsS161.far ?_ NB0_198.out _ | refine IsS161.far ?_ NB0_205.out _) | exact HI0.out)); (case side2 => repeat (first | (with_reducible first | exact HB.out | apply below_alloc | apply pw_below_drewN | apply below_drew1 | refine below_set ?_ (IsS161.ge HI0.out) | refine below_set ?_ GE198.out | refine below_set ?_ GE205.out) | exact HB.out)); rintro e w115 ⟨rfl, hi, hb, hk⟩; refine ⟨_, rfl, ?_⟩; have n0_ := Aside0.mk (Kd.R_mono (Kd.R_keep (IsS161.apart (show IsS161 w0 _ g s0_0 x1001_1 x1002_1 from zB4_6) (zR4 HO_206001.out) (by decide)) hk (fun _ h => h.2)) (fun _ h => h.1)); have n1_ := Aside0.mk (Kd.R_mono (Kd.R_keep (IsS161.apart (show IsS161 w0 _ g s0_0 x1001_1 x1002_1 from zB4_6) (zR4 HO_206002.out) (by decide)) hk (fun _ h => h.2)) (fun _ h => h.1)); have n2_ := Aside0.mk (zh4 hk BK198.out NB198_0.out); have n3_ := Aside0.mk (zh4 hk BK205.out NB205_0.out); have n4_ := Aside0.mk (KeepBut.trans (zB4_7) hk (.inl rfl)); have n5_ := Aside0.mk (hb); have n6_ := Aside0.mk (hi); clear HO_206001; clear HO_206002; clear BK198; clear BK205; clear HK; clear HB; clear HI0; have HO_206001 := n0_; have HO_206002 := n1_; have BK198 := n2_; have BK205 := n3_; have HK := n4_; have HB := n5_; have HI0 := n6_; clear n0_ n1_ n2_ n3_ n4_ n5_ n6_; (try clear hb); (try clear hb2); (try clear hk); (try clear hi)) | ((with_reducible refine gate_callee (f := 123) rfl ?_); refine goesL_ (some 42) rfl rfl Try.func123 (by kernel_rfl) rfl #[.pointer (some ⟨g, 0, none⟩), .int .i64 14] rfl zT4 ?_; (with_reducible refine (spec_l1Below.calls g s0_0 t207 t208 14 t233 t234 t235 w0 _ ?side1 ?side2 A77.out).mono ?_); (case side1 => repeat (first | (with_reducible first | exact HI0.out | apply IsS161.alloc | apply IsS161.drewN | apply IsS161.drew | apply IsS161.set_1 | apply IsS161.set_2 | refine IsS161.far ?_ NB0_198.out _ | refine IsS161.far ?_ NB0_205.out _) | exact HI0.out)); (case side2 => repeat (first | (with_reducible first | exact HB.out | apply below_alloc | apply pw_below_drewN | apply below_drew1 | refine below_set ?_ (IsS161.ge HI0.out) | refine below_set ?_ GE198.out | refine below_set ?_ GE205.out) | exact HB.out)); rintro e w116 ⟨rfl, hi, hb, hk⟩; refine ⟨_, rfl, ?_⟩; have n0_ := Aside0.mk (Kd.R_mono (Kd.R_keep (IsS161.apart (show IsS161 w0 _ g s0_0 t207 t208 from zB4_6) (zR4 HO_206001.out) (by decide)) hk (fun _ h => h.2)) (fun _ h => h.1)); have n1_ := Aside0.mk (Kd.R_mono (Kd.R_keep (IsS161.apart (show IsS161 w0 _ g s0_0 t207 t208 from zB4_6) (zR4 HO_206002.out) (by decide)) hk (fun _ h => h.2)) (fun _ h => h.1)); have n2_ := Aside0.mk (zh4 hk BK198.out NB198_0.out); have n3_ := Aside0.mk (zh4 hk BK205.out NB205_0.out); have n4_ := Aside0.mk (KeepBut.trans (zB4_7) hk (.inl rfl)); have n5_ := Aside0.mk (hb); have n6_ := Aside0.mk (hi); clear HO_206001; clear HO_206002; clear BK198; clear BK205; clear HK; clear HB; clear HI0; have HO_206001 := n0_; have HO_206002 := n1_; have BK198 := n2_; have BK205 := n3_; have HK := n4_; have HB := n5_; have HI0 := n6_; clear n0_ n1_ n2_ n3_ n4_ n5_ n6_; (try clear hb); (try clear hb2); (try clear hk); (try clear hi)))
   have n0_ := Aside0.mk (Kd.R_drew HO_206001.out)
   have n1_ := Aside0.mk (Kd.R_drew HO_206002.out)
   have n2_ := Aside0.mk (blk_drew BK198.out)
   have n3_ := Aside0.mk (blk_drew BK205.out)
   have n4_ := Aside0.mk (IsS161.drew HI0.out)
   have n5_ := Aside0.mk (keep_drew HK.out)
   have n6_ := Aside0.mk (below_drew1 HB.out)
   clear HO_206001 HO_206002 BK198 BK205 HI0 HK HB
   have HO_206001 := n0_
   have HO_206002 := n1_
   have BK198 := n2_
   have BK205 := n3_
   have HI0 := n4_
   have HK := n5_
   have HB := n6_
   clear n0_ n1_ n2_ n3_ n4_ n5_ n6_
   refine start_ (n := 12) (S := fun w' => w'.cell? ⟨gb205, 0, none⟩ = some (.string t202) ∧ w'.cell? ⟨gb205, 1, none⟩ = some (u206001) ∧ w'.cell? ⟨gb205, 2, none⟩ = some (u206002)) (ds := [11]) #[false, false, false, false, false, false, false, false, false, false, false, false] (by kernel_rfl) rfl rfl ⟨(blk_cell BK205.out 0).trans rfl, (blk_cell BK205.out 1).trans rfl, (blk_cell BK205.out 2).trans rfl⟩ (fun hHeld => ?_); refine with_tabW spec_l27DrawPart.tab15 spec_l27DrawPart.bits15 (fun HT_ HW_ => ?_)
   generalize w116.drew = w117 at HO_206001 HO_206002 BK198 BK205 HI0 HK HB hHeld ⊢
   refine pure_ (i := 0) (N := some 62) (v := ?_) (a' := ?_) #[true, false, false, false, false, false, false, false, false, false, false, false] rfl rfl (any_of HT_.out (by kernel_rfl)) (fun _ _ _ h => h) (Or.inl ⟨by rfl, ?_⟩) ?_ ?_
   rotate_left
   ·intro w'
    go_simp
    with_reducible rfl
   rotate_left
   ·exact zV4
   refine pure_ (i := 2) (N := some 64) (v := ?_) (a' := ?_) #[true, false, true, false, false, false, false, false, false, false, false, false] rfl rfl (any_of HT_.out (by kernel_rfl)) (fun _ _ _ h => h) (Or.inl ⟨by rfl, ?_⟩) ?_ ?_
   rotate_left
   ·intro w'
    go_simp
    with_reducible rfl
   rotate_left
   ·exact zV4
   refine pure_ (i := 5) (N := some 67) (v := ?_) (a' := ?_) #[true, false, true, false, false, true, false, false, false, false, false, false] rfl rfl (any_of HT_.out (by kernel_rfl)) (fun _ _ _ h => h) (Or.inl ⟨by rfl, ?_⟩) ?_ ?_
   rotate_left
   ·intro w'
    go_simp
    with_reducible rfl
   rotate_left
   ·exact zV4
   refine take_ (i := 1) (N := some 63) (v := ?_) (a' := ?_) #[true, true, true, false, false, true, false, false, false, false, false, false] rfl rfl (take_ofW HT_.out HW_.out (by kernel_rfl)) (fun _ _ _ h => h) (Or.inl ⟨by rfl, ?_⟩) hHeld ?_ ?_
   rotate_left
   ·rintro w' ⟨s0, s1, s2⟩
    go_simp
    with_reducible rfl
   rotate_left
   ·exact zV4
   refine one_ (i := 3) (N := some 65) #[true, true, true, true, false, true, false, false, false, false, false, false] rfl rfl (one_of HT_.out (by kernel_rfl)) (by decide) (fun K hK => ?_)
   refine goes_ Try.func123 (by kernel_rfl) rfl #[.pointer (some ⟨g, 0, none⟩), .int .i64 256] (by rfl) rfl rfl zT4 ?_
   with_reducible refine (spec_l1Below.calls g s0_0 t234 t235 256 t248 t249 t250 w0 _ ?side1 ?side2 A110.out).mono ?_
   (case side1 => repeat (first | (with_reducible first | exact HI0.out | apply IsS161.alloc | apply IsS161.drewN | apply IsS161.drew | apply IsS161.set_1 | apply IsS161.set_2 | refine IsS161.far ?_ NB0_198.out _ | refine IsS161.far ?_ NB0_205.out _) | exact HI0.out))
   (case side2 => repeat (first | (with_reducible first | exact HB.out | apply below_alloc | apply pw_below_drewN | apply below_drew1 | refine below_set ?_ (IsS161.ge HI0.out) | refine below_set ?_ GE198.out | refine below_set ?_ GE205.out) | exact HB.out))
   rintro e w118 ⟨rfl, hi, hb, hk⟩
   refine ⟨_, rfl, ?_⟩
   have n0_ := Aside0.mk (Kd.R_mono (Kd.R_keep (IsS161.apart (show IsS161 w0 _ g s0_0 t234 t235 from zB4_6) (zR4 HO_206001.out) (by decide)) hk (fun _ h => h.2)) (fun _ h => h.1))
   have n1_ := Aside0.mk (Kd.R_mono (Kd.R_keep (IsS161.apart (show IsS161 w0 _ g s0_0 t234 t235 from zB4_6) (zR4 HO_206002.out) (by decide)) hk (fun _ h => h.2)) (fun _ h => h.1))
   have n2_ := Aside0.mk (zh4 hk BK198.out NB198_0.out)
   have n3_ := Aside0.mk (zh4 hk BK205.out NB205_0.out)
   have n4_ := Aside0.mk (KeepBut.trans (zB4_7) hk (.inl rfl))
   have n5_ := Aside0.mk (hb)
   have n6_ := Aside0.mk (hi)
   clear HO_206001 HO_206002 BK198 BK205 HK HB HI0
   have HO_206001 := n0_
   have HO_206002 := n1_
   have BK198 := n2_
   have BK205 := n3_
   have HK := n4_
   have HB := n5_
   have HI0 := n6_
   clear n0_ n1_ n2_ n3_ n4_ n5_ n6_
   (try clear hb)
   (try clear hb2)
   (try clear hk)
   (try clear hi)
   refine hK.out _ _ ⟨(blk_cell BK205.out 0).trans rfl, (blk_cell BK205.out 1).trans rfl, (blk_cell BK205.out 2).trans rfl⟩ (fun hHeld => ?_)
   clear hK K
   refine norm_ (a' := ?_) ?_ ?_
   rotate_left
   ·show Act.put _ (some 65) _ = _
    simp only [Act.put, List.setIfInBounds_toArray, List.set_cons_zero, List.set_cons_succ, i64_w, i32_w]
    rfl
   refine pure_ (i := 4) (N := some 66) (v := ?_) (a' := ?_) #[true, true, true, true, true, true, false, false, false, false, false, false] rfl rfl (any_of HT_.out (by kernel_rfl)) (fun _ _ _ h => h) (Or.inl ⟨by rfl, ?_⟩) ?_ ?_
   rotate_left
   ·intro w'
    go_simp
    with_reducible rfl
   rotate_left
   ·exact zV4
   refine one_ (i := 6) (N := some 68) #[true, true, true, true, true, true, true, false, false, false, false, false] rfl rfl (one_of HT_.out (by kernel_rfl)) (by decide) (fun K hK => ?_)
   refine goes_ Try.func123 (by kernel_rfl) rfl #[.pointer (some ⟨g, 0, none⟩), .int .i64 256] (by rfl) rfl rfl zT4 ?_
   with_reducible refine (spec_l1Below.calls g s0_0 t249 t250 256 t251 t252 t253 w0 _ ?side1 ?side2 A111.out).mono ?_
   (case side1 => repeat (first | (with_reducible first | exact HI0.out | apply IsS161.alloc | apply IsS161.drewN | apply IsS161.drew | apply IsS161.set_1 | apply IsS161.set_2 | refine IsS161.far ?_ NB0_198.out _ | refine IsS161.far ?_ NB0_205.out _) | exact HI0.out))
   (case side2 => repeat (first | (with_reducible first | exact HB.out | apply below_alloc | apply pw_below_drewN | apply below_drew1 | refine below_set ?_ (IsS161.ge HI0.out) | refine below_set ?_ GE198.out | refine below_set ?_ GE205.out) | exact HB.out))
   rintro e w119 ⟨rfl, hi, hb, hk⟩
   refine ⟨_, rfl, ?_⟩
   have n0_ := Aside0.mk (Kd.R_mono (Kd.R_keep (IsS161.apart (show IsS161 w0 _ g s0_0 t249 t250 from zB4_6) (zR4 HO_206001.out) (by decide)) hk (fun _ h => h.2)) (fun _ h => h.1))
   have n1_ := Aside0.mk (Kd.R_mono (Kd.R_keep (IsS161.apart (show IsS161 w0 _ g s0_0 t249 t250 from zB4_6) (zR4 HO_206002.out) (by decide)) hk (fun _ h => h.2)) (fun _ h => h.1))
   have n2_ := Aside0.mk (zh4 hk BK198.out NB198_0.out)
   have n3_ := Aside0.mk (zh4 hk BK205.out NB205_0.out)
   have n4_ := Aside0.mk (KeepBut.trans (zB4_7) hk (.inl rfl))
   have n5_ := Aside0.mk (hb)
   have n6_ := Aside0.mk (hi)
   clear HO_206001 HO_206002 BK198 BK205 HK HB HI0
   have HO_206001 := n0_
   have HO_206002 := n1_
   have BK198 := n2_
   have BK205 := n3_
   have HK := n4_
   have HB := n5_
   have HI0 := n6_
   clear n0_ n1_ n2_ n3_ n4_ n5_ n6_
   (try clear hb)
   (try clear hb2)
   (try clear hk)
   (try clear hi)
   refine hK.out _ _ ⟨(blk_cell BK205.out 0).trans rfl, (blk_cell BK205.out 1).trans rfl, (blk_cell BK205.out 2).trans rfl⟩ (fun hHeld => ?_)
   clear hK K
   refine norm_ (a' := ?_) ?_ ?_
   rotate_left
   ·show Act.put _ (some 68) _ = _
    simp only [Act.put, List.setIfInBounds_toArray, List.set_cons_zero, List.set_cons_succ, i64_w, i32_w]
    rfl
   refine pure_ (i := 7) (N := some 69) (v := ?_) (a' := ?_) #[true, true, true, true, true, true, true, true, false, false, false, false] rfl rfl (any_of HT_.out (by kernel_rfl)) (fun _ _ _ h => h) (Or.inl ⟨by rfl, ?_⟩) ?_ ?_
   rotate_left
   ·intro w'
    go_simp
    with_reducible rfl
   rotate_left
   ·exact zV4
   refine one_ (i := 8) (N := some 70) #[true, true, true, true, true, true, true, true, true, false, false, false] rfl rfl (one_of HT_.out (by kernel_rfl)) (by decide) (fun K hK => ?_)
   refine Kd.R_lit_step (Kd.int .u8) _ 5 ?hg (N := 70) ?hd (xs := ([(t248) % 256, (t251) % 256] : List Int)) (inner := [.int .u8 ((t248) % 256), .int .u8 ((t251) % 256)]) (ok := fun _ => True) (okp := fun _ => True) ?hr ?hp (fun _ hk => hk) trivial (Below.refl _ _) (Nat.le_refl _) (by simp) ?_; (case hd => rfl); (case hg => rfl); (case hr => first | (go_simp; done) | (go_simp; rfl)); (case hp => exact (Reps.one (show Kd.M (Kd.int .u8) _ _ _ ((t248) % 256) [.int .u8 ((t248) % 256)] from rfl) (Reps.one (show Kd.M (Kd.int .u8) _ _ _ ((t251) % 256) [.int .u8 ((t251) % 256)] from rfl) (Reps.none _ _))))
   intro v255 w120 ho121 hb hg_ hnew_
   clear hg_ hnew_
   (first | rw [← Ny254.out] at ho121 | (simp only [Int.reduceToNat] at ho121; rw [← Ny254.out] at ho121))
   have n0_ := Aside0.mk (Kd.R_below (zR4 HO_206001.out) hb)
   have n1_ := Aside0.mk (Kd.R_below (zR4 HO_206002.out) hb)
   have n2_ := Aside0.mk (Kd.R_lower ho121 (keep_size (w := w) (g := g) (row := none) (zB4_7)))
   have n3_ := Aside0.mk (zb4 BK198.out hb)
   have n4_ := Aside0.mk (zb4 BK205.out hb)
   have n5_ := Aside0.mk (IsS161.below (zB4_6) hb)
   have n6_ := Aside0.mk (KeepBut.trans (zB4_7) (KeepBut.of_below hb g none) (.inl rfl))
   have n7_ := Aside0.mk (below_step (zB4_8) hb)
   clear HO_206001 HO_206002 BK198 BK205 HI0 HK HB
   have HO_206001 := n0_
   have HO_206002 := n1_
   have HO256 := n2_
   have BK198 := n3_
   have BK205 := n4_
   have HI0 := n5_
   have HK := n6_
   have HB := n7_
   clear n0_ n1_ n2_ n3_ n4_ n5_ n6_ n7_ hb ho121
   obtain ⟨Ao122, co122, eo122⟩ := Kd.R_slice HO256.out
   (first | subst eo122 | (injection eo122 with f1_ f2_ f3_; have f4_ := f1_.symm; have f5_ := f3_.symm; clear f1_ f2_ f3_; subst f4_; subst f5_))
   refine hK.out _ _ ⟨(blk_cell BK205.out 0).trans rfl, (blk_cell BK205.out 1).trans rfl, (blk_cell BK205.out 2).trans rfl⟩ (fun hHeld => ?_)
   clear hK K
   refine norm_ (a' := ?_) ?_ ?_
   rotate_left
   ·show Act.put _ (some 70) _ = _
    simp only [Act.put, List.setIfInBounds_toArray, List.set_cons_zero, List.set_cons_succ, i64_w, i32_w]
    rfl
   refine one_ (i := 9) (N := some 71) #[true, true, true, true, true, true, true, true, true, true, false, false] rfl rfl (one_of HT_.out (by kernel_rfl)) (by decide) (fun K hK => ?_)
   refine goes_ Try.func157 (by kernel_rfl) rfl #[.slice Ao122 y254.length co122] (by rfl) rfl rfl zT4 ?_
   with_reducible refine (spec_l8DrawOne.calls k1 _ _ y254 t257 t258 t259 t260 t261 _ ?side1 ?side2 A112.out).mono ?_
   (case side1 => exact zC4 (Kd.R_reads' HO256.out).2.2)
   (case side2 => exact (Kd.R_reads' HO256.out).2.1)
   rintro e w123 ⟨rfl, hb⟩
   refine ⟨_, rfl, ?_⟩
   have n0_ := Aside0.mk (Kd.R_below (zR4 HO_206001.out) hb)
   have n1_ := Aside0.mk (Kd.R_below (zR4 HO_206002.out) hb)
   have n2_ := Aside0.mk (Kd.R_below (zR4 HO256.out) hb)
   have n3_ := Aside0.mk (zb4 BK198.out hb)
   have n4_ := Aside0.mk (zb4 BK205.out hb)
   have n5_ := Aside0.mk (IsS161.below (zB4_6) hb)
   have n6_ := Aside0.mk (KeepBut.trans (zB4_7) (KeepBut.of_below hb g none) (.inl rfl))
   have n7_ := Aside0.mk (below_step (zB4_8) hb)
   clear HO_206001 HO_206002 HO256 BK198 BK205 HI0 HK HB
   have HO_206001 := n0_
   have HO_206002 := n1_
   have HO256 := n2_
   have BK198 := n3_
   have BK205 := n4_
   have HI0 := n5_
   have HK := n6_
   have HB := n7_
   clear n0_ n1_ n2_ n3_ n4_ n5_ n6_ n7_
   (try clear hb)
   (try clear hb2)
   (try clear hk)
   (try clear hi)
   have p114 : 0 ≤ (0 : Int) := (by omega)
   have q114 : (0 : Int) < ((x206001_1.length : Int) : Int) := zA4
   have qi114 : (0 < x206001_1.length) = True := eq_true (by omega)
   obtain ⟨go114, co114, eo114, gb114, gl114, cl114, HG114⟩ := Kd.R_form HO_206001.out (by omega)
   (first | cases eo114 | (injection eo114 with ea_ en_ ec_; (first | subst ea_ | (injection ea_ with ea_; subst ea_)); subst ec_; clear en_))
   have GB114 := Aside0.mk gb114
   have GG114 := Aside0.mk HG114
   clear gb114 gl114 HG114
   obtain ⟨ce114, hcl114, hM114, hcc114, hfr114⟩ := Kd.R_elem HO_206001.out z52 (0 : Int) p114 q114
   obtain rfl := k52_openM hM114
   have hx114_0 : World.cell? _ ⟨go114, (0 : Int).toNat * 5, none⟩ = some (.int .i64 ((rd_T52 x206001_1 0).f0)) := hcc114 0 _ rfl
   have hx114_1 : World.cell? _ ⟨go114, (0 : Int).toNat * 5 + 1, none⟩ = some (.int .i64 ((rd_T52 x206001_1 0).f1)) := hcc114 1 _ rfl
   have hx114_2 : World.cell? _ ⟨go114, (0 : Int).toNat * 5 + 2, none⟩ = some (.int .i64 ((rd_T52 x206001_1 0).f2)) := hcc114 2 _ rfl
   have hx114_3 : World.cell? _ ⟨go114, (0 : Int).toNat * 5 + 3, none⟩ = some (.int .i64 ((rd_T52 x206001_1 0).f3)) := hcc114 3 _ rfl
   have hx114_4 : World.cell? _ ⟨go114, (0 : Int).toNat * 5 + 4, none⟩ = some (.int .i64 ((rd_T52 x206001_1 0).f4)) := hcc114 4 _ rfl
   have hf114_0 : World.frozen? _ ⟨go114, (0 : Int).toNat * 5, none⟩ = false := hfr114 0
   have hf114_1 : World.frozen? _ ⟨go114, (0 : Int).toNat * 5 + 1, none⟩ = false := hfr114 1
   have hf114_2 : World.frozen? _ ⟨go114, (0 : Int).toNat * 5 + 2, none⟩ = false := hfr114 2
   have hf114_3 : World.frozen? _ ⟨go114, (0 : Int).toNat * 5 + 3, none⟩ = false := hfr114 3
   have hf114_4 : World.frozen? _ ⟨go114, (0 : Int).toNat * 5 + 4, none⟩ = false := hfr114 4
   clear hcl114 hcc114 hfr114 hM114
   (try rw [show ((0 : Int)).toNat = 0 from rfl] at hx114_0)
   (try simp only [Nat.reduceMul, Nat.zero_mul, Nat.zero_add, Nat.reduceAdd] at hx114_0)
   (try rw [show ((0 : Int)).toNat = 0 from rfl] at hf114_0)
   (try simp only [Nat.reduceMul, Nat.zero_mul, Nat.zero_add, Nat.reduceAdd] at hf114_0)
   (try rw [show ((0 : Int)).toNat = 0 from rfl] at hx114_1)
   (try simp only [Nat.reduceMul, Nat.zero_mul, Nat.zero_add, Nat.reduceAdd] at hx114_1)
   (try rw [show ((0 : Int)).toNat = 0 from rfl] at hf114_1)
   (try simp only [Nat.reduceMul, Nat.zero_mul, Nat.zero_add, Nat.reduceAdd] at hf114_1)
   (try rw [show ((0 : Int)).toNat = 0 from rfl] at hx114_2)
   (try simp only [Nat.reduceMul, Nat.zero_mul, Nat.zero_add, Nat.reduceAdd] at hx114_2)
   (try rw [show ((0 : Int)).toNat = 0 from rfl] at hf114_2)
   (try simp only [Nat.reduceMul, Nat.zero_mul, Nat.zero_add, Nat.reduceAdd] at hf114_2)
   (try rw [show ((0 : Int)).toNat = 0 from rfl] at hx114_3)
   (try simp only [Nat.reduceMul, Nat.zero_mul, Nat.zero_add, Nat.reduceAdd] at hx114_3)
   (try rw [show ((0 : Int)).toNat = 0 from rfl] at hf114_3)
   (try simp only [Nat.reduceMul, Nat.zero_mul, Nat.zero_add, Nat.reduceAdd] at hf114_3)
   (try rw [show ((0 : Int)).toNat = 0 from rfl] at hx114_4)
   (try simp only [Nat.reduceMul, Nat.zero_mul, Nat.zero_add, Nat.reduceAdd] at hx114_4)
   (try rw [show ((0 : Int)).toNat = 0 from rfl] at hf114_4)
   (try simp only [Nat.reduceMul, Nat.zero_mul, Nat.zero_add, Nat.reduceAdd] at hf114_4)
   replace p114 := eq_true p114
   replace q114 := eq_true q114
   have HN0_go114 := Aside0.mk (show g ≠ go114 from by have h_ := IsS161.own_ne HI0.out HO_206001.out (by decide); intro e_; exact h_ (by rw [e_]; rfl))
   obtain ⟨ce124, hcl124, hM124, hcc124, hfr124⟩ := Kd.R_elem HO_206001.out z52 (0 : Int) (by omega) (by have h_ : (0 : Int) < ((x206001_1.length : Int) : Int) := zA4; first | exact h_ | (have e_ := (Kd.R_reads' HO_206001.out).1; omega) | simpa using h_)
   obtain rfl := k52_openM hM124
   have HP124 := (Kd.R_seg HO_206001.out (0 : Int) (by omega) (by have h_ : (0 : Int) < ((x206001_1.length : Int) : Int) := zA4; first | exact h_ | (have e_ := (Kd.R_reads' HO_206001.out).1; omega) | simpa using h_) (seg := [.int .i64 t257, .int .i64 t258, .int .i64 t259, .int .i64 t260, .int .i64 t261]) (j := 0) hcl124 hcc124 (show 5 ≤ 5 from by decide) (x' := (⟨t257, t258, t259, t260, t261⟩ : S52)) (k52_mkM _ _ _ (⟨t257, t258, t259, t260, t261⟩ : S52) ) (fun _ hk => hk)).1
   rw [← Ny262.out] at HP124
   have HQ124 := Aside0.mk HP124
   clear hcl124 hcc124 hfr124 hM124 HP124
   refine hK.out _ _ ⟨(blk_cell BK205.out 0).trans rfl, (blk_cell BK205.out 1).trans rfl, (blk_cell BK205.out 2).trans rfl⟩ (fun hHeld => ?_)
   clear hK K
   refine norm_ (a' := ?_) ?_ ?_
   rotate_left
   ·show Act.put _ (some 71) _ = _
    simp only [Act.put, List.setIfInBounds_toArray, List.set_cons_zero, List.set_cons_succ, i64_w, i32_w]
    rfl
   refine pure_ (i := 10) (N := some 72) (v := ?_) (a' := ?_) #[true, true, true, true, true, true, true, true, true, true, true, false] rfl rfl (any_of HT_.out (by kernel_rfl)) (fun _ _ _ h => h) (Or.inl ⟨by rfl, ?_⟩) ?_ ?_
   rotate_left
   ·intro w'
    go_simp
    with_reducible rfl
   rotate_left
   ·exact zV4
   refine last_ (i := 11) (N := none) #[true, true, true, true, true, true, true, true, true, true, true, true] rfl rfl (one_of HT_.out (by kernel_rfl)) (by decide) (fun K hK => ?_)
   refine skip_ (w1 := ?_) (by rfl) rfl ?_ ?_
   rotate_left
   ·go_simp
    rfl
   refine hK.out _ _ ?_
   clear hK K
   refine done_ (done_of HT_.out (by kernel_rfl)) ?_
   have n0_ : Aside0 (Kd.R k52 52 (((((w123.setCell ⟨go114, 0, none⟩ (.int .i64 t257)).setCell ⟨go114, 1, none⟩ (.int .i64 t258)).setCell ⟨go114, 2, none⟩ (.int .i64 t259)).setCell ⟨go114, 3, none⟩ (.int .i64 t260)).setCell ⟨go114, 4, none⟩ (.int .i64 t261)) w.heap.size (fun _ => True) (.slice (some ⟨go114, 0, none⟩) x206001_1.length co114) y262) := ⟨zR4 HQ124.out⟩
   have n1_ : Aside0 (Kd.R k56 56 (((((w123.setCell ⟨go114, 0, none⟩ (.int .i64 t257)).setCell ⟨go114, 1, none⟩ (.int .i64 t258)).setCell ⟨go114, 2, none⟩ (.int .i64 t259)).setCell ⟨go114, 3, none⟩ (.int .i64 t260)).setCell ⟨go114, 4, none⟩ (.int .i64 t261)) w.heap.size (fun _ => True) u206002 x206002_1) := ⟨by (with_reducible repeat (first | apply Kd.R_alloc | apply Kd.R_drewN | apply Kd.R_drew)); exact Kd.R_mono (Kd.R_far (p := ⟨go114, 4, none⟩) (Kd.R_far (p := ⟨go114, 3, none⟩) (Kd.R_far (p := ⟨go114, 2, none⟩) (Kd.R_far (p := ⟨go114, 1, none⟩) (Kd.R_far (p := ⟨go114, 0, none⟩) (Kd.R_types HO_206002.out GG114.out (by decide)) (fun _ hk => hk.2) (.int .i64 t257)) (fun _ hk => hk.2) (.int .i64 t258)) (fun _ hk => hk.2) (.int .i64 t259)) (fun _ hk => hk.2) (.int .i64 t260)) (fun _ hk => hk.2) (.int .i64 t261)) (fun _ hk => trivial)⟩
   have n2_ : Aside0 (Kd.R (Kd.int .u8) 5 (((((w123.setCell ⟨go114, 0, none⟩ (.int .i64 t257)).setCell ⟨go114, 1, none⟩ (.int .i64 t258)).setCell ⟨go114, 2, none⟩ (.int .i64 t259)).setCell ⟨go114, 3, none⟩ (.int .i64 t260)).setCell ⟨go114, 4, none⟩ (.int .i64 t261)) w.heap.size (fun _ => True) (.slice Ao122 y254.length co122) y254) := ⟨by (with_reducible repeat (first | apply Kd.R_alloc | apply Kd.R_drewN | apply Kd.R_drew)); exact Kd.R_mono (Kd.R_far (p := ⟨go114, 4, none⟩) (Kd.R_far (p := ⟨go114, 3, none⟩) (Kd.R_far (p := ⟨go114, 2, none⟩) (Kd.R_far (p := ⟨go114, 1, none⟩) (Kd.R_far (p := ⟨go114, 0, none⟩) (Kd.R_types HO256.out GG114.out (by decide)) (fun _ hk => hk.2) (.int .i64 t257)) (fun _ hk => hk.2) (.int .i64 t258)) (fun _ hk => hk.2) (.int .i64 t259)) (fun _ hk => hk.2) (.int .i64 t260)) (fun _ hk => hk.2) (.int .i64 t261)) (fun _ hk => trivial)⟩
   have n3_ : Aside0 ((((((w123.setCell ⟨go114, 0, none⟩ (.int .i64 t257)).setCell ⟨go114, 1, none⟩ (.int .i64 t258)).setCell ⟨go114, 2, none⟩ (.int .i64 t259)).setCell ⟨go114, 3, none⟩ (.int .i64 t260)).setCell ⟨go114, 4, none⟩ (.int .i64 t261)).heap[gb198]? = some (.cells #[.string (⟨#[]⟩ : ByteArray), .slice none 0 0, .slice none 0 0] 45 (0, 0))) := ⟨by refine zP4 ?_; refine blk_far ?_ (by have h_ := Kd.R_ne HO_206001.out BK198.out (by decide); intro e_; exact h_ (by rw [e_]; rfl)) _; refine zP4 ?_; refine blk_far ?_ (by have h_ := Kd.R_ne HO_206001.out BK198.out (by decide); intro e_; exact h_ (by rw [e_]; rfl)) _; refine zP4 ?_; refine blk_far ?_ (by have h_ := Kd.R_ne HO_206001.out BK198.out (by decide); intro e_; exact h_ (by rw [e_]; rfl)) _; refine zP4 ?_; refine blk_far ?_ (by have h_ := Kd.R_ne HO_206001.out BK198.out (by decide); intro e_; exact h_ (by rw [e_]; rfl)) _; refine zP4 ?_; refine blk_far ?_ (by have h_ := Kd.R_ne HO_206001.out BK198.out (by decide); intro e_; exact h_ (by rw [e_]; rfl)) _; refine zP4 ?_; exact BK198.out⟩
   have n4_ : Aside0 ((((((w123.setCell ⟨go114, 0, none⟩ (.int .i64 t257)).setCell ⟨go114, 1, none⟩ (.int .i64 t258)).setCell ⟨go114, 2, none⟩ (.int .i64 t259)).setCell ⟨go114, 3, none⟩ (.int .i64 t260)).setCell ⟨go114, 4, none⟩ (.int .i64 t261)).heap[gb205]? = some (.cells #[.string t202, .slice (some ⟨go114, 0, none⟩) x206001_1.length co114, u206002] 45 (0, 0))) := ⟨by refine zP4 ?_; refine blk_far ?_ (by have h_ := Kd.R_ne HO_206001.out BK205.out (by decide); intro e_; exact h_ (by rw [e_]; rfl)) _; refine zP4 ?_; refine blk_far ?_ (by have h_ := Kd.R_ne HO_206001.out BK205.out (by decide); intro e_; exact h_ (by rw [e_]; rfl)) _; refine zP4 ?_; refine blk_far ?_ (by have h_ := Kd.R_ne HO_206001.out BK205.out (by decide); intro e_; exact h_ (by rw [e_]; rfl)) _; refine zP4 ?_; refine blk_far ?_ (by have h_ := Kd.R_ne HO_206001.out BK205.out (by decide); intro e_; exact h_ (by rw [e_]; rfl)) _; refine zP4 ?_; refine blk_far ?_ (by have h_ := Kd.R_ne HO_206001.out BK205.out (by decide); intro e_; exact h_ (by rw [e_]; rfl)) _; refine zP4 ?_; exact BK205.out⟩
   have n5_ : Aside0 (IsS161 w0 (((((w123.setCell ⟨go114, 0, none⟩ (.int .i64 t257)).setCell ⟨go114, 1, none⟩ (.int .i64 t258)).setCell ⟨go114, 2, none⟩ (.int .i64 t259)).setCell ⟨go114, 3, none⟩ (.int .i64 t260)).setCell ⟨go114, 4, none⟩ (.int .i64 t261)) g s0_0 t252 t253) := ⟨zB4_12⟩
   have n6_ : Aside0 (KeepBut w (((((w123.setCell ⟨go114, 0, none⟩ (.int .i64 t257)).setCell ⟨go114, 1, none⟩ (.int .i64 t258)).setCell ⟨go114, 2, none⟩ (.int .i64 t259)).setCell ⟨go114, 3, none⟩ (.int .i64 t260)).setCell ⟨go114, 4, none⟩ (.int .i64 t261)) g none) := ⟨zB4_13⟩
   have n7_ : Aside0 (Below w0.heap.size w0 (((((w123.setCell ⟨go114, 0, none⟩ (.int .i64 t257)).setCell ⟨go114, 1, none⟩ (.int .i64 t258)).setCell ⟨go114, 2, none⟩ (.int .i64 t259)).setCell ⟨go114, 3, none⟩ (.int .i64 t260)).setCell ⟨go114, 4, none⟩ (.int .i64 t261))) := ⟨zB4_14⟩
   (try clear HO_206001)
   (try clear HO_206002)
   (try clear HO256)
   (try clear BK198)
   (try clear BK205)
   (try clear HI0)
   (try clear HK)
   (try clear HB)
   generalize (((((w123.setCell ⟨go114, 0, none⟩ (.int .i64 t257)).setCell ⟨go114, 1, none⟩ (.int .i64 t258)).setCell ⟨go114, 2, none⟩ (.int .i64 t259)).setCell ⟨go114, 3, none⟩ (.int .i64 t260)).setCell ⟨go114, 4, none⟩ (.int .i64 t261)) = w125 at n0_ n1_ n2_ n3_ n4_ n5_ n6_ n7_ ⊢
   have HO_206001 := n0_
   have HO_206002 := n1_
   have HO256 := n2_
   have BK198 := n3_
   have BK205 := n4_
   have HI0 := n5_
   have HK := n6_
   have HB := n7_
   clear n0_ n1_ n2_ n3_ n4_ n5_ n6_ n7_
   have hnb126 := NB205_198.out
   have hnc126 := NB198_205.out
   have hnb127 := NB205_0.out
   have hnc127 := NB0_205.out
   obtain ⟨hcz128_0, hcz128_1, hcz128_2, hfz128_0, hfz128_1, hfz128_2⟩ := zc4_3 (w := w125) BK205.out
   have hnb129 := NB198_0.out
   have hnc129 := NB0_198.out
   obtain ⟨hcz130_0, hcz130_1, hcz130_2, hfz130_0, hfz130_1, hfz130_2⟩ := zc4_3 (w := w125) BK198.out
   obtain ⟨Ao131, co131, eo131⟩ := Kd.R_slice HO_206002.out
   subst eo131
   try go_wp2
   refine bodyPost_ret (results_cell_row rfl _ _ gb198 45 #[.string t202, .slice (some ⟨go114, 0, none⟩) x206001_1.length co114, .slice Ao131 x206002_1.length co131] (0, 0) _ rfl (by refine zP4 ?_; refine blk_put (cs := #[.string t202, .slice (some ⟨go114, 0, none⟩) x206001_1.length co114, .slice none 0 0]) ?_ 2 _ rfl; refine zP4 ?_; refine blk_put (cs := #[.string t202, .slice none 0 0, .slice none 0 0]) ?_ 1 _ rfl; refine zP4 ?_; refine blk_put (cs := #[.string (⟨#[]⟩ : ByteArray), .slice none 0 0, .slice none 0 0]) ?_ 0 _ rfl; refine zP4 ?_; exact BK198.out) Try.underlying45 rfl (by kernel_rfl)) rfl ?_
   exact ⟨_, _, zE4, by (with_reducible repeat (first | apply Kd.R_alloc | apply Kd.R_drewN | apply Kd.R_drew)); exact Kd.R_mono (Kd.R_far (p := ⟨gb198, 2, none⟩) (Kd.R_far (p := ⟨gb198, 1, none⟩) (Kd.R_far (p := ⟨gb198, 0, none⟩) (Kd.R_types HO_206001.out BK198.out (by decide)) (fun _ hk => hk.2) (.string t202)) (fun _ hk => hk.2) (.slice (some ⟨go114, 0, none⟩) x206001_1.length co114)) (fun _ hk => hk.2) (.slice Ao131 x206002_1.length co131)) (fun _ hk => trivial), by (with_reducible repeat (first | apply Kd.R_alloc | apply Kd.R_drewN | apply Kd.R_drew)); exact Kd.R_mono (Kd.R_far (p := ⟨gb198, 2, none⟩) (Kd.R_far (p := ⟨gb198, 1, none⟩) (Kd.R_far (p := ⟨gb198, 0, none⟩) (Kd.R_types HO_206002.out BK198.out (by decide)) (fun _ hk => hk.2) (.string t202)) (fun _ hk => hk.2) (.slice (some ⟨go114, 0, none⟩) x206001_1.length co114)) (fun _ hk => hk.2) (.slice Ao131 x206002_1.length co131)) (fun _ hk => trivial), zB4_6, zB4_8, zB4_7⟩

end Go.Proofs.Ytnekcbajadnldaa.PFnLayouts
