-- made by wip/tools/myprint.py out of the seat's translation
import Derived.Test.YthmkclelkijhoaaDoorPFnExactTraceReadx0
import Derived.Test.YthmkclelkijhoaaDoorPFnExactTraceReadx3
namespace Go.Proofs.YthmkclelkijhoaaDoor.PFnExactTraceRead
open Go.RowKit Go.Proofs.YthmkclelkijhoaaDoorW.PrintWords Go.Proofs.YthmkclelkijhoaaDoorW.PrintLast Go.Proofs.YthmkclelkijhoaaDoorW.PrintMore
attribute [local go_sem] max2_int min2_int max_two min_two max_three min_three max_four min_four   -- for this text's walks alone
set_option linter.unusedVariables false
set_option linter.unusedSimpArgs false
theorem zc4_5 {w : World} {g : Nat} {a0 a1 a2 a3 a4 : Value} {t : TypeId} (h : w.heap[g]? = some (.cells #[a0, a1, a2, a3, a4] t (0, 0))) : w.cell? ⟨g, 0, none⟩ = some a0 ∧ w.cell? ⟨g, 1, none⟩ = some a1 ∧ w.cell? ⟨g, 2, none⟩ = some a2 ∧ w.cell? ⟨g, 3, none⟩ = some a3 ∧ w.cell? ⟨g, 4, none⟩ = some a4 ∧ w.frozen? ⟨g, 0, none⟩ = false ∧ w.frozen? ⟨g, 1, none⟩ = false ∧ w.frozen? ⟨g, 2, none⟩ = false ∧ w.frozen? ⟨g, 3, none⟩ = false ∧ w.frozen? ⟨g, 4, none⟩ = false := ⟨(blk_cell h 0).trans rfl, (blk_cell h 1).trans rfl, (blk_cell h 2).trans rfl, (blk_cell h 3).trans rfl, (blk_cell h 4).trans rfl, blk_frozen h 0, blk_frozen h 1, blk_frozen h 2, blk_frozen h 3, blk_frozen h 4⟩
theorem zR4 {p q : Prop} (x : q) (h : q → p := by intro h; (with_reducible repeat (first | apply Kd.R_alloc | apply Kd.R_drewN | apply Kd.R_drew)); exact h) : p := h x
theorem zK4 {p q : Prop} (x : q) (h : q → p := by intro h; (with_reducible repeat (first | refine blk_drewN ?_ _ | refine blk_drew ?_ | refine blk_alloc ?_ _)); exact h) : p := h x
theorem zA4 {p : Prop} [Decidable p] (h : decide p = true := by first | (with_reducible assumption) | assumption) : p := of_decide_eq_true h
theorem zT4 {p : Prop} (h : p := by (try simp only [List.map_toArray, List.map_cons, List.map_nil]); first | done | rfl | (simp only [List.length_drop, List.length_take]; rfl)) : p := h
theorem zb4 {W w w1 : World} {g : Nat} {o : Obj} (x : W.heap[g]? = some o) (hb : Below w.heap.size w w1) (h : W.heap[g]? = some o → w.heap[g]? = some o := by intro h; (with_reducible repeat (first | refine blk_drewN ?_ _ | refine blk_drew ?_ | refine blk_alloc ?_ _)); exact h) : w1.heap[g]? = some o := blk_below (h x) hb
theorem zn4 {W w : World} {g g' : Nat} {o : Obj} (x : W.heap[g]? = some o) (hg : g' = w.heap.size) (h : W.heap[g]? = some o → w.heap[g]? = some o := by intro h; (with_reducible repeat (first | refine blk_drewN ?_ _ | refine blk_drew ?_ | refine blk_alloc ?_ _)); exact h) : g ≠ g' := by rw [hg]; exact Nat.ne_of_lt (blk_lt (h x))
theorem zm4 {W w : World} {g g' : Nat} {o : Obj} (x : W.heap[g]? = some o) (hg : g' = w.heap.size) (h : W.heap[g]? = some o → w.heap[g]? = some o := by intro h; (with_reducible repeat (first | refine blk_drewN ?_ _ | refine blk_drew ?_ | refine blk_alloc ?_ _)); exact h) : g' ≠ g := by rw [hg]; exact Nat.ne_of_gt (blk_lt (h x))
theorem zP4 {p q : Prop} (x : q) (h : q → p := by intro h; (with_reducible repeat (first | refine blk_drewN ?_ _ | refine blk_drew ?_ | refine blk_alloc ?_ _)); exact h) : p := h x
theorem zE4 {p : Prop} (h : p := by first | rfl | (simp [errW_none, errW_some] <;> rfl) | (simp [*, errW_none, errW_some] <;> rfl)) : p := h
theorem zB4_0 {p : Prop} (h : p := by repeat (first | (with_reducible first | exact HB.out | apply below_alloc | apply pw_below_drewN | apply below_drew1) | exact HB.out)) : p := h
theorem zB4_1 {p : Prop} (h : p := by repeat (first | (with_reducible first | exact HB.out | apply below_alloc | apply pw_below_drewN | apply below_drew1 | refine below_set ?_ GE178.out) | exact HB.out)) : p := h
theorem zB4_2 {p : Prop} (h : p := by repeat (first | (with_reducible first | exact HB.out | apply below_alloc | apply pw_below_drewN | apply below_drew1 | refine below_set ?_ GE178.out | refine below_set ?_ GE182.out) | exact HB.out)) : p := h

/-! ### impl_digits: function 22 -/
mutual
def impl_digits.j0 : Nat → Int → Bool → Option (ByteArray)
 | 0, _, _ => none
 | k + 1, x0, x3 => if x3 = true then ((impl_digits.f k (wrap64 (-x0))).bind fun t173 => (if 1 + t173.size ≤ 9223372036854775807 then (some ((⟨#[45]⟩ : ByteArray) ++ t173)) else (none))) else (if x0 < 0 then ((impl_digits.f k (wrap64 (Int.tdiv x0 10))).bind fun t174 => ((impl_digits.f k (wrap64 (-(Int.tmod x0 10)))).bind fun t175 => (if t174.size + t175.size ≤ 9223372036854775807 then (some (t174 ++ t175)) else (none)))) else (if x0 < 10 then (some (Go.Utf8.encode (wrap32 (wrap64 (48 + x0))))) else ((impl_digits.f k (wrap64 (Int.tdiv x0 10))).bind fun t176 => (if t176.size + (Go.Utf8.encode (wrap32 (wrap64 (48 + (Int.tmod x0 10))))).size ≤ 9223372036854775807 then (some (t176 ++ (Go.Utf8.encode (wrap32 (wrap64 (48 + (Int.tmod x0 10))))))) else (none)))))
def impl_digits.f : Nat → Int → Option (ByteArray)
 | 0, _ => none
 | k + 1, a0 => if a0 < 0 then (impl_digits.j0 k a0 (decide (a0 > (-10)))) else (impl_digits.j0 k a0 false)
end
theorem impl_digits.mono_l : ∀ k, (∀ y0, LeO (impl_digits.f k y0) (impl_digits.f (k + 1) y0)) ∧ (∀ y0 y1, LeO (impl_digits.j0 k y0 y1) (impl_digits.j0 (k + 1) y0 y1))
 | 0 => ⟨fun _ r h => by simp [impl_digits.f] at h, fun _ _ r h => by simp [impl_digits.j0] at h⟩
 | k + 1 => by
  obtain ⟨ih0, ih1⟩ := impl_digits.mono_l k
  refine ⟨?_, ?_⟩
  ·intro y0
   unfold impl_digits.f
   repeat' first
   | (with_reducible exact ih0 _)
   | (with_reducible exact ih1 _ _)
   | (with_reducible exact LeO.refl _)
   | (with_reducible exact LeO.none _)
   | (with_reducible refine LeO.ite ?_ ?_)
   | (with_reducible refine LeO.bind ?_ (fun _ => ?_))
   | exact ih0 _
   | exact ih1 _ _
   | exact LeO.none _
   | refine LeO.ite ?_ ?_
   | refine LeO.bind ?_ (fun _ => ?_)
  ·intro y0 y1
   unfold impl_digits.j0
   repeat' first
   | (with_reducible exact ih0 _)
   | (with_reducible exact ih1 _ _)
   | (with_reducible exact LeO.refl _)
   | (with_reducible exact LeO.none _)
   | (with_reducible refine LeO.ite ?_ ?_)
   | (with_reducible refine LeO.bind ?_ (fun _ => ?_))
   | exact ih0 _
   | exact ih1 _ _
   | exact LeO.none _
   | refine LeO.ite ?_ ?_
   | refine LeO.bind ?_ (fun _ => ?_)
theorem impl_digits.mono : ∀ a0 k, LeO (impl_digits.f k a0) (impl_digits.f (k + 1) a0) := by
 intro a0 k
 obtain ⟨ih0, ih1⟩ := impl_digits.mono_l k
 exact ih0 a0
set_option maxHeartbeats 8000000 in
set_option maxRecDepth 100000 in
theorem impl_digits.calls (k : Nat) : ∀ (a0 : Int) (r : ByteArray) (w : World) (h : impl_digits.f k a0 = some r),
  Calls Tryd.prog 22 #[.int .i64 a0] w fun e w' => e = .returned (.string r) ∧ Drawn0 w w' := by
 induction k using Nat.strongRecOn with
 | _ k ih =>
 intro a0 r w h
 cases k with
 | zero => exact absurd h (by simp [impl_digits.f])
 | succ k =>
 simp only [impl_digits.f] at h
 have H : (if a0 < 0 then (impl_digits.j0 k a0 (decide (a0 > (-10)))) else (impl_digits.j0 k a0 false)) = some r := h
 clear h
 have HC2 := Aside0.mk H
 clear H
 go_enter Tryd.func22, Tryd.ntmps22
 go_upto_region 1 with (fail)
 go_cut [3] (fun v3 wc => ∃ (kq : Nat) (x3_1 : Bool), v3 = .bool x3_1 ∧ Aside0 (impl_digits.j0 kq a0 x3_1 = some r) ∧ Aside0 (kq ≤ k) ∧ Drawn0 w wc)
 case first =>
  have H := HC2.out
  clear HC2
  by_cases c3 : a0 < 0
  rotate_left
  ·rw [if_neg c3] at H
   have c3b0 : decide (a0 < 0) = false := decide_eq_false c3
   clear c3
   (first | rw [c3b0] | (simp only [i64_w, i32_w]; rw [c3b0]) | skip)
   have H' := Aside0.mk H
   clear H
   go_wp2
   go_meet
   case rel => exact ⟨_, (false), (by first | rfl | (simp; done) | (simp [*]; done)), H', ⟨by first | omega | exact Nat.le_refl _⟩, by repeat (first | exact Drawn0.refl _ | apply Drawn0.step)⟩
  rw [if_pos c3] at H
  have c3b0 : decide (a0 < 0) = true := decide_eq_true c3
  clear c3
  (first | rw [c3b0] | (simp only [i64_w, i32_w]; rw [c3b0]) | skip)
  have H' := Aside0.mk H
  clear H
  go_wp2
  go_meet
  case rel => exact ⟨_, (decide (a0 > (-10))), (by first | rfl | (simp; done) | (simp [*]; done)), H', ⟨by first | omega | exact Nat.le_refl _⟩, by repeat (first | exact Drawn0.refl _ | apply Drawn0.step)⟩
 case rest =>
  clear HC2
  try clear c2
  try clear p2
  try clear c3
  try clear c3b0
  obtain ⟨kq, x3_1, rfl, HA, HJ1, ⟨mc1, rfl⟩⟩ := hcut
  cases kq with
  | zero => exact absurd HA.out (by simp [impl_digits.j0])
  | succ kj1 =>
   have H := HA.out
   clear HA
   simp only [impl_digits.j0] at H
   by_cases c4 : x3_1 = true
   ·subst c4
    have H1 : ((impl_digits.f kj1 (wrap64 (-a0))).bind fun t173 => (if 1 + t173.size ≤ 9223372036854775807 then (some ((⟨#[45]⟩ : ByteArray) ++ t173)) else (none))) = some r := by rw [if_pos rfl] at H; exact H
    clear H
    have H := H1
    clear H1
    replace H := Option.bind_eq_some_iff.mp H
    obtain ⟨t173, A50, H⟩ := H
    replace H : (if 1 + t173.size ≤ 9223372036854775807 then (some ((⟨#[45]⟩ : ByteArray) ++ t173)) else (none)) = some r := H
    have A5 := Aside0.mk A50
    clear A50
    by_cases c6 : 1 + t173.size ≤ 9223372036854775807
    rotate_left
    ·rw [if_neg c6] at H
     exact absurd H (by simp)
    rw [if_pos c6] at H
    have c6b0 := eq_true c6
    have c6b1 : decide (1 + t173.size ≤ 9223372036854775807) = true := decide_eq_true c6
    try have c6b2 : (9223372036854775807 < 1 + t173.size) = False := eq_false (Nat.not_lt.2 c6)
    obtain rfl := Option.some.inj H
    go_wp2_with (first | ((with_reducible refine gate_callee (f := 22) rfl ?_); refine goesL_ (some 12) rfl rfl Tryd.func22 (by kernel_rfl) rfl #[.int .i64 (wrap64 (-a0))] rfl zT4 ?_; (with_reducible refine (ih kj1 (by have := HJ1.out; omega) (wrap64 (-a0)) t173 _ A5.out).mono ?_); rintro e w' ⟨rfl, ⟨nd, rfl⟩⟩; refine ⟨_, rfl, ?_⟩))
    go_ret
    exact ⟨by first | rfl | (simp; done) | (simp [*]; done), by repeat (first | exact Drawn0.refl _ | apply Drawn0.step)⟩
   replace c4 := Bool.eq_false_iff.mpr c4
   subst c4
   have H1 : (if a0 < 0 then ((impl_digits.f kj1 (wrap64 (Int.tdiv a0 10))).bind fun t174 => ((impl_digits.f kj1 (wrap64 (-(Int.tmod a0 10)))).bind fun t175 => (if t174.size + t175.size ≤ 9223372036854775807 then (some (t174 ++ t175)) else (none)))) else (if a0 < 10 then (some (Go.Utf8.encode (wrap32 (wrap64 (48 + a0))))) else ((impl_digits.f kj1 (wrap64 (Int.tdiv a0 10))).bind fun t176 => (if t176.size + (Go.Utf8.encode (wrap32 (wrap64 (48 + (Int.tmod a0 10))))).size ≤ 9223372036854775807 then (some (t176 ++ (Go.Utf8.encode (wrap32 (wrap64 (48 + (Int.tmod a0 10))))))) else (none))))) = some r := by rw [if_neg (show ¬ (false = true) by decide)] at H; exact H
   clear H
   have H := H1
   clear H1
   by_cases c7 : a0 < 0
   ·rw [if_pos c7] at H
    have c7b0 : decide (a0 < 0) = true := decide_eq_true c7
    clear c7
    replace H := Option.bind_eq_some_iff.mp H
    obtain ⟨t174, A80, H⟩ := H
    replace H : ((impl_digits.f kj1 (wrap64 (-(Int.tmod a0 10)))).bind fun t175 => (if t174.size + t175.size ≤ 9223372036854775807 then (some (t174 ++ t175)) else (none))) = some r := H
    have A8 := Aside0.mk A80
    clear A80
    replace H := Option.bind_eq_some_iff.mp H
    obtain ⟨t175, A90, H⟩ := H
    replace H : (if t174.size + t175.size ≤ 9223372036854775807 then (some (t174 ++ t175)) else (none)) = some r := H
    have A9 := Aside0.mk A90
    clear A90
    by_cases c10 : t174.size + t175.size ≤ 9223372036854775807
    rotate_left
    ·rw [if_neg c10] at H
     exact absurd H (by simp)
    rw [if_pos c10] at H
    have c10b0 := eq_true c10
    have c10b1 : decide (t174.size + t175.size ≤ 9223372036854775807) = true := decide_eq_true c10
    try have c10b2 : (9223372036854775807 < t174.size + t175.size) = False := eq_false (Nat.not_lt.2 c10)
    obtain rfl := Option.some.inj H
    go_wp2_with (first | ((with_reducible refine gate_callee (f := 22) rfl ?_); refine goesL_ (some 19) rfl rfl Tryd.func22 (by kernel_rfl) rfl #[.int .i64 (wrap64 (Int.tdiv a0 10))] rfl zT4 ?_; (with_reducible refine (ih kj1 (by have := HJ1.out; omega) (wrap64 (Int.tdiv a0 10)) t174 _ A8.out).mono ?_); rintro e w' ⟨rfl, ⟨nd, rfl⟩⟩; refine ⟨_, rfl, ?_⟩) | ((with_reducible refine gate_callee (f := 22) rfl ?_); refine goesL_ (some 23) rfl rfl Tryd.func22 (by kernel_rfl) rfl #[.int .i64 (wrap64 (-(Int.tmod a0 10)))] rfl zT4 ?_; (with_reducible refine (ih kj1 (by have := HJ1.out; omega) (wrap64 (-(Int.tmod a0 10))) t175 _ A9.out).mono ?_); rintro e w' ⟨rfl, ⟨nd, rfl⟩⟩; refine ⟨_, rfl, ?_⟩))
    go_ret
    exact ⟨by first | rfl | (simp; done) | (simp [*]; done), by repeat (first | exact Drawn0.refl _ | apply Drawn0.step)⟩
   rw [if_neg c7] at H
   have c7b0 : decide (a0 < 0) = false := decide_eq_false c7
   clear c7
   by_cases c11 : a0 < 10
   ·rw [if_pos c11] at H
    have c11b0 : decide (a0 < 10) = true := decide_eq_true c11
    clear c11
    obtain rfl := Option.some.inj H
    go_wp2
    go_ret
    exact ⟨by first | rfl | (simp; done) | (simp [*]; done), by repeat (first | exact Drawn0.refl _ | apply Drawn0.step)⟩
   rw [if_neg c11] at H
   have c11b0 : decide (a0 < 10) = false := decide_eq_false c11
   clear c11
   replace H := Option.bind_eq_some_iff.mp H
   obtain ⟨t176, A120, H⟩ := H
   replace H : (if t176.size + (Go.Utf8.encode (wrap32 (wrap64 (48 + (Int.tmod a0 10))))).size ≤ 9223372036854775807 then (some (t176 ++ (Go.Utf8.encode (wrap32 (wrap64 (48 + (Int.tmod a0 10))))))) else (none)) = some r := H
   have A12 := Aside0.mk A120
   clear A120
   by_cases c13 : t176.size + (Go.Utf8.encode (wrap32 (wrap64 (48 + (Int.tmod a0 10))))).size ≤ 9223372036854775807
   rotate_left
   ·rw [if_neg c13] at H
    exact absurd H (by simp)
   rw [if_pos c13] at H
   have c13b0 := eq_true c13
   have c13b1 : decide (t176.size + (Go.Utf8.encode (wrap32 (wrap64 (48 + (Int.tmod a0 10))))).size ≤ 9223372036854775807) = true := decide_eq_true c13
   try have c13b3 : (9223372036854775807 < t176.size + ((Go.Utf8.encode (wrap32 (wrap64 (48 + (Int.tmod a0 10))))).size)) = False := eq_false (by have h_ := c13; simp only [ByteArray.size_append] at h_; exact Nat.not_lt.2 h_)
   try have c13b2 : (9223372036854775807 < t176.size + (Go.Utf8.encode (wrap32 (wrap64 (48 + (Int.tmod a0 10))))).size) = False := eq_false (Nat.not_lt.2 c13)
   obtain rfl := Option.some.inj H
   go_wp2_with (first | ((with_reducible refine gate_callee (f := 22) rfl ?_); refine goesL_ (some 34) rfl rfl Tryd.func22 (by kernel_rfl) rfl #[.int .i64 (wrap64 (Int.tdiv a0 10))] rfl zT4 ?_; (with_reducible refine (ih kj1 (by have := HJ1.out; omega) (wrap64 (Int.tdiv a0 10)) t176 _ A12.out).mono ?_); rintro e w' ⟨rfl, ⟨nd, rfl⟩⟩; refine ⟨_, rfl, ?_⟩))
   go_ret
   exact ⟨by first | rfl | (simp; done) | (simp [*]; done), by repeat (first | exact Drawn0.refl _ | apply Drawn0.step)⟩

/-! ### impl_number: function 17 -/
mutual
def impl_number.j0 : Nat → ByteArray → Bool → Option (Int × Bool)
 | 0, _, _ => none
 | k + 1, x0, x15 => if x15 = true then (some (0, false)) else (impl_number.l0 k x0 0 (x0.size : Int) 0)
def impl_number.l0 : Nat → ByteArray → Int → Int → Int → Option (Int × Bool)
 | 0, _, _, _, _ => none
 | k + 1, x0, x6, x17, x18 => if x18 < x17 then (if 0 ≤ x18 then (if x18 < (x0.size : Int) then (if (bt x0 x18) < 48 then (some (0, false)) else (if (bt x0 x18) > 57 then (some (0, false)) else (impl_number.l0 k x0 (wrap64 ((wrap64 (10 * x6)) + (((bt x0 x18) - 48) % 256))) x17 (wrap64 (x18 + 1))))) else (none)) else (none)) else ((impl_digits.f k x6).bind fun t177 => (some (x6, (t177.toList == x0.toList))))
end
def impl_number.f (k : Nat) (a0 : ByteArray) (a1 : Int) : Option (Int × Bool) := if a0.toList = ([] : List UInt8) then (impl_number.j0 k a0 true) else (impl_number.j0 k a0 (decide ((a0.size : Int) > a1)))
theorem impl_number.mono_l : ∀ k, (∀ y0 y1, LeO (impl_number.j0 k y0 y1) (impl_number.j0 (k + 1) y0 y1)) ∧ (∀ y0 y1 y2 y3, LeO (impl_number.l0 k y0 y1 y2 y3) (impl_number.l0 (k + 1) y0 y1 y2 y3))
 | 0 => ⟨fun _ _ r h => by simp [impl_number.j0] at h, fun _ _ _ _ r h => by simp [impl_number.l0] at h⟩
 | k + 1 => by
  obtain ⟨ih0, ih1⟩ := impl_number.mono_l k
  refine ⟨?_, ?_⟩
  ·intro y0 y1
   unfold impl_number.j0
   repeat' first
   | (with_reducible exact ih0 _ _)
   | (with_reducible exact ih1 _ _ _ _)
   | (with_reducible exact impl_digits.mono _ _)
   | (with_reducible exact LeO.refl _)
   | (with_reducible exact LeO.none _)
   | (with_reducible refine LeO.ite ?_ ?_)
   | (with_reducible refine LeO.bind ?_ (fun _ => ?_))
   | exact ih0 _ _
   | exact ih1 _ _ _ _
   | exact impl_digits.mono _ _
   | exact LeO.none _
   | refine LeO.ite ?_ ?_
   | refine LeO.bind ?_ (fun _ => ?_)
  ·intro y0 y1 y2 y3
   unfold impl_number.l0
   repeat' first
   | (with_reducible exact ih0 _ _)
   | (with_reducible exact ih1 _ _ _ _)
   | (with_reducible exact impl_digits.mono _ _)
   | (with_reducible exact LeO.refl _)
   | (with_reducible exact LeO.none _)
   | (with_reducible refine LeO.ite ?_ ?_)
   | (with_reducible refine LeO.bind ?_ (fun _ => ?_))
   | exact ih0 _ _
   | exact ih1 _ _ _ _
   | exact impl_digits.mono _ _
   | exact LeO.none _
   | refine LeO.ite ?_ ?_
   | refine LeO.bind ?_ (fun _ => ?_)
theorem impl_number.mono : ∀ a0 a1 k, LeO (impl_number.f k a0 a1) (impl_number.f (k + 1) a0 a1) := by
 intro a0 a1 k
 obtain ⟨ih0, ih1⟩ := impl_number.mono_l k
 unfold impl_number.f
 repeat' first
   | (with_reducible exact ih0 _ _)
   | (with_reducible exact ih1 _ _ _ _)
   | (with_reducible exact impl_digits.mono _ _)
   | (with_reducible exact LeO.refl _)
   | (with_reducible exact LeO.none _)
   | (with_reducible refine LeO.ite ?_ ?_)
   | (with_reducible refine LeO.bind ?_ (fun _ => ?_))
   | exact ih0 _ _
   | exact ih1 _ _ _ _
   | exact impl_digits.mono _ _
   | exact LeO.none _
   | refine LeO.ite ?_ ?_
   | refine LeO.bind ?_ (fun _ => ?_)
set_option maxHeartbeats 8000000 in
set_option maxRecDepth 100000 in
theorem impl_number.calls (k : Nat) (a0 : ByteArray) (a1 : Int) (r1 : Int) (r2 : Bool) (w : World) (h : impl_number.f k a0 a1 = some (r1, r2)) :
  Calls Tryd.prog 17 #[.string a0, .int .i64 a1] w fun e w' => e = .returned (.tuple #[.int .i64 r1, .bool r2]) ∧ Drawn0 w w' := by
 have H : (if a0.toList = ([] : List UInt8) then (impl_number.j0 k a0 true) else (impl_number.j0 k a0 (decide ((a0.size : Int) > a1)))) = some (r1, r2) := h
 clear h
 have HC3 := Aside0.mk H
 clear H
 go_enter Tryd.func17, Tryd.ntmps17
 go_upto_region 1 with (fail)
 go_cut [15] (fun v15 wc => ∃ (kq : Nat) (x15_2 : Bool), v15 = .bool x15_2 ∧ Aside0 (impl_number.j0 kq a0 x15_2 = some (r1, r2)) ∧ Aside0 (kq ≤ k) ∧ Drawn0 w wc)
 case first =>
  have H := HC3.out
  clear HC3
  by_cases c4 : a0.toList = ([] : List UInt8)
  ·rw [if_pos c4] at H
   have c4b0 : (a0.toList == ([] : List UInt8)) = true := beq_iff_eq.mpr c4
   have c4b1 : (a0.toList != ([] : List UInt8)) = false := bne_eq_false_iff_eq.mpr c4
   clear c4
   (first | rw [c4b0] | (simp only [i64_w, i32_w]; rw [c4b0]) | skip)
   have H' := Aside0.mk H
   clear H
   go_wp2
   go_meet
   case rel => exact ⟨_, (true), (by first | rfl | (simp; done) | (simp [*]; done)), H', ⟨by first | omega | exact Nat.le_refl _⟩, by repeat (first | exact Drawn0.refl _ | apply Drawn0.step)⟩
  rw [if_neg c4] at H
  have c4b0 : (a0.toList == ([] : List UInt8)) = false := beq_eq_false_iff_ne.mpr c4
  have c4b1 : (a0.toList != ([] : List UInt8)) = true := bne_iff_ne.mpr c4
  (first | rw [c4b0] | (simp only [i64_w, i32_w]; rw [c4b0]) | skip)
  have H' := Aside0.mk H
  clear H
  go_wp2
  go_meet
  case rel => exact ⟨_, (decide ((a0.size : Int) > a1)), (by first | rfl | (simp; done) | (simp [*]; done)), H', ⟨by first | omega | exact Nat.le_refl _⟩, by repeat (first | exact Drawn0.refl _ | apply Drawn0.step)⟩
 case rest =>
  clear HC3
  try clear c1
  try clear p2
  try clear c4
  try clear c4b0
  try clear c4b1
  obtain ⟨kq, x15_2, rfl, HA, HJ2, ⟨mc2, rfl⟩⟩ := hcut
  cases kq with
  | zero => exact absurd HA.out (by simp [impl_number.j0])
  | succ kj2 =>
   have H := HA.out
   clear HA
   simp only [impl_number.j0] at H
   by_cases c5 : x15_2 = true
   ·subst c5
    have H1 : (some (0, false)) = some (r1, r2) := by rw [if_pos rfl] at H; exact H
    clear H
    have H := H1
    clear H1
    simp only [Option.some.injEq, Prod.mk.injEq] at H
    obtain ⟨rfl, rfl⟩ := H
    go_wp2
    go_ret2
    exact ⟨by first | rfl | (simp; done) | (simp [*]; done), by repeat (first | exact Drawn0.refl _ | apply Drawn0.step)⟩
   replace c5 := Bool.eq_false_iff.mpr c5
   subst c5
   have H1 : (impl_number.l0 kj2 a0 0 (a0.size : Int) 0) = some (r1, r2) := by rw [if_neg (show ¬ (false = true) by decide)] at H; exact H
   clear H
   have H := H1
   clear H1
   have H' := Aside0.mk H
   clear H
   go_wp2
   go_loopg [6, 18] kj2 (fun kq v6 v18 w' => ∃ (x6_2 : Int) (x18_2 : Int), v6 = .int .i64 x6_2 ∧ v18 = .int .i64 x18_2 ∧ Aside0 (impl_number.l0 kq a0 x6_2 (a0.size : Int) x18_2 = some (r1, r2)) ∧ Aside0 (kq ≤ kj2) ∧ Drawn0 w w')
   case atStart => exact ⟨(0), (0), (by first | rfl | (simp; done) | (simp [*]; done)), (by first | rfl | (simp; done) | (simp [*]; done)), H', ⟨Nat.le_refl _⟩, by repeat (first | exact Drawn0.refl _ | apply Drawn0.step)⟩
   case round =>
    clear H'
    try clear c1
    try clear c2
    try clear p2
    try clear c4
    try clear c4b0
    try clear c4b1
    try clear c5
    try clear p2
    obtain ⟨x6_2, x18_2, rfl, rfl, HA, HK2, ⟨m2, rfl⟩⟩ := hrel
    cases gk with
    | zero => exact absurd HA.out (by simp [impl_number.l0])
    | succ k2 =>
     have H := HA.out
     clear HA
     simp only [impl_number.l0] at H
     by_cases c6 : x18_2 < (a0.size : Int)
     rotate_left
     ·rw [if_neg c6] at H
      have c6b0 : decide (x18_2 < (a0.size : Int)) = false := decide_eq_false c6
      clear c6
      replace H := Option.bind_eq_some_iff.mp H
      obtain ⟨t177, A140, H⟩ := H
      replace H : (some (x6_2, (t177.toList == a0.toList))) = some (r1, r2) := H
      have A14 := Aside0.mk A140
      clear A140
      simp only [Option.some.injEq, Prod.mk.injEq] at H
      obtain ⟨rfl, rfl⟩ := H
      go_wp2_with (first | ((with_reducible refine gate_callee (f := 22) rfl ?_); refine goesL_ (some 42) rfl rfl Tryd.func22 (by kernel_rfl) rfl #[.int .i64 x6_2] rfl zT4 ?_; (with_reducible refine (impl_digits.calls k2 x6_2 t177 _ A14.out).mono ?_); rintro e w' ⟨rfl, ⟨nd, rfl⟩⟩; refine ⟨_, rfl, ?_⟩))
      go_ret2
      exact ⟨by first | rfl | (simp; done) | (simp [*]; done), by repeat (first | exact Drawn0.refl _ | apply Drawn0.step)⟩
     rw [if_pos c6] at H
     have c6b0 : decide (x18_2 < (a0.size : Int)) = true := decide_eq_true c6
     clear c6
     by_cases c7 : 0 ≤ x18_2
     rotate_left
     ·rw [if_neg c7] at H
      exact absurd H (by simp)
     rw [if_pos c7] at H
     have c7b0 : decide (0 ≤ x18_2) = true := decide_eq_true c7
     clear c7
     by_cases c8 : x18_2 < (a0.size : Int)
     rotate_left
     ·rw [if_neg c8] at H
      exact absurd H (by simp)
     rw [if_pos c8] at H
     have c8b0 : decide (x18_2 < (a0.size : Int)) = true := decide_eq_true c8
     clear c8
     by_cases c10 : (bt a0 x18_2) < 48
     ·rw [if_pos c10] at H
      have c10b0 : decide ((bt a0 x18_2) < 48) = true := decide_eq_true c10
      clear c10
      simp only [Option.some.injEq, Prod.mk.injEq] at H
      obtain ⟨rfl, rfl⟩ := H
      have p9 : 0 ≤ (x18_2 : Int) := zA4
      have q9 : x18_2 < (a0.size : Int) := zA4
      have hx9 := bt_at a0 x18_2
      replace p9 := eq_true p9
      replace q9 := eq_true q9
      go_wp2
      go_ret2
      exact ⟨by first | rfl | (simp; done) | (simp [*]; done), by repeat (first | exact Drawn0.refl _ | apply Drawn0.step)⟩
     rw [if_neg c10] at H
     have c10b0 : decide ((bt a0 x18_2) < 48) = false := decide_eq_false c10
     clear c10
     by_cases c12 : (bt a0 x18_2) > 57
     ·rw [if_pos c12] at H
      have c12b0 : decide (57 < (bt a0 x18_2)) = true := decide_eq_true c12
      clear c12
      simp only [Option.some.injEq, Prod.mk.injEq] at H
      obtain ⟨rfl, rfl⟩ := H
      have p9 : 0 ≤ (x18_2 : Int) := zA4
      have q9 : x18_2 < (a0.size : Int) := zA4
      have hx9 := bt_at a0 x18_2
      replace p9 := eq_true p9
      replace q9 := eq_true q9
      have p11 : 0 ≤ (x18_2 : Int) := zA4
      have q11 : x18_2 < (a0.size : Int) := zA4
      have hx11 := bt_at a0 x18_2
      replace p11 := eq_true p11
      replace q11 := eq_true q11
      go_wp2
      go_ret2
      exact ⟨by first | rfl | (simp; done) | (simp [*]; done), by repeat (first | exact Drawn0.refl _ | apply Drawn0.step)⟩
     rw [if_neg c12] at H
     have c12b0 : decide (57 < (bt a0 x18_2)) = false := decide_eq_false c12
     clear c12
     have H' := Aside0.mk H
     clear H
     have p9 : 0 ≤ (x18_2 : Int) := zA4
     have q9 : x18_2 < (a0.size : Int) := zA4
     have hx9 := bt_at a0 x18_2
     replace p9 := eq_true p9
     replace q9 := eq_true q9
     have p11 : 0 ≤ (x18_2 : Int) := zA4
     have q11 : x18_2 < (a0.size : Int) := zA4
     have hx11 := bt_at a0 x18_2
     replace p11 := eq_true p11
     replace q11 := eq_true q11
     have p13 : 0 ≤ (x18_2 : Int) := zA4
     have q13 : x18_2 < (a0.size : Int) := zA4
     have hx13 := bt_at a0 x18_2
     replace p13 := eq_true p13
     replace q13 := eq_true q13
     go_wp2
     go_roundg k2
     case measure => have := HJ2.out; have := HK2.out; omega
     case rel => exact ⟨(wrap64 ((wrap64 (10 * x6_2)) + (((bt a0 x18_2) - 48) % 256))), (wrap64 (x18_2 + 1)), (by first | rfl | (simp; done) | (simp [*]; done)), (by first | rfl | (simp; done) | (simp [*]; done)), H', ⟨by have := HJ2.out; have := HK2.out; omega⟩, by repeat (first | exact Drawn0.refl _ | apply Drawn0.step)⟩

/-! ### impl_from: function 18 -/
def impl_from.f (a0 : Int) (a1 : Int) (a2 : Int) : Option (Bool) := if a0 ≥ a1 then (some (decide (a0 ≤ a2))) else (some false)
set_option maxHeartbeats 8000000 in
set_option maxRecDepth 100000 in
theorem impl_from.calls (a0 : Int) (a1 : Int) (a2 : Int) (r : Bool) (w : World) (h : impl_from.f a0 a1 a2 = some r) :
  Calls Tryd.prog 18 #[.int .i64 a0, .int .i64 a1, .int .i64 a2] w fun e w' => e = .returned (.bool r) ∧ Drawn0 w w' := by
 have H : (if a0 ≥ a1 then (some (decide (a0 ≤ a2))) else (some false)) = some r := h
 clear h
 by_cases c4 : a0 ≥ a1
 ·rw [if_pos c4] at H
  have c4b0 : decide (a1 ≤ a0) = true := decide_eq_true c4
  clear c4
  obtain rfl := Option.some.inj H
  go_enter Tryd.func18, Tryd.ntmps18
  go_wp2
  go_ret
  exact ⟨by first | rfl | (simp; done) | (simp [*]; done), by repeat (first | exact Drawn0.refl _ | apply Drawn0.step)⟩
 rw [if_neg c4] at H
 have c4b0 : decide (a1 ≤ a0) = false := decide_eq_false c4
 clear c4
 obtain rfl := Option.some.inj H
 go_enter Tryd.func18, Tryd.ntmps18
 go_wp2
 go_ret
 exact ⟨by first | rfl | (simp; done) | (simp [*]; done), by repeat (first | exact Drawn0.refl _ | apply Drawn0.step)⟩

/-! ### impl_EventRead: function 6 -/
mutual
def impl_EventRead.l0 : Nat → List ByteArray → Int → Int → Int → Int → Int → Int → Int → Option (Int × Int × Int × Int × Int × Bool)
 | 0, _, _, _, _, _, _, _, _ => none
 | k + 1, x19, x20, x21, x183000, x183001, x183002, x183003, x183004 => if x21 < x20 then (if 0 ≤ x21 then (if x21 < (x19.length : Int) then ((impl_number.f k (rdOf ByteArray.empty x19 x21) 5).bind fun bt184 => (if (rdOf ByteArray.empty x19 x21).toList = ([45] : List UInt8) then (impl_EventRead.j1 k x21 (-1) true x19 x20 x21 x183000 x183001 x183002 x183003 x183004) else (impl_EventRead.j1 k x21 bt184.1 bt184.2 x19 x20 x21 x183000 x183001 x183002 x183003 x183004))) else (none)) else (none)) else (some (x183000, x183001, x183002, x183003, x183004, true))
def impl_EventRead.j1 : Nat → Int → Int → Bool → List ByteArray → Int → Int → Int → Int → Int → Int → Int → Option (Int × Int × Int × Int × Int × Bool)
 | 0, _, _, _, _, _, _, _, _, _, _, _ => none
 | k + 1, x6, x8, x9, x19, x20, x21, x183000, x183001, x183002, x183003, x183004 => if x6 < 2 then (if x9 = true then ((impl_from.f x8 0 99).bind fun t186 => (if t186 = true then (impl_EventRead.l0 k x19 x20 (wrap64 (x21 + 1)) (if x6 = 0 then x8 else x183000) (if x6 = 1 then x8 else x183001) (if x6 = 2 then x8 else x183002) (if x6 = 3 then x8 else x183003) (if x6 = 4 then x8 else x183004)) else (some (0, 0, 0, 0, 0, false)))) else (some (0, 0, 0, 0, 0, false))) else (if x9 = true then ((impl_from.f x8 (-1) 65535).bind fun t187 => (if t187 = true then (impl_EventRead.l0 k x19 x20 (wrap64 (x21 + 1)) (if x6 = 0 then x8 else x183000) (if x6 = 1 then x8 else x183001) (if x6 = 2 then x8 else x183002) (if x6 = 3 then x8 else x183003) (if x6 = 4 then x8 else x183004)) else (some (0, 0, 0, 0, 0, false)))) else (some (0, 0, 0, 0, 0, false)))
end
def impl_EventRead.f (k : Nat) (a0 : ByteArray) : Option (Int × Int × Int × Int × Int × Bool) := (strings_Split.f k a0 (⟨#[32]⟩ : ByteArray)).bind fun t179 => (if (t179.length : Int) = 5 then (impl_EventRead.l0 k t179 (t179.length : Int) 0 0 0 0 0 0) else (some (0, 0, 0, 0, 0, false)))
theorem impl_EventRead.mono_l : ∀ k, (∀ y0 y1 y2 y3 y4 y5 y6 y7, LeO (impl_EventRead.l0 k y0 y1 y2 y3 y4 y5 y6 y7) (impl_EventRead.l0 (k + 1) y0 y1 y2 y3 y4 y5 y6 y7)) ∧ (∀ y0 y1 y2 y3 y4 y5 y6 y7 y8 y9 y10, LeO (impl_EventRead.j1 k y0 y1 y2 y3 y4 y5 y6 y7 y8 y9 y10) (impl_EventRead.j1 (k + 1) y0 y1 y2 y3 y4 y5 y6 y7 y8 y9 y10))
 | 0 => ⟨fun _ _ _ _ _ _ _ _ r h => by simp [impl_EventRead.l0] at h, fun _ _ _ _ _ _ _ _ _ _ _ r h => by simp [impl_EventRead.j1] at h⟩
 | k + 1 => by
  obtain ⟨ih0, ih1⟩ := impl_EventRead.mono_l k
  refine ⟨?_, ?_⟩
  ·intro y0 y1 y2 y3 y4 y5 y6 y7
   unfold impl_EventRead.l0
   repeat' first
   | (with_reducible exact ih0 _ _ _ _ _ _ _ _)
   | (with_reducible exact ih1 _ _ _ _ _ _ _ _ _ _ _)
   | (with_reducible exact impl_number.mono _ _ _)
   | (with_reducible exact strings_Split.mono _ _ _)
   | (with_reducible exact LeO.refl _)
   | (with_reducible exact LeO.none _)
   | (with_reducible refine LeO.ite ?_ ?_)
   | (with_reducible refine LeO.bind ?_ (fun _ => ?_))
   | exact ih0 _ _ _ _ _ _ _ _
   | exact ih1 _ _ _ _ _ _ _ _ _ _ _
   | exact impl_number.mono _ _ _
   | exact strings_Split.mono _ _ _
   | exact LeO.none _
   | refine LeO.ite ?_ ?_
   | refine LeO.bind ?_ (fun _ => ?_)
  ·intro y0 y1 y2 y3 y4 y5 y6 y7 y8 y9 y10
   unfold impl_EventRead.j1
   repeat' first
   | (with_reducible exact ih0 _ _ _ _ _ _ _ _)
   | (with_reducible exact ih1 _ _ _ _ _ _ _ _ _ _ _)
   | (with_reducible exact impl_number.mono _ _ _)
   | (with_reducible exact strings_Split.mono _ _ _)
   | (with_reducible exact LeO.refl _)
   | (with_reducible exact LeO.none _)
   | (with_reducible refine LeO.ite ?_ ?_)
   | (with_reducible refine LeO.bind ?_ (fun _ => ?_))
   | exact ih0 _ _ _ _ _ _ _ _
   | exact ih1 _ _ _ _ _ _ _ _ _ _ _
   | exact impl_number.mono _ _ _
   | exact strings_Split.mono _ _ _
   | exact LeO.none _
   | refine LeO.ite ?_ ?_
   | refine LeO.bind ?_ (fun _ => ?_)
theorem impl_EventRead.mono : ∀ a0 k, LeO (impl_EventRead.f k a0) (impl_EventRead.f (k + 1) a0) := by
 intro a0 k
 obtain ⟨ih0, ih1⟩ := impl_EventRead.mono_l k
 unfold impl_EventRead.f
 repeat' first
   | (with_reducible exact ih0 _ _ _ _ _ _ _ _)
   | (with_reducible exact ih1 _ _ _ _ _ _ _ _ _ _ _)
   | (with_reducible exact impl_number.mono _ _ _)
   | (with_reducible exact strings_Split.mono _ _ _)
   | (with_reducible exact LeO.refl _)
   | (with_reducible exact LeO.none _)
   | (with_reducible refine LeO.ite ?_ ?_)
   | (with_reducible refine LeO.bind ?_ (fun _ => ?_))
   | exact ih0 _ _ _ _ _ _ _ _
   | exact ih1 _ _ _ _ _ _ _ _ _ _ _
   | exact impl_number.mono _ _ _
   | exact strings_Split.mono _ _ _
   | exact LeO.none _
   | refine LeO.ite ?_ ?_
   | refine LeO.bind ?_ (fun _ => ?_)
set_option maxHeartbeats 8000000 in
set_option maxRecDepth 100000 in
theorem impl_EventRead.calls (k : Nat) (a0 : ByteArray) (r1 : Int) (r2 : Int) (r3 : Int) (r4 : Int) (r5 : Int) (r6 : Bool) (w : World) (h : impl_EventRead.f k a0 = some (r1, r2, r3, r4, r5, r6)) :
  Calls Tryd.prog 6 #[.string a0] w fun e w' => e = .returned (.tuple #[.agg #[.int .i64 r1, .int .i64 r2, .int .i64 r3, .int .i64 r4, .int .i64 r5], .bool r6]) ∧ Below w.heap.size w w' := by
 have hu23 := Tryd.underlying23
 have hu38 := Tryd.underlying38
 have HB := Aside0.mk (Below.refl w.heap.size w)
 have H : ((strings_Split.f k a0 (⟨#[32]⟩ : ByteArray)).bind fun t179 => (if (t179.length : Int) = 5 then (impl_EventRead.l0 k t179 (t179.length : Int) 0 0 0 0 0 0) else (some (0, 0, 0, 0, 0, false)))) = some (r1, r2, r3, r4, r5, r6) := h
 clear h
 replace H := Option.bind_eq_some_iff.mp H
 obtain ⟨t179, A20, H⟩ := H
 replace H : (if (t179.length : Int) = 5 then (impl_EventRead.l0 k t179 (t179.length : Int) 0 0 0 0 0 0) else (some (0, 0, 0, 0, 0, false))) = some (r1, r2, r3, r4, r5, r6) := H
 have A2 := Aside0.mk A20
 clear A20
 by_cases c3 : (t179.length : Int) = 5
 rotate_left
 ·rw [if_neg c3] at H
  have c3b0 : ((t179.length : Int) == 5) = false := beq_eq_false_iff_ne.mpr c3
  have c3b1 : ((t179.length : Int) != 5) = true := bne_iff_ne.mpr c3
  simp only [Option.some.injEq, Prod.mk.injEq] at H
  obtain ⟨rfl, rfl, rfl, rfl, rfl, rfl⟩ := H
  go_enter Tryd.func6, Tryd.ntmps6
  go_wp2_with (first | ((with_reducible refine gate_dst (N := 2) rfl ?_); refine box_event ?hg (N := 2) ?hd (cs := #[.int .i64 0, .int .i64 0, .int .i64 0, .int .i64 0, .int .i64 0]) (t := 23) ?hr ?_; (case hd => rfl); (case hg => rfl); (case hr => first | (go_simp; done) | (go_simp; rfl)); intro gb178 hg w38 hbox hb; have n0_ := Aside0.mk (below_step (zB4_0) hb); have n1_ := Aside0.mk (hbox); have n2_ := Aside0.mk ((by rw [hg]; exact (below_size (zB4_0)) : w.heap.size ≤ gb178)); have n3_ := Aside0.mk ((by rw [hg]; exact (below_size (zB4_0)) : w.heap.size ≤ gb178)); clear HB; have HB := n0_; have BK178 := n1_; have GW178 := n2_; have GE178 := n3_; clear n0_ n1_ n2_ n3_; clear hb hbox hg) | ((with_reducible refine gate_callee (f := 16) rfl ?_); refine goesL_ (some 13) rfl rfl Tryd.func16 (by kernel_rfl) rfl #[.string a0, .string (⟨#[32]⟩ : ByteArray)] rfl zT4 ?_; (with_reducible refine (strings_Split.calls k a0 (⟨#[32]⟩ : ByteArray) t179 _ A2.out).mono ?_); rintro e w39 ⟨v180, rfl, ho0, hb⟩; refine ⟨_, rfl, ?_⟩; have n0_ := Aside0.mk (Kd.R_lower ho0 (below_size (zB4_1))); have n1_ := Aside0.mk (zb4 BK178.out hb); have n2_ := Aside0.mk (below_step (zB4_1) hb); clear BK178; clear HB; have HO181 := n0_; have BK178 := n1_; have HB := n2_; clear n0_ n1_ n2_; (try clear hb); (try clear hb2); (try clear hk); (try clear hi); (try clear ho0); obtain ⟨Ao40, co40, eo40⟩ := Kd.R_slice HO181.out; subst eo40; obtain ⟨hcz41_0, hcz41_1, hcz41_2, hcz41_3, hcz41_4, hfz41_0, hfz41_1, hfz41_2, hfz41_3, hfz41_4⟩ := zc4_5 (w := w39) BK178.out))
  refine bodyPost_ret (results_ct rfl _ _ gb178 23 #[.int .i64 0, .int .i64 0, .int .i64 0, .int .i64 0, .int .i64 0] (0, 0) _ rfl (by refine zP4 ?_; refine blk_put (cs := #[.int .i64 0, .int .i64 0, .int .i64 0, .int .i64 0, .int .i64 0]) ?_ 4 _ rfl; refine zP4 ?_; refine blk_put (cs := #[.int .i64 0, .int .i64 0, .int .i64 0, .int .i64 0, .int .i64 0]) ?_ 3 _ rfl; refine zP4 ?_; refine blk_put (cs := #[.int .i64 0, .int .i64 0, .int .i64 0, .int .i64 0, .int .i64 0]) ?_ 2 _ rfl; refine zP4 ?_; refine blk_put (cs := #[.int .i64 0, .int .i64 0, .int .i64 0, .int .i64 0, .int .i64 0]) ?_ 1 _ rfl; refine zP4 ?_; refine blk_put (cs := #[.int .i64 0, .int .i64 0, .int .i64 0, .int .i64 0, .int .i64 0]) ?_ 0 _ rfl; refine zP4 ?_; exact BK178.out) Tryd.underlying23 rfl (by kernel_rfl)) rfl ?_
  exact ⟨zE4, zB4_1⟩
 rw [if_pos c3] at H
 have HT5_ := Aside0.mk c3
 have c3b0 : ((t179.length : Int) == 5) = true := beq_iff_eq.mpr c3
 have c3b1 : ((t179.length : Int) != 5) = false := bne_eq_false_iff_eq.mpr c3
 clear c3
 have H' := Aside0.mk H
 clear H
 go_enter Tryd.func6, Tryd.ntmps6
 go_wp2_with (first | ((with_reducible refine gate_dst (N := 2) rfl ?_); refine box_event ?hg (N := 2) ?hd (cs := #[.int .i64 0, .int .i64 0, .int .i64 0, .int .i64 0, .int .i64 0]) (t := 23) ?hr ?_; (case hd => rfl); (case hg => rfl); (case hr => first | (go_simp; done) | (go_simp; rfl)); intro gb178 hg w4 hbox hb; have n0_ := Aside0.mk (below_step (zB4_0) hb); have n1_ := Aside0.mk (hbox); have n2_ := Aside0.mk ((by rw [hg]; exact (below_size (zB4_0)) : w.heap.size ≤ gb178)); have n3_ := Aside0.mk ((by rw [hg]; exact (below_size (zB4_0)) : w.heap.size ≤ gb178)); clear HB; have HB := n0_; have BK178 := n1_; have GW178 := n2_; have GE178 := n3_; clear n0_ n1_ n2_ n3_; clear hb hbox hg) | ((with_reducible refine gate_callee (f := 16) rfl ?_); refine goesL_ (some 13) rfl rfl Tryd.func16 (by kernel_rfl) rfl #[.string a0, .string (⟨#[32]⟩ : ByteArray)] rfl zT4 ?_; (with_reducible refine (strings_Split.calls k a0 (⟨#[32]⟩ : ByteArray) t179 _ A2.out).mono ?_); rintro e w5 ⟨v180, rfl, ho0, hb⟩; refine ⟨_, rfl, ?_⟩; have n0_ := Aside0.mk (Kd.R_lower ho0 (below_size (zB4_1))); have n1_ := Aside0.mk (zb4 BK178.out hb); have n2_ := Aside0.mk (below_step (zB4_1) hb); clear BK178; clear HB; have HO181 := n0_; have BK178 := n1_; have HB := n2_; clear n0_ n1_ n2_; (try clear hb); (try clear hb2); (try clear hk); (try clear hi); (try clear ho0); obtain ⟨Ao6, co6, eo6⟩ := Kd.R_slice HO181.out; subst eo6) | ((with_reducible refine gate_dst (N := 5) rfl ?_); refine box_event ?hg (N := 5) ?hd (cs := #[.int .i64 0, .int .i64 0, .int .i64 0, .int .i64 0, .int .i64 0]) (t := 38) ?hr ?_; (case hd => rfl); (case hg => rfl); (case hr => first | (go_simp; done) | (go_simp; rfl)); intro gb182 hg w7 hbox hb; have n0_ := Aside0.mk (Kd.R_below (zR4 HO181.out) hb); have n1_ := Aside0.mk (zb4 BK178.out hb); have n2_ := Aside0.mk (below_step (zB4_1) hb); have n3_ := Aside0.mk (hbox); have n4_ := Aside0.mk ((by rw [hg]; exact (below_size (zB4_1)) : w.heap.size ≤ gb182)); have n5_ := Aside0.mk ((by rw [hg]; exact (below_size (zB4_1)) : w.heap.size ≤ gb182)); have n6_ := Aside0.mk ((zn4 BK178.out hg : gb178 ≠ gb182)); have n7_ := Aside0.mk ((zm4 BK178.out hg : gb182 ≠ gb178)); clear HO181; clear BK178; clear HB; have HO181 := n0_; have BK178 := n1_; have HB := n2_; have BK182 := n3_; have GW182 := n4_; have GE182 := n5_; have NB178_182 := n6_; have NB182_178 := n7_; clear n0_ n1_ n2_ n3_ n4_ n5_ n6_ n7_; clear hb hbox hg; have hnb8 := NB182_178.out; have hnc8 := NB178_182.out; obtain ⟨hcz9_0, hcz9_1, hcz9_2, hcz9_3, hcz9_4, hfz9_0, hfz9_1, hfz9_2, hfz9_3, hfz9_4⟩ := zc4_5 (w := w7) BK182.out))
 go_loopg [21] k (fun kq v21 w' => ∃ (x21_1 : Int) (x179000_1 : Int) (x179001_1 : Int) (x179002_1 : Int) (x179003_1 : Int) (x179004_1 : Int) (x183000_1 : Int) (x183001_1 : Int) (x183002_1 : Int) (x183003_1 : Int) (x183004_1 : Int), v21 = .int .i64 x21_1 ∧ Aside0 (impl_EventRead.l0 kq t179 (t179.length : Int) x21_1 x183000_1 x183001_1 x183002_1 x183003_1 x183004_1 = some (r1, r2, r3, r4, r5, r6)) ∧ Aside0 (kq ≤ k) ∧ Aside0 (Kd.R Kd.string 9 w' w.heap.size (fun _ => True) (.slice Ao6 t179.length co6) t179) ∧ Aside0 (w'.heap[gb178]? = some (.cells #[.int .i64 x179000_1, .int .i64 x179001_1, .int .i64 x179002_1, .int .i64 x179003_1, .int .i64 x179004_1] 23 (0, 0))) ∧ Aside0 (w'.heap[gb182]? = some (.cells #[.int .i64 x183000_1, .int .i64 x183001_1, .int .i64 x183002_1, .int .i64 x183003_1, .int .i64 x183004_1] 38 (0, 0))) ∧ Aside0 (Below w.heap.size w w'))
 case atStart => exact ⟨(0), (0), (0), (0), (0), (0), (0), (0), (0), (0), (0), (by first | rfl | (simp; done) | (simp [*]; done)), H', ⟨Nat.le_refl _⟩, ⟨by (with_reducible repeat (first | apply Kd.R_alloc | apply Kd.R_drewN | apply Kd.R_drew)); exact Kd.R_mono (Kd.R_far (p := ⟨gb182, 4, none⟩) (Kd.R_far (p := ⟨gb182, 3, none⟩) (Kd.R_far (p := ⟨gb182, 2, none⟩) (Kd.R_far (p := ⟨gb182, 1, none⟩) (Kd.R_far (p := ⟨gb182, 0, none⟩) (Kd.R_types HO181.out BK182.out (by decide)) (fun _ hk => hk.2) (.int .i64 0)) (fun _ hk => hk.2) (.int .i64 0)) (fun _ hk => hk.2) (.int .i64 0)) (fun _ hk => hk.2) (.int .i64 0)) (fun _ hk => hk.2) (.int .i64 0)) (fun _ hk => trivial)⟩, ⟨by refine zP4 ?_; refine blk_far ?_ NB178_182.out _; refine zP4 ?_; refine blk_far ?_ NB178_182.out _; refine zP4 ?_; refine blk_far ?_ NB178_182.out _; refine zP4 ?_; refine blk_far ?_ NB178_182.out _; refine zP4 ?_; refine blk_far ?_ NB178_182.out _; refine zP4 ?_; exact BK178.out⟩, ⟨by refine zP4 ?_; refine blk_put (cs := #[.int .i64 0, .int .i64 0, .int .i64 0, .int .i64 0, .int .i64 0]) ?_ 4 _ rfl; refine zP4 ?_; refine blk_put (cs := #[.int .i64 0, .int .i64 0, .int .i64 0, .int .i64 0, .int .i64 0]) ?_ 3 _ rfl; refine zP4 ?_; refine blk_put (cs := #[.int .i64 0, .int .i64 0, .int .i64 0, .int .i64 0, .int .i64 0]) ?_ 2 _ rfl; refine zP4 ?_; refine blk_put (cs := #[.int .i64 0, .int .i64 0, .int .i64 0, .int .i64 0, .int .i64 0]) ?_ 1 _ rfl; refine zP4 ?_; refine blk_put (cs := #[.int .i64 0, .int .i64 0, .int .i64 0, .int .i64 0, .int .i64 0]) ?_ 0 _ rfl; refine zP4 ?_; exact BK182.out⟩, ⟨zB4_2⟩⟩
 case round =>
  clear H'
  try clear c1
  try clear p2
  try clear c3
  try clear c3b0
  try clear c3b1
  try clear c6
  try clear c8
  try clear hcz9_0
  try clear hcz9_1
  try clear hcz9_2
  try clear hcz9_3
  try clear hcz9_4
  try clear hfz9_0
  try clear hfz9_1
  try clear hfz9_2
  try clear hfz9_3
  try clear hfz9_4
  obtain ⟨x21_1, x179000_1, x179001_1, x179002_1, x179003_1, x179004_1, x183000_1, x183001_1, x183002_1, x183003_1, x183004_1, rfl, HA, HK1, HO_19, BK178, BK182, HB⟩ := hrel
  cases gk with
  | zero => exact absurd HA.out (by simp [impl_EventRead.l0])
  | succ k1 =>
   have H := HA.out
   clear HA
   simp only [impl_EventRead.l0] at H
   by_cases c10 : x21_1 < (t179.length : Int)
   rotate_left
   ·rw [if_neg c10] at H
    have c10b0 : decide (x21_1 < (t179.length : Int)) = false := decide_eq_false c10
    clear c10
    simp only [Option.some.injEq, Prod.mk.injEq] at H
    obtain ⟨rfl, rfl, rfl, rfl, rfl, rfl⟩ := H
    have hnb35 := NB182_178.out
    have hnc35 := NB178_182.out
    obtain ⟨hcz36_0, hcz36_1, hcz36_2, hcz36_3, hcz36_4, hfz36_0, hfz36_1, hfz36_2, hfz36_3, hfz36_4⟩ := zc4_5 (w := wr) BK182.out
    obtain ⟨hcz37_0, hcz37_1, hcz37_2, hcz37_3, hcz37_4, hfz37_0, hfz37_1, hfz37_2, hfz37_3, hfz37_4⟩ := zc4_5 (w := wr) BK178.out
    go_wp2
    refine bodyPost_ret (results_ct rfl _ _ gb178 23 #[.int .i64 x183000_1, .int .i64 x183001_1, .int .i64 x183002_1, .int .i64 x183003_1, .int .i64 x183004_1] (0, 0) _ rfl (by refine zP4 ?_; refine blk_put (cs := #[.int .i64 x183000_1, .int .i64 x183001_1, .int .i64 x183002_1, .int .i64 x183003_1, .int .i64 x179004_1]) ?_ 4 _ rfl; refine zP4 ?_; refine blk_put (cs := #[.int .i64 x183000_1, .int .i64 x183001_1, .int .i64 x183002_1, .int .i64 x179003_1, .int .i64 x179004_1]) ?_ 3 _ rfl; refine zP4 ?_; refine blk_put (cs := #[.int .i64 x183000_1, .int .i64 x183001_1, .int .i64 x179002_1, .int .i64 x179003_1, .int .i64 x179004_1]) ?_ 2 _ rfl; refine zP4 ?_; refine blk_put (cs := #[.int .i64 x183000_1, .int .i64 x179001_1, .int .i64 x179002_1, .int .i64 x179003_1, .int .i64 x179004_1]) ?_ 1 _ rfl; refine zP4 ?_; refine blk_put (cs := #[.int .i64 x179000_1, .int .i64 x179001_1, .int .i64 x179002_1, .int .i64 x179003_1, .int .i64 x179004_1]) ?_ 0 _ rfl; refine zP4 ?_; exact BK178.out) Tryd.underlying23 rfl (by kernel_rfl)) rfl ?_
    exact ⟨zE4, zB4_2⟩
   rw [if_pos c10] at H
   have HX1_ := Aside0.mk c10
   have c10b0 : decide (x21_1 < (t179.length : Int)) = true := decide_eq_true c10
   clear c10
   by_cases c11 : 0 ≤ x21_1
   rotate_left
   ·rw [if_neg c11] at H
    exact absurd H (by simp)
   rw [if_pos c11] at H
   have HX0_ := Aside0.mk c11
   have c11b0 : decide (0 ≤ x21_1) = true := decide_eq_true c11
   clear c11
   by_cases c12 : x21_1 < (t179.length : Int)
   rotate_left
   ·rw [if_neg c12] at H
    exact absurd H (by simp)
   rw [if_pos c12] at H
   have HX1_ := Aside0.mk c12
   have c12b0 : decide (x21_1 < (t179.length : Int)) = true := decide_eq_true c12
   clear c12
   replace H := Option.bind_eq_some_iff.mp H
   obtain ⟨⟨t184, t185⟩, A130, H⟩ := H
   replace H : (if (rdOf ByteArray.empty t179 x21_1).toList = ([45] : List UInt8) then (impl_EventRead.j1 k1 x21_1 (-1) true t179 (t179.length : Int) x21_1 x183000_1 x183001_1 x183002_1 x183003_1 x183004_1) else (impl_EventRead.j1 k1 x21_1 t184 t185 t179 (t179.length : Int) x21_1 x183000_1 x183001_1 x183002_1 x183003_1 x183004_1)) = some (r1, r2, r3, r4, r5, r6) := H
   have A13 := Aside0.mk A130
   clear A130
   have HC14 := Aside0.mk H
   clear H
   have p183 : 0 ≤ (x21_1 : Int) := zA4
   have q183 : x21_1 < (t179.length : Int) := zA4
   obtain ⟨ad183, e183, hx183_0⟩ := Kd.at_string (Kd.R_reads' HO_19.out).2.2 x21_1 p183 q183
   cases e183
   replace p183 := eq_true p183
   replace q183 := eq_true q183
   go_upto_if 32 with (first | ((with_reducible refine gate_callee (f := 17) rfl ?_); refine goesL_ (some 28) rfl rfl Tryd.func17 (by kernel_rfl) rfl #[.string (rdOf ByteArray.empty t179 x21_1), .int .i64 5] rfl zT4 ?_; (with_reducible refine (impl_number.calls k1 (rdOf ByteArray.empty t179 x21_1) 5 t184 t185 _ A13.out).mono ?_); rintro e w' ⟨rfl, ⟨nd, rfl⟩⟩; refine ⟨_, rfl, ?_⟩))
   (try simp only [Act.put, List.setIfInBounds_toArray, List.set_cons_zero, List.set_cons_succ])
   go_cut [8, 9] (fun v8 v9 wc => ∃ (kq : Nat) (x8_13 : Int) (x9_13 : Bool), v8 = .int .i64 x8_13 ∧ v9 = .bool x9_13 ∧ Aside0 (impl_EventRead.j1 kq x21_1 x8_13 x9_13 t179 (t179.length : Int) x21_1 x183000_1 x183001_1 x183002_1 x183003_1 x183004_1 = some (r1, r2, r3, r4, r5, r6)) ∧ Aside0 (kq ≤ k1) ∧ Aside0 (Kd.R Kd.string 9 wc w.heap.size (fun _ => True) (.slice (some ad183) t179.length co6) t179) ∧ Aside0 (wc.heap[gb178]? = some (.cells #[.int .i64 x179000_1, .int .i64 x179001_1, .int .i64 x179002_1, .int .i64 x179003_1, .int .i64 x179004_1] 23 (0, 0))) ∧ Aside0 (wc.heap[gb182]? = some (.cells #[.int .i64 x183000_1, .int .i64 x183001_1, .int .i64 x183002_1, .int .i64 x183003_1, .int .i64 x183004_1] 38 (0, 0))) ∧ Aside0 (Below w.heap.size w wc))
   case first =>
    have H := HC14.out
    clear HC14
    by_cases c15 : (rdOf ByteArray.empty t179 x21_1).toList = ([45] : List UInt8)
    rotate_left
    ·rw [if_neg c15] at H
     have c15b0 : ((rdOf ByteArray.empty t179 x21_1).toList == ([45] : List UInt8)) = false := beq_eq_false_iff_ne.mpr c15
     have c15b1 : ((rdOf ByteArray.empty t179 x21_1).toList != ([45] : List UInt8)) = true := bne_iff_ne.mpr c15
     (first | rw [c15b0] | (simp only [i64_w, i32_w]; rw [c15b0]) | skip)
     have H' := Aside0.mk H
     clear H
     go_wp2
     go_meet
     case rel => exact ⟨_, (t184), (t185), (by first | rfl | (simp; done) | (simp [*]; done)), (by first | rfl | (simp; done) | (simp [*]; done)), H', ⟨by have := HK1.out; first | omega | exact Nat.le_refl _⟩, ⟨zR4 HO_19.out⟩, ⟨zK4 BK178.out⟩, ⟨zK4 BK182.out⟩, ⟨zB4_2⟩⟩
    rw [if_pos c15] at H
    have c15b0 : ((rdOf ByteArray.empty t179 x21_1).toList == ([45] : List UInt8)) = true := beq_iff_eq.mpr c15
    have c15b1 : ((rdOf ByteArray.empty t179 x21_1).toList != ([45] : List UInt8)) = false := bne_eq_false_iff_eq.mpr c15
    clear c15
    (first | rw [c15b0] | (simp only [i64_w, i32_w]; rw [c15b0]) | skip)
    have H' := Aside0.mk H
    clear H
    go_wp2
    go_meet
    case rel => exact ⟨_, ((-1)), (true), (by first | rfl | (simp; done) | (simp [*]; done)), (by first | rfl | (simp; done) | (simp [*]; done)), H', ⟨by have := HK1.out; first | omega | exact Nat.le_refl _⟩, ⟨zR4 HO_19.out⟩, ⟨zK4 BK178.out⟩, ⟨zK4 BK182.out⟩, ⟨zB4_2⟩⟩
   case rest =>
    clear HC14
    try clear c1
    try clear p1
    try clear q1
    try clear hx1
    try clear p2
    try clear c3
    try clear c3b0
    try clear c3b1
    try clear c6
    try clear c8
    try clear c10
    try clear c10b0
    try clear c11
    try clear c11b0
    try clear c12
    try clear c12b0
    try clear c15
    try clear c15b0
    try clear c15b1
    try clear hcz9_0
    try clear hcz9_1
    try clear hcz9_2
    try clear hcz9_3
    try clear hcz9_4
    try clear hfz9_0
    try clear hfz9_1
    try clear hfz9_2
    try clear hfz9_3
    try clear hfz9_4
    try clear hx183_0
    try clear p183
    try clear p2
    try clear q183
    obtain ⟨kq, x8_13, x9_13, rfl, rfl, HA, HJ13, HO_19, BK178, BK182, HB⟩ := hcut
    cases kq with
    | zero => exact absurd HA.out (by simp [impl_EventRead.j1])
    | succ kj13 =>
     have H := HA.out
     clear HA
     simp only [impl_EventRead.j1] at H
     by_cases c16 : x21_1 < 2
     ·rw [if_pos c16] at H
      have c16b0 : decide (x21_1 < 2) = true := decide_eq_true c16
      clear c16
      by_cases c17 : x9_13 = true
      rotate_left
      ·replace c17 := Bool.eq_false_iff.mpr c17
       subst c17
       have H1 : (some (0, 0, 0, 0, 0, false)) = some (r1, r2, r3, r4, r5, r6) := by rw [if_neg (show ¬ (false = true) by decide)] at H; exact H
       clear H
       have H := H1
       clear H1
       simp only [Option.some.injEq, Prod.mk.injEq] at H
       obtain ⟨rfl, rfl, rfl, rfl, rfl, rfl⟩ := H
       have hnb24 := NB178_182.out
       have hnc24 := NB182_178.out
       obtain ⟨hcz25_0, hcz25_1, hcz25_2, hcz25_3, hcz25_4, hfz25_0, hfz25_1, hfz25_2, hfz25_3, hfz25_4⟩ := zc4_5 (w := wc) BK178.out
       go_wp2
       refine bodyPost_ret (results_ct rfl _ _ gb178 23 #[.int .i64 0, .int .i64 0, .int .i64 0, .int .i64 0, .int .i64 0] (0, 0) _ rfl (by refine zP4 ?_; refine blk_put (cs := #[.int .i64 0, .int .i64 0, .int .i64 0, .int .i64 0, .int .i64 x179004_1]) ?_ 4 _ rfl; refine zP4 ?_; refine blk_put (cs := #[.int .i64 0, .int .i64 0, .int .i64 0, .int .i64 x179003_1, .int .i64 x179004_1]) ?_ 3 _ rfl; refine zP4 ?_; refine blk_put (cs := #[.int .i64 0, .int .i64 0, .int .i64 x179002_1, .int .i64 x179003_1, .int .i64 x179004_1]) ?_ 2 _ rfl; refine zP4 ?_; refine blk_put (cs := #[.int .i64 0, .int .i64 x179001_1, .int .i64 x179002_1, .int .i64 x179003_1, .int .i64 x179004_1]) ?_ 1 _ rfl; refine zP4 ?_; refine blk_put (cs := #[.int .i64 x179000_1, .int .i64 x179001_1, .int .i64 x179002_1, .int .i64 x179003_1, .int .i64 x179004_1]) ?_ 0 _ rfl; refine zP4 ?_; exact BK178.out) Tryd.underlying23 rfl (by kernel_rfl)) rfl ?_
       exact ⟨zE4, zB4_2⟩
      subst c17
      have H1 : ((impl_from.f x8_13 0 99).bind fun t186 => (if t186 = true then (impl_EventRead.l0 kj13 t179 (t179.length : Int) (wrap64 (x21_1 + 1)) (if x21_1 = 0 then x8_13 else x183000_1) (if x21_1 = 1 then x8_13 else x183001_1) (if x21_1 = 2 then x8_13 else x183002_1) (if x21_1 = 3 then x8_13 else x183003_1) (if x21_1 = 4 then x8_13 else x183004_1)) else (some (0, 0, 0, 0, 0, false)))) = some (r1, r2, r3, r4, r5, r6) := by rw [if_pos rfl] at H; exact H
      clear H
      have H := H1
      clear H1
      replace H := Option.bind_eq_some_iff.mp H
      obtain ⟨t186, A180, H⟩ := H
      replace H : (if t186 = true then (impl_EventRead.l0 kj13 t179 (t179.length : Int) (wrap64 (x21_1 + 1)) (if x21_1 = 0 then x8_13 else x183000_1) (if x21_1 = 1 then x8_13 else x183001_1) (if x21_1 = 2 then x8_13 else x183002_1) (if x21_1 = 3 then x8_13 else x183003_1) (if x21_1 = 4 then x8_13 else x183004_1)) else (some (0, 0, 0, 0, 0, false))) = some (r1, r2, r3, r4, r5, r6) := H
      have A18 := Aside0.mk A180
      clear A180
      by_cases c19 : t186 = true
      rotate_left
      ·replace c19 := Bool.eq_false_iff.mpr c19
       subst c19
       have H1 : (some (0, 0, 0, 0, 0, false)) = some (r1, r2, r3, r4, r5, r6) := by rw [if_neg (show ¬ (false = true) by decide)] at H; exact H
       clear H
       have H := H1
       clear H1
       simp only [Option.some.injEq, Prod.mk.injEq] at H
       obtain ⟨rfl, rfl, rfl, rfl, rfl, rfl⟩ := H
       go_wp2_with (first | (go_at_call 18; (with_reducible refine (impl_from.calls x8_13 0 99 false _ A18.out).mono ?_); rintro e w' ⟨rfl, ⟨nd, rfl⟩⟩; (try (rw [drewN_self wc]; generalize hq_ : World.drewN wc _ = wc; have n0_ : Aside0 (Kd.R Kd.string 9 wc w.heap.size (fun _ => True) (.slice (some ad183) t179.length co6) t179) := ⟨by rw [← hq_]; exact (zR4 HO_19.out)⟩; have n1_ : Aside0 (wc.heap[gb178]? = some (.cells #[.int .i64 x179000_1, .int .i64 x179001_1, .int .i64 x179002_1, .int .i64 x179003_1, .int .i64 x179004_1] 23 (0, 0))) := ⟨by rw [← hq_]; exact (zK4 BK178.out)⟩; have n2_ : Aside0 (wc.heap[gb182]? = some (.cells #[.int .i64 x183000_1, .int .i64 x183001_1, .int .i64 x183002_1, .int .i64 x183003_1, .int .i64 x183004_1] 38 (0, 0))) := ⟨by rw [← hq_]; exact (zK4 BK182.out)⟩; have n3_ : Aside0 (Below w.heap.size w wc) := ⟨by rw [← hq_]; exact (zB4_2)⟩; clear HO_19 BK178 BK182 HB hq_; have HO_19 := n0_; have BK178 := n1_; have BK182 := n2_; have HB := n3_; clear n0_ n1_ n2_ n3_)); have hnb22 := NB178_182.out; have hnc22 := NB182_178.out; obtain ⟨hcz23_0, hcz23_1, hcz23_2, hcz23_3, hcz23_4, hfz23_0, hfz23_1, hfz23_2, hfz23_3, hfz23_4⟩ := zc4_5 (w := wc) BK178.out))
       refine bodyPost_ret (results_ct rfl _ _ gb178 23 #[.int .i64 0, .int .i64 0, .int .i64 0, .int .i64 0, .int .i64 0] (0, 0) _ rfl (by refine zP4 ?_; refine blk_put (cs := #[.int .i64 0, .int .i64 0, .int .i64 0, .int .i64 0, .int .i64 x179004_1]) ?_ 4 _ rfl; refine zP4 ?_; refine blk_put (cs := #[.int .i64 0, .int .i64 0, .int .i64 0, .int .i64 x179003_1, .int .i64 x179004_1]) ?_ 3 _ rfl; refine zP4 ?_; refine blk_put (cs := #[.int .i64 0, .int .i64 0, .int .i64 x179002_1, .int .i64 x179003_1, .int .i64 x179004_1]) ?_ 2 _ rfl; refine zP4 ?_; refine blk_put (cs := #[.int .i64 0, .int .i64 x179001_1, .int .i64 x179002_1, .int .i64 x179003_1, .int .i64 x179004_1]) ?_ 1 _ rfl; refine zP4 ?_; refine blk_put (cs := #[.int .i64 x179000_1, .int .i64 x179001_1, .int .i64 x179002_1, .int .i64 x179003_1, .int .i64 x179004_1]) ?_ 0 _ rfl; refine zP4 ?_; exact BK178.out) Tryd.underlying23 rfl (by kernel_rfl)) rfl ?_
       exact ⟨zE4, zB4_2⟩
      subst c19
      have H1 : (impl_EventRead.l0 kj13 t179 (t179.length : Int) (wrap64 (x21_1 + 1)) (if x21_1 = 0 then x8_13 else x183000_1) (if x21_1 = 1 then x8_13 else x183001_1) (if x21_1 = 2 then x8_13 else x183002_1) (if x21_1 = 3 then x8_13 else x183003_1) (if x21_1 = 4 then x8_13 else x183004_1)) = some (r1, r2, r3, r4, r5, r6) := by rw [if_pos rfl] at H; exact H
      clear H
      have H := H1
      clear H1
      have hlo_ := HX0_.out; have hhi_ := HX1_.out; have h5_ := HT5_.out; have h2_ : x21_1 < 2 := of_decide_eq_true c16b0
      clear HX0_ HX1_
      rcases (show x21_1 = 0 ∨ x21_1 = 1 by omega) with hq_ | hq_
      ·subst hq_
       clear hlo_ hhi_ h5_ h2_
       rw [if_pos (show (0 : Int) = 0 from rfl), if_neg (show ¬ (0 : Int) = 1 by decide), if_neg (show ¬ (0 : Int) = 2 by decide), if_neg (show ¬ (0 : Int) = 3 by decide), if_neg (show ¬ (0 : Int) = 4 by decide)] at H
       have H' := Aside0.mk H
       clear H
       go_wp2_with (first | (go_at_call 18; (with_reducible refine (impl_from.calls x8_13 0 99 true _ A18.out).mono ?_); rintro e w' ⟨rfl, ⟨nd, rfl⟩⟩; (try (rw [drewN_self wc]; generalize hq_ : World.drewN wc _ = wc; have n0_ : Aside0 (Kd.R Kd.string 9 wc w.heap.size (fun _ => True) (.slice (some ad183) t179.length co6) t179) := ⟨by rw [← hq_]; exact (zR4 HO_19.out)⟩; have n1_ : Aside0 (wc.heap[gb178]? = some (.cells #[.int .i64 x179000_1, .int .i64 x179001_1, .int .i64 x179002_1, .int .i64 x179003_1, .int .i64 x179004_1] 23 (0, 0))) := ⟨by rw [← hq_]; exact (zK4 BK178.out)⟩; have n2_ : Aside0 (wc.heap[gb182]? = some (.cells #[.int .i64 x183000_1, .int .i64 x183001_1, .int .i64 x183002_1, .int .i64 x183003_1, .int .i64 x183004_1] 38 (0, 0))) := ⟨by rw [← hq_]; exact (zK4 BK182.out)⟩; have n3_ : Aside0 (Below w.heap.size w wc) := ⟨by rw [← hq_]; exact (zB4_2)⟩; clear HO_19 BK178 BK182 HB hq_; have HO_19 := n0_; have BK178 := n1_; have BK182 := n2_; have HB := n3_; clear n0_ n1_ n2_ n3_)); have hnb20 := NB182_178.out; have hnc20 := NB178_182.out; obtain ⟨hcz21_0, hcz21_1, hcz21_2, hcz21_3, hcz21_4, hfz21_0, hfz21_1, hfz21_2, hfz21_3, hfz21_4⟩ := zc4_5 (w := wc) BK182.out))
       go_roundg kj13
       case measure => have := HK1.out; have := HJ13.out; omega
       case rel => exact ⟨(wrap64 ((0 : Int) + 1)), (x179000_1), (x179001_1), (x179002_1), (x179003_1), (x179004_1), (x8_13), (x183001_1), (x183002_1), (x183003_1), (x183004_1), (by first | rfl | (simp; done) | (simp; unfold wrap64; omega) | (simp [*]; done)), H', ⟨by have := HK1.out; have := HJ13.out; omega⟩, ⟨by (with_reducible repeat (first | apply Kd.R_alloc | apply Kd.R_drewN | apply Kd.R_drew)); exact Kd.R_mono (Kd.R_far (p := ⟨gb182, 0, none⟩) (Kd.R_types HO_19.out BK182.out (by decide)) (fun _ hk => hk.2) (.int .i64 x8_13)) (fun _ hk => trivial)⟩, ⟨by refine zP4 ?_; refine blk_far ?_ NB178_182.out _; refine zP4 ?_; exact BK178.out⟩, ⟨by refine zP4 ?_; refine blk_put (cs := #[.int .i64 x183000_1, .int .i64 x183001_1, .int .i64 x183002_1, .int .i64 x183003_1, .int .i64 x183004_1]) ?_ 0 _ rfl; refine zP4 ?_; exact BK182.out⟩, ⟨zB4_2⟩⟩
      ·subst hq_
       clear hlo_ hhi_ h5_ h2_
       rw [if_neg (show ¬ (1 : Int) = 0 by decide), if_pos (show (1 : Int) = 1 from rfl), if_neg (show ¬ (1 : Int) = 2 by decide), if_neg (show ¬ (1 : Int) = 3 by decide), if_neg (show ¬ (1 : Int) = 4 by decide)] at H
       have H' := Aside0.mk H
       clear H
       go_wp2_with (first | (go_at_call 18; (with_reducible refine (impl_from.calls x8_13 0 99 true _ A18.out).mono ?_); rintro e w' ⟨rfl, ⟨nd, rfl⟩⟩; (try (rw [drewN_self wc]; generalize hq_ : World.drewN wc _ = wc; have n0_ : Aside0 (Kd.R Kd.string 9 wc w.heap.size (fun _ => True) (.slice (some ad183) t179.length co6) t179) := ⟨by rw [← hq_]; exact (zR4 HO_19.out)⟩; have n1_ : Aside0 (wc.heap[gb178]? = some (.cells #[.int .i64 x179000_1, .int .i64 x179001_1, .int .i64 x179002_1, .int .i64 x179003_1, .int .i64 x179004_1] 23 (0, 0))) := ⟨by rw [← hq_]; exact (zK4 BK178.out)⟩; have n2_ : Aside0 (wc.heap[gb182]? = some (.cells #[.int .i64 x183000_1, .int .i64 x183001_1, .int .i64 x183002_1, .int .i64 x183003_1, .int .i64 x183004_1] 38 (0, 0))) := ⟨by rw [← hq_]; exact (zK4 BK182.out)⟩; have n3_ : Aside0 (Below w.heap.size w wc) := ⟨by rw [← hq_]; exact (zB4_2)⟩; clear HO_19 BK178 BK182 HB hq_; have HO_19 := n0_; have BK178 := n1_; have BK182 := n2_; have HB := n3_; clear n0_ n1_ n2_ n3_)); have hnb20 := NB182_178.out; have hnc20 := NB178_182.out; obtain ⟨hcz21_0, hcz21_1, hcz21_2, hcz21_3, hcz21_4, hfz21_0, hfz21_1, hfz21_2, hfz21_3, hfz21_4⟩ := zc4_5 (w := wc) BK182.out))
       go_roundg kj13
       case measure => have := HK1.out; have := HJ13.out; omega
       case rel => exact ⟨(wrap64 ((1 : Int) + 1)), (x179000_1), (x179001_1), (x179002_1), (x179003_1), (x179004_1), (x183000_1), (x8_13), (x183002_1), (x183003_1), (x183004_1), (by first | rfl | (simp; done) | (simp; unfold wrap64; omega) | (simp [*]; done)), H', ⟨by have := HK1.out; have := HJ13.out; omega⟩, ⟨by (with_reducible repeat (first | apply Kd.R_alloc | apply Kd.R_drewN | apply Kd.R_drew)); exact Kd.R_mono (Kd.R_far (p := ⟨gb182, 1, none⟩) (Kd.R_types HO_19.out BK182.out (by decide)) (fun _ hk => hk.2) (.int .i64 x8_13)) (fun _ hk => trivial)⟩, ⟨by refine zP4 ?_; refine blk_far ?_ NB178_182.out _; refine zP4 ?_; exact BK178.out⟩, ⟨by refine zP4 ?_; refine blk_put (cs := #[.int .i64 x183000_1, .int .i64 x183001_1, .int .i64 x183002_1, .int .i64 x183003_1, .int .i64 x183004_1]) ?_ 1 _ rfl; refine zP4 ?_; exact BK182.out⟩, ⟨zB4_2⟩⟩
     rw [if_neg c16] at H
     have c16b0 : decide (x21_1 < 2) = false := decide_eq_false c16
     clear c16
     by_cases c26 : x9_13 = true
     rotate_left
     ·replace c26 := Bool.eq_false_iff.mpr c26
      subst c26
      have H1 : (some (0, 0, 0, 0, 0, false)) = some (r1, r2, r3, r4, r5, r6) := by rw [if_neg (show ¬ (false = true) by decide)] at H; exact H
      clear H
      have H := H1
      clear H1
      simp only [Option.some.injEq, Prod.mk.injEq] at H
      obtain ⟨rfl, rfl, rfl, rfl, rfl, rfl⟩ := H
      have hnb33 := NB178_182.out
      have hnc33 := NB182_178.out
      obtain ⟨hcz34_0, hcz34_1, hcz34_2, hcz34_3, hcz34_4, hfz34_0, hfz34_1, hfz34_2, hfz34_3, hfz34_4⟩ := zc4_5 (w := wc) BK178.out
      go_wp2
      refine bodyPost_ret (results_ct rfl _ _ gb178 23 #[.int .i64 0, .int .i64 0, .int .i64 0, .int .i64 0, .int .i64 0] (0, 0) _ rfl (by refine zP4 ?_; refine blk_put (cs := #[.int .i64 0, .int .i64 0, .int .i64 0, .int .i64 0, .int .i64 x179004_1]) ?_ 4 _ rfl; refine zP4 ?_; refine blk_put (cs := #[.int .i64 0, .int .i64 0, .int .i64 0, .int .i64 x179003_1, .int .i64 x179004_1]) ?_ 3 _ rfl; refine zP4 ?_; refine blk_put (cs := #[.int .i64 0, .int .i64 0, .int .i64 x179002_1, .int .i64 x179003_1, .int .i64 x179004_1]) ?_ 2 _ rfl; refine zP4 ?_; refine blk_put (cs := #[.int .i64 0, .int .i64 x179001_1, .int .i64 x179002_1, .int .i64 x179003_1, .int .i64 x179004_1]) ?_ 1 _ rfl; refine zP4 ?_; refine blk_put (cs := #[.int .i64 x179000_1, .int .i64 x179001_1, .int .i64 x179002_1, .int .i64 x179003_1, .int .i64 x179004_1]) ?_ 0 _ rfl; refine zP4 ?_; exact BK178.out) Tryd.underlying23 rfl (by kernel_rfl)) rfl ?_
      exact ⟨zE4, zB4_2⟩
     subst c26
     have H1 : ((impl_from.f x8_13 (-1) 65535).bind fun t187 => (if t187 = true then (impl_EventRead.l0 kj13 t179 (t179.length : Int) (wrap64 (x21_1 + 1)) (if x21_1 = 0 then x8_13 else x183000_1) (if x21_1 = 1 then x8_13 else x183001_1) (if x21_1 = 2 then x8_13 else x183002_1) (if x21_1 = 3 then x8_13 else x183003_1) (if x21_1 = 4 then x8_13 else x183004_1)) else (some (0, 0, 0, 0, 0, false)))) = some (r1, r2, r3, r4, r5, r6) := by rw [if_pos rfl] at H; exact H
     clear H
     have H := H1
     clear H1
     replace H := Option.bind_eq_some_iff.mp H
     obtain ⟨t187, A270, H⟩ := H
     replace H : (if t187 = true then (impl_EventRead.l0 kj13 t179 (t179.length : Int) (wrap64 (x21_1 + 1)) (if x21_1 = 0 then x8_13 else x183000_1) (if x21_1 = 1 then x8_13 else x183001_1) (if x21_1 = 2 then x8_13 else x183002_1) (if x21_1 = 3 then x8_13 else x183003_1) (if x21_1 = 4 then x8_13 else x183004_1)) else (some (0, 0, 0, 0, 0, false))) = some (r1, r2, r3, r4, r5, r6) := H
     have A27 := Aside0.mk A270
     clear A270
     by_cases c28 : t187 = true
     rotate_left
     ·replace c28 := Bool.eq_false_iff.mpr c28
      subst c28
      have H1 : (some (0, 0, 0, 0, 0, false)) = some (r1, r2, r3, r4, r5, r6) := by rw [if_neg (show ¬ (false = true) by decide)] at H; exact H
      clear H
      have H := H1
      clear H1
      simp only [Option.some.injEq, Prod.mk.injEq] at H
      obtain ⟨rfl, rfl, rfl, rfl, rfl, rfl⟩ := H
      go_wp2_with (first | (go_at_call 18; (with_reducible refine (impl_from.calls x8_13 (-1) 65535 false _ A27.out).mono ?_); rintro e w' ⟨rfl, ⟨nd, rfl⟩⟩; (try (rw [drewN_self wc]; generalize hq_ : World.drewN wc _ = wc; have n0_ : Aside0 (Kd.R Kd.string 9 wc w.heap.size (fun _ => True) (.slice (some ad183) t179.length co6) t179) := ⟨by rw [← hq_]; exact (zR4 HO_19.out)⟩; have n1_ : Aside0 (wc.heap[gb178]? = some (.cells #[.int .i64 x179000_1, .int .i64 x179001_1, .int .i64 x179002_1, .int .i64 x179003_1, .int .i64 x179004_1] 23 (0, 0))) := ⟨by rw [← hq_]; exact (zK4 BK178.out)⟩; have n2_ : Aside0 (wc.heap[gb182]? = some (.cells #[.int .i64 x183000_1, .int .i64 x183001_1, .int .i64 x183002_1, .int .i64 x183003_1, .int .i64 x183004_1] 38 (0, 0))) := ⟨by rw [← hq_]; exact (zK4 BK182.out)⟩; have n3_ : Aside0 (Below w.heap.size w wc) := ⟨by rw [← hq_]; exact (zB4_2)⟩; clear HO_19 BK178 BK182 HB hq_; have HO_19 := n0_; have BK178 := n1_; have BK182 := n2_; have HB := n3_; clear n0_ n1_ n2_ n3_)); have hnb31 := NB178_182.out; have hnc31 := NB182_178.out; obtain ⟨hcz32_0, hcz32_1, hcz32_2, hcz32_3, hcz32_4, hfz32_0, hfz32_1, hfz32_2, hfz32_3, hfz32_4⟩ := zc4_5 (w := wc) BK178.out))
      refine bodyPost_ret (results_ct rfl _ _ gb178 23 #[.int .i64 0, .int .i64 0, .int .i64 0, .int .i64 0, .int .i64 0] (0, 0) _ rfl (by refine zP4 ?_; refine blk_put (cs := #[.int .i64 0, .int .i64 0, .int .i64 0, .int .i64 0, .int .i64 x179004_1]) ?_ 4 _ rfl; refine zP4 ?_; refine blk_put (cs := #[.int .i64 0, .int .i64 0, .int .i64 0, .int .i64 x179003_1, .int .i64 x179004_1]) ?_ 3 _ rfl; refine zP4 ?_; refine blk_put (cs := #[.int .i64 0, .int .i64 0, .int .i64 x179002_1, .int .i64 x179003_1, .int .i64 x179004_1]) ?_ 2 _ rfl; refine zP4 ?_; refine blk_put (cs := #[.int .i64 0, .int .i64 x179001_1, .int .i64 x179002_1, .int .i64 x179003_1, .int .i64 x179004_1]) ?_ 1 _ rfl; refine zP4 ?_; refine blk_put (cs := #[.int .i64 x179000_1, .int .i64 x179001_1, .int .i64 x179002_1, .int .i64 x179003_1, .int .i64 x179004_1]) ?_ 0 _ rfl; refine zP4 ?_; exact BK178.out) Tryd.underlying23 rfl (by kernel_rfl)) rfl ?_
      exact ⟨zE4, zB4_2⟩
     subst c28
     have H1 : (impl_EventRead.l0 kj13 t179 (t179.length : Int) (wrap64 (x21_1 + 1)) (if x21_1 = 0 then x8_13 else x183000_1) (if x21_1 = 1 then x8_13 else x183001_1) (if x21_1 = 2 then x8_13 else x183002_1) (if x21_1 = 3 then x8_13 else x183003_1) (if x21_1 = 4 then x8_13 else x183004_1)) = some (r1, r2, r3, r4, r5, r6) := by rw [if_pos rfl] at H; exact H
     clear H
     have H := H1
     clear H1
     have hlo_ := HX0_.out; have hhi_ := HX1_.out; have h5_ := HT5_.out; have h2_ : ¬ x21_1 < 2 := of_decide_eq_false c16b0
     clear HX0_ HX1_
     rcases (show x21_1 = 2 ∨ x21_1 = 3 ∨ x21_1 = 4 by omega) with hq_ | hq_ | hq_
     ·subst hq_
      clear hlo_ hhi_ h5_ h2_
      rw [if_neg (show ¬ (2 : Int) = 0 by decide), if_neg (show ¬ (2 : Int) = 1 by decide), if_pos (show (2 : Int) = 2 from rfl), if_neg (show ¬ (2 : Int) = 3 by decide), if_neg (show ¬ (2 : Int) = 4 by decide)] at H
      have H' := Aside0.mk H
      clear H
      go_wp2_with (first | (go_at_call 18; (with_reducible refine (impl_from.calls x8_13 (-1) 65535 true _ A27.out).mono ?_); rintro e w' ⟨rfl, ⟨nd, rfl⟩⟩; (try (rw [drewN_self wc]; generalize hq_ : World.drewN wc _ = wc; have n0_ : Aside0 (Kd.R Kd.string 9 wc w.heap.size (fun _ => True) (.slice (some ad183) t179.length co6) t179) := ⟨by rw [← hq_]; exact (zR4 HO_19.out)⟩; have n1_ : Aside0 (wc.heap[gb178]? = some (.cells #[.int .i64 x179000_1, .int .i64 x179001_1, .int .i64 x179002_1, .int .i64 x179003_1, .int .i64 x179004_1] 23 (0, 0))) := ⟨by rw [← hq_]; exact (zK4 BK178.out)⟩; have n2_ : Aside0 (wc.heap[gb182]? = some (.cells #[.int .i64 x183000_1, .int .i64 x183001_1, .int .i64 x183002_1, .int .i64 x183003_1, .int .i64 x183004_1] 38 (0, 0))) := ⟨by rw [← hq_]; exact (zK4 BK182.out)⟩; have n3_ : Aside0 (Below w.heap.size w wc) := ⟨by rw [← hq_]; exact (zB4_2)⟩; clear HO_19 BK178 BK182 HB hq_; have HO_19 := n0_; have BK178 := n1_; have BK182 := n2_; have HB := n3_; clear n0_ n1_ n2_ n3_)); have hnb29 := NB182_178.out; have hnc29 := NB178_182.out; obtain ⟨hcz30_0, hcz30_1, hcz30_2, hcz30_3, hcz30_4, hfz30_0, hfz30_1, hfz30_2, hfz30_3, hfz30_4⟩ := zc4_5 (w := wc) BK182.out))
      go_roundg kj13
      case measure => have := HK1.out; have := HJ13.out; omega
      case rel => exact ⟨(wrap64 ((2 : Int) + 1)), (x179000_1), (x179001_1), (x179002_1), (x179003_1), (x179004_1), (x183000_1), (x183001_1), (x8_13), (x183003_1), (x183004_1), (by first | rfl | (simp; done) | (simp; unfold wrap64; omega) | (simp [*]; done)), H', ⟨by have := HK1.out; have := HJ13.out; omega⟩, ⟨by (with_reducible repeat (first | apply Kd.R_alloc | apply Kd.R_drewN | apply Kd.R_drew)); exact Kd.R_mono (Kd.R_far (p := ⟨gb182, 2, none⟩) (Kd.R_types HO_19.out BK182.out (by decide)) (fun _ hk => hk.2) (.int .i64 x8_13)) (fun _ hk => trivial)⟩, ⟨by refine zP4 ?_; refine blk_far ?_ NB178_182.out _; refine zP4 ?_; exact BK178.out⟩, ⟨by refine zP4 ?_; refine blk_put (cs := #[.int .i64 x183000_1, .int .i64 x183001_1, .int .i64 x183002_1, .int .i64 x183003_1, .int .i64 x183004_1]) ?_ 2 _ rfl; refine zP4 ?_; exact BK182.out⟩, ⟨zB4_2⟩⟩
     ·subst hq_
      clear hlo_ hhi_ h5_ h2_
      rw [if_neg (show ¬ (3 : Int) = 0 by decide), if_neg (show ¬ (3 : Int) = 1 by decide), if_neg (show ¬ (3 : Int) = 2 by decide), if_pos (show (3 : Int) = 3 from rfl), if_neg (show ¬ (3 : Int) = 4 by decide)] at H
      have H' := Aside0.mk H
      clear H
      go_wp2_with (first | (go_at_call 18; (with_reducible refine (impl_from.calls x8_13 (-1) 65535 true _ A27.out).mono ?_); rintro e w' ⟨rfl, ⟨nd, rfl⟩⟩; (try (rw [drewN_self wc]; generalize hq_ : World.drewN wc _ = wc; have n0_ : Aside0 (Kd.R Kd.string 9 wc w.heap.size (fun _ => True) (.slice (some ad183) t179.length co6) t179) := ⟨by rw [← hq_]; exact (zR4 HO_19.out)⟩; have n1_ : Aside0 (wc.heap[gb178]? = some (.cells #[.int .i64 x179000_1, .int .i64 x179001_1, .int .i64 x179002_1, .int .i64 x179003_1, .int .i64 x179004_1] 23 (0, 0))) := ⟨by rw [← hq_]; exact (zK4 BK178.out)⟩; have n2_ : Aside0 (wc.heap[gb182]? = some (.cells #[.int .i64 x183000_1, .int .i64 x183001_1, .int .i64 x183002_1, .int .i64 x183003_1, .int .i64 x183004_1] 38 (0, 0))) := ⟨by rw [← hq_]; exact (zK4 BK182.out)⟩; have n3_ : Aside0 (Below w.heap.size w wc) := ⟨by rw [← hq_]; exact (zB4_2)⟩; clear HO_19 BK178 BK182 HB hq_; have HO_19 := n0_; have BK178 := n1_; have BK182 := n2_; have HB := n3_; clear n0_ n1_ n2_ n3_)); have hnb29 := NB182_178.out; have hnc29 := NB178_182.out; obtain ⟨hcz30_0, hcz30_1, hcz30_2, hcz30_3, hcz30_4, hfz30_0, hfz30_1, hfz30_2, hfz30_3, hfz30_4⟩ := zc4_5 (w := wc) BK182.out))
      go_roundg kj13
      case measure => have := HK1.out; have := HJ13.out; omega
      case rel => exact ⟨(wrap64 ((3 : Int) + 1)), (x179000_1), (x179001_1), (x179002_1), (x179003_1), (x179004_1), (x183000_1), (x183001_1), (x183002_1), (x8_13), (x183004_1), (by first | rfl | (simp; done) | (simp; unfold wrap64; omega) | (simp [*]; done)), H', ⟨by have := HK1.out; have := HJ13.out; omega⟩, ⟨by (with_reducible repeat (first | apply Kd.R_alloc | apply Kd.R_drewN | apply Kd.R_drew)); exact Kd.R_mono (Kd.R_far (p := ⟨gb182, 3, none⟩) (Kd.R_types HO_19.out BK182.out (by decide)) (fun _ hk => hk.2) (.int .i64 x8_13)) (fun _ hk => trivial)⟩, ⟨by refine zP4 ?_; refine blk_far ?_ NB178_182.out _; refine zP4 ?_; exact BK178.out⟩, ⟨by refine zP4 ?_; refine blk_put (cs := #[.int .i64 x183000_1, .int .i64 x183001_1, .int .i64 x183002_1, .int .i64 x183003_1, .int .i64 x183004_1]) ?_ 3 _ rfl; refine zP4 ?_; exact BK182.out⟩, ⟨zB4_2⟩⟩
     ·subst hq_
      clear hlo_ hhi_ h5_ h2_
      rw [if_neg (show ¬ (4 : Int) = 0 by decide), if_neg (show ¬ (4 : Int) = 1 by decide), if_neg (show ¬ (4 : Int) = 2 by decide), if_neg (show ¬ (4 : Int) = 3 by decide), if_pos (show (4 : Int) = 4 from rfl)] at H
      have H' := Aside0.mk H
      clear H
      go_wp2_with (first | (go_at_call 18; (with_reducible refine (impl_from.calls x8_13 (-1) 65535 true _ A27.out).mono ?_); rintro e w' ⟨rfl, ⟨nd, rfl⟩⟩; (try (rw [drewN_self wc]; generalize hq_ : World.drewN wc _ = wc; have n0_ : Aside0 (Kd.R Kd.string 9 wc w.heap.size (fun _ => True) (.slice (some ad183) t179.length co6) t179) := ⟨by rw [← hq_]; exact (zR4 HO_19.out)⟩; have n1_ : Aside0 (wc.heap[gb178]? = some (.cells #[.int .i64 x179000_1, .int .i64 x179001_1, .int .i64 x179002_1, .int .i64 x179003_1, .int .i64 x179004_1] 23 (0, 0))) := ⟨by rw [← hq_]; exact (zK4 BK178.out)⟩; have n2_ : Aside0 (wc.heap[gb182]? = some (.cells #[.int .i64 x183000_1, .int .i64 x183001_1, .int .i64 x183002_1, .int .i64 x183003_1, .int .i64 x183004_1] 38 (0, 0))) := ⟨by rw [← hq_]; exact (zK4 BK182.out)⟩; have n3_ : Aside0 (Below w.heap.size w wc) := ⟨by rw [← hq_]; exact (zB4_2)⟩; clear HO_19 BK178 BK182 HB hq_; have HO_19 := n0_; have BK178 := n1_; have BK182 := n2_; have HB := n3_; clear n0_ n1_ n2_ n3_)); have hnb29 := NB182_178.out; have hnc29 := NB178_182.out; obtain ⟨hcz30_0, hcz30_1, hcz30_2, hcz30_3, hcz30_4, hfz30_0, hfz30_1, hfz30_2, hfz30_3, hfz30_4⟩ := zc4_5 (w := wc) BK182.out))
      go_roundg kj13
      case measure => have := HK1.out; have := HJ13.out; omega
      case rel => exact ⟨(wrap64 ((4 : Int) + 1)), (x179000_1), (x179001_1), (x179002_1), (x179003_1), (x179004_1), (x183000_1), (x183001_1), (x183002_1), (x183003_1), (x8_13), (by first | rfl | (simp; done) | (simp; unfold wrap64; omega) | (simp [*]; done)), H', ⟨by have := HK1.out; have := HJ13.out; omega⟩, ⟨by (with_reducible repeat (first | apply Kd.R_alloc | apply Kd.R_drewN | apply Kd.R_drew)); exact Kd.R_mono (Kd.R_far (p := ⟨gb182, 4, none⟩) (Kd.R_types HO_19.out BK182.out (by decide)) (fun _ hk => hk.2) (.int .i64 x8_13)) (fun _ hk => trivial)⟩, ⟨by refine zP4 ?_; refine blk_far ?_ NB178_182.out _; refine zP4 ?_; exact BK178.out⟩, ⟨by refine zP4 ?_; refine blk_put (cs := #[.int .i64 x183000_1, .int .i64 x183001_1, .int .i64 x183002_1, .int .i64 x183003_1, .int .i64 x183004_1]) ?_ 4 _ rfl; refine zP4 ?_; exact BK182.out⟩, ⟨zB4_2⟩⟩

/-! ### stringslite_Cut: function 23 -/
def stringslite_Cut.f (a0 : ByteArray) (a1 : ByteArray) : Option (ByteArray × ByteArray × Bool) := (stringslite_Index.f a0 a1).bind fun t188 => (if t188 ≥ 0 then (if 0 ≤ t188 then (if t188 ≤ (a0.size : Int) then (if 0 ≤ (wrap64 (t188 + (a1.size : Int))) then (if (wrap64 (t188 + (a1.size : Int))) ≤ (a0.size : Int) then (some (a0.extract 0 (t188 : Int).toNat, a0.extract ((wrap64 (t188 + (a1.size : Int))) : Int).toNat a0.size, true)) else (none)) else (none)) else (none)) else (none)) else (some (a0, (⟨#[]⟩ : ByteArray), false)))
set_option maxHeartbeats 8000000 in
set_option maxRecDepth 100000 in
theorem stringslite_Cut.calls (a0 : ByteArray) (a1 : ByteArray) (r1 : ByteArray) (r2 : ByteArray) (r3 : Bool) (w : World) (h : stringslite_Cut.f a0 a1 = some (r1, r2, r3)) :
  Calls Tryd.prog 23 #[.string a0, .string a1] w fun e w' => e = .returned (.tuple #[.string r1, .string r2, .bool r3]) ∧ Drawn0 w w' := by
 have H : ((stringslite_Index.f a0 a1).bind fun t188 => (if t188 ≥ 0 then (if 0 ≤ t188 then (if t188 ≤ (a0.size : Int) then (if 0 ≤ (wrap64 (t188 + (a1.size : Int))) then (if (wrap64 (t188 + (a1.size : Int))) ≤ (a0.size : Int) then (some (a0.extract 0 (t188 : Int).toNat, a0.extract ((wrap64 (t188 + (a1.size : Int))) : Int).toNat a0.size, true)) else (none)) else (none)) else (none)) else (none)) else (some (a0, (⟨#[]⟩ : ByteArray), false)))) = some (r1, r2, r3) := h
 clear h
 replace H := Option.bind_eq_some_iff.mp H
 obtain ⟨t188, A30, H⟩ := H
 replace H : (if t188 ≥ 0 then (if 0 ≤ t188 then (if t188 ≤ (a0.size : Int) then (if 0 ≤ (wrap64 (t188 + (a1.size : Int))) then (if (wrap64 (t188 + (a1.size : Int))) ≤ (a0.size : Int) then (some (a0.extract 0 (t188 : Int).toNat, a0.extract ((wrap64 (t188 + (a1.size : Int))) : Int).toNat a0.size, true)) else (none)) else (none)) else (none)) else (none)) else (some (a0, (⟨#[]⟩ : ByteArray), false))) = some (r1, r2, r3) := H
 have A3 := Aside0.mk A30
 clear A30
 by_cases c4 : t188 ≥ 0
 rotate_left
 ·rw [if_neg c4] at H
  have c4b0 : decide (0 ≤ t188) = false := decide_eq_false c4
  clear c4
  simp only [Option.some.injEq, Prod.mk.injEq] at H
  obtain ⟨rfl, rfl, rfl⟩ := H
  go_enter Tryd.func23, Tryd.ntmps23
  go_wp2_with (first | (go_at_call 27; (with_reducible refine (stringslite_Index.calls a0 a1 t188 _ A3.out).mono ?_); rintro e w' ⟨rfl, ⟨nd, rfl⟩⟩; (try first | exact ⟨rfl, _, World.drewN_drewN _ _ _⟩ | exact ⟨rfl, _, Eq.trans (World.drewN_drewN _ _ _) (congrArg (World.drewN _) (Nat.add_assoc _ _ _))⟩)))
  repeat (go_quiet (first | (go_at_call 27; (with_reducible refine (stringslite_Index.calls a0 a1 t188 _ A3.out).mono ?_); rintro e w' ⟨rfl, ⟨nd, rfl⟩⟩; (try first | exact ⟨rfl, _, World.drewN_drewN _ _ _⟩ | exact ⟨rfl, _, Eq.trans (World.drewN_drewN _ _ _) (congrArg (World.drewN _) (Nat.add_assoc _ _ _))⟩))); try go_wp2_with (first | (go_at_call 27; (with_reducible refine (stringslite_Index.calls a0 a1 t188 _ A3.out).mono ?_); rintro e w' ⟨rfl, ⟨nd, rfl⟩⟩; (try first | exact ⟨rfl, _, World.drewN_drewN _ _ _⟩ | exact ⟨rfl, _, Eq.trans (World.drewN_drewN _ _ _) (congrArg (World.drewN _) (Nat.add_assoc _ _ _))⟩))))
  go_ret3
  exact ⟨by first | rfl | (simp; done) | (simp [*]; done), by repeat (first | exact Drawn0.refl _ | apply Drawn0.step)⟩
 rw [if_pos c4] at H
 have c4b0 : decide (0 ≤ t188) = true := decide_eq_true c4
 clear c4
 by_cases c5 : 0 ≤ t188
 rotate_left
 ·rw [if_neg c5] at H
  exact absurd H (by simp)
 rw [if_pos c5] at H
 have c5b0 := eq_true c5
 have c5b1 : decide (0 ≤ t188) = true := decide_eq_true c5
 clear c5
 by_cases c6 : t188 ≤ (a0.size : Int)
 rotate_left
 ·rw [if_neg c6] at H
  exact absurd H (by simp)
 rw [if_pos c6] at H
 have c6b0 := eq_true c6
 have c6b1 : decide (t188 ≤ (a0.size : Int)) = true := decide_eq_true c6
 clear c6
 obtain ⟨ji7, hji7⟩ : ∃ j_ : Int, (wrap64 (t188 + (a1.size : Int))) = j_ := ⟨_, rfl⟩
 replace H : (if 0 ≤ (ji7) then (if (ji7) ≤ (a0.size : Int) then (some (a0.extract 0 (t188 : Int).toNat, a0.extract ((ji7) : Int).toNat a0.size, true)) else (none)) else (none)) = some (r1, r2, r3) := by first | (rw [hji7] at H; exact H) | (simp only [hji7] at H ⊢; exact H)
 (try rw [hji7] at A3)
 have hji7w : (IntKind.i64.wrap (t188 + (a1.size : Int))) = ji7 := (i64_w _).trans hji7
 by_cases c8 : 0 ≤ (ji7)
 rotate_left
 ·rw [if_neg c8] at H
  exact absurd H (by simp)
 rw [if_pos c8] at H
 have c8b0 := eq_true c8
 have c8b1 : decide (0 ≤ (ji7)) = true := decide_eq_true c8
 clear c8
 by_cases c9 : (ji7) ≤ (a0.size : Int)
 rotate_left
 ·rw [if_neg c9] at H
  exact absurd H (by simp)
 rw [if_pos c9] at H
 have c9b0 := eq_true c9
 have c9b1 : decide ((ji7) ≤ (a0.size : Int)) = true := decide_eq_true c9
 clear c9
 simp only [Option.some.injEq, Prod.mk.injEq] at H
 obtain ⟨rfl, rfl, rfl⟩ := H
 go_enter Tryd.func23, Tryd.ntmps23
 go_wp2_with (first | (go_at_call 27; (with_reducible refine (stringslite_Index.calls a0 a1 t188 _ A3.out).mono ?_); rintro e w' ⟨rfl, ⟨nd, rfl⟩⟩; (try first | exact ⟨rfl, _, World.drewN_drewN _ _ _⟩ | exact ⟨rfl, _, Eq.trans (World.drewN_drewN _ _ _) (congrArg (World.drewN _) (Nat.add_assoc _ _ _))⟩)))
 repeat (go_quiet (first | (go_at_call 27; (with_reducible refine (stringslite_Index.calls a0 a1 t188 _ A3.out).mono ?_); rintro e w' ⟨rfl, ⟨nd, rfl⟩⟩; (try first | exact ⟨rfl, _, World.drewN_drewN _ _ _⟩ | exact ⟨rfl, _, Eq.trans (World.drewN_drewN _ _ _) (congrArg (World.drewN _) (Nat.add_assoc _ _ _))⟩))); try go_wp2_with (first | (go_at_call 27; (with_reducible refine (stringslite_Index.calls a0 a1 t188 _ A3.out).mono ?_); rintro e w' ⟨rfl, ⟨nd, rfl⟩⟩; (try first | exact ⟨rfl, _, World.drewN_drewN _ _ _⟩ | exact ⟨rfl, _, Eq.trans (World.drewN_drewN _ _ _) (congrArg (World.drewN _) (Nat.add_assoc _ _ _))⟩))))
 go_ret3
 exact ⟨by first | rfl | (simp; done) | (simp only [← hji7] <;> (first | rfl | simp)) | (simp [*]; done), by repeat (first | exact Drawn0.refl _ | apply Drawn0.step)⟩

end Go.Proofs.YthmkclelkijhoaaDoor.PFnExactTraceRead
