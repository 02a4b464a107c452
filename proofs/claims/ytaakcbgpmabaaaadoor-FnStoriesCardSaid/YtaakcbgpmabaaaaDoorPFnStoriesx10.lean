-- made by wip/tools/myprint.py out of the seat's translation
import Derived.Test.YtaakcbgpmabaaaaDoorPFnStoriesx0
import Derived.Test.YtaakcbgpmabaaaaDoorPFnStoriesx9
namespace Go.Proofs.YtaakcbgpmabaaaaDoor.PFnStories
open Go.RowKit Go.Proofs.YtaakcbgpmabaaaaDoorW.PrintWords Go.Proofs.YtaakcbgpmabaaaaDoorW.PrintLast Go.Proofs.YtaakcbgpmabaaaaDoorW.PrintMore
attribute [local go_sem] max2_int min2_int max_two min_two max_three min_three max_four min_four   -- for this text's walks alone
set_option linter.unusedVariables false
set_option linter.unusedSimpArgs false
set_option maxHeartbeats 8000000
set_option maxRecDepth 100000

/-! ### impl_digits: function 40 -/
mutual
def impl_digits.j0 : Nat → Int → Bool → Option (ByteArray)
 | 0, _, _ => none
 | k + 1, x0, x3 => if x3 = true then ((impl_digits.f k (wrap64 (-x0))).bind fun t533 => (if 1 + t533.size ≤ 9223372036854775807 then (some ((⟨#[45]⟩ : ByteArray) ++ t533)) else (none))) else (if x0 < 0 then ((impl_digits.f k (wrap64 (Int.tdiv x0 10))).bind fun t534 => ((impl_digits.f k (wrap64 (-(Int.tmod x0 10)))).bind fun t535 => (if t534.size + t535.size ≤ 9223372036854775807 then (some (t534 ++ t535)) else (none)))) else (if x0 < 10 then (some (Go.Utf8.encode (wrap32 (wrap64 (48 + x0))))) else ((impl_digits.f k (wrap64 (Int.tdiv x0 10))).bind fun t536 => (if t536.size + (Go.Utf8.encode (wrap32 (wrap64 (48 + (Int.tmod x0 10))))).size ≤ 9223372036854775807 then (some (t536 ++ (Go.Utf8.encode (wrap32 (wrap64 (48 + (Int.tmod x0 10))))))) else (none)))))
def impl_digits.f : Nat → Int → Option (ByteArray)
 | 0, _ => none
 | k + 1, a0 => if a0 < 0 then (impl_digits.j0 k a0 (decide (a0 > (-10)))) else (impl_digits.j0 k a0 false)
end
theorem impl_digits.mono_l : ∀ k, (∀ y0, LeO (impl_digits.f k y0) (impl_digits.f (k + 1) y0)) ∧ (∀ y0 y1, LeO (impl_digits.j0 k y0 y1) (impl_digits.j0 (k + 1) y0 y1))
 | 0 => ⟨fun _ r h => by simp [impl_digits.f] at h, fun _ _ r h => by simp [impl_digits.j0] at h⟩
 | k + 1 => by
  obtain ⟨ih0, ih1⟩ := impl_digits.mono_l k
  refine ⟨?_, ?_⟩
  ·intros
   unfold impl_digits.f
   exact zL
  ·intros
   unfold impl_digits.j0
   exact zL
theorem impl_digits.mono : ∀ a0 k, LeO (impl_digits.f k a0) (impl_digits.f (k + 1) a0) := by
 intro a0 k
 obtain ⟨ih0, ih1⟩ := impl_digits.mono_l k
 exact ih0 a0
theorem impl_digits.calls (k : Nat) : ∀ (a0 : Int) (r : ByteArray) (w : World) (h : impl_digits.f k a0 = some r),
  Calls Tryd.prog 40 #[.int .i64 a0] w fun e w' => e = .returned (.string r) ∧ Drawn0 w w' := by
 induction k using Nat.strongRecOn with
 | _ k ih =>
 intro a0 r w h
 cases k with
 | zero => exact absurd h (by simp [impl_digits.f])
 | succ k =>
 simp only [impl_digits.f] at h
 have H : (if a0 < 0 then (impl_digits.j0 k a0 (decide (a0 > (-10)))) else (impl_digits.j0 k a0 false)) = some r := h
 clear h
 have HC2 := zM H
 clear H
 go_enter Tryd.func40, Tryd.ntmps40
 go_upto_region 1 with (fail)
 go_cut [3] (fun v3 wc => ∃ (kq : Nat) (x3_1 : Bool), v3 = .bool x3_1 ∧ Aside0 (impl_digits.j0 kq a0 x3_1 = some r) ∧ Aside0 (kq ≤ k) ∧ Drawn0 w wc)
 case first =>
  have H := HC2.1
  clear HC2
  by_cases c3 : a0 < 0
  rotate_left
  ·rw [if_neg c3] at H
   have c3b0 := decide_eq_false c3
   clear c3
   (first | rw [c3b0] | (simp only [i64_w, i32_w]; rw [c3b0]) | skip)
   have H' := zM H
   clear H
   go_wp2
   go_meet
   case rel => exact ⟨_, (false), zJJ, H', ⟨by first | omega | exact Nat.le_refl _⟩, zDD⟩
  rw [if_pos c3] at H
  have c3b0 := decide_eq_true c3
  clear c3
  (first | rw [c3b0] | (simp only [i64_w, i32_w]; rw [c3b0]) | skip)
  have H' := zM H
  clear H
  go_wp2
  go_meet
  case rel => exact ⟨_, (decide (a0 > (-10))), zJJ, H', ⟨by first | omega | exact Nat.le_refl _⟩, zDD⟩
 case rest =>
  clear HC2
  obtain ⟨kq, x3_1, rfl, HA, HJ1, ⟨mc1, rfl⟩⟩ := hcut
  cases kq with
  | zero => exact absurd HA.1 (by simp [impl_digits.j0])
  | succ kj1 =>
   have H := HA.1
   clear HA
   simp only [impl_digits.j0] at H
   by_cases c4 : x3_1 = true
   ·subst c4
    rw [if_pos rfl] at H
    replace H := zO H
    obtain ⟨t533, A5, H⟩ := H
    replace H := zIp H
    obtain ⟨c6, H⟩ := H
    have c6b0 := eq_true c6
    have c6b1 : decide (1 + t533.size ≤ 9223372036854775807) = true := decide_eq_true c6
    try have c6b2 : (9223372036854775807 < 1 + t533.size) = False := eq_false (Nat.not_lt.2 c6)
    obtain rfl := Option.some.inj H
    go_wp2_with (first | ((with_reducible refine gate_callee (f := 40) rfl ?_); refine goesL_ (some 12) rfl rfl Tryd.func40 (by kernel_rfl) rfl #[.int .i64 (wrap64 (-a0))] rfl zT ?_; (with_reducible refine (ih kj1 (by have := HJ1.1; omega) (wrap64 (-a0)) t533 _ A5.1).mono ?_); rintro e w' ⟨rfl, ⟨nd, rfl⟩⟩; refine ⟨_, rfl, ?_⟩))
    go_ret
    exact ⟨zJJ, zDD⟩
   replace c4 := Bool.eq_false_iff.mpr c4
   subst c4
   rw [if_neg zF] at H
   by_cases c7 : a0 < 0
   ·rw [if_pos c7] at H
    have c7b0 := decide_eq_true c7
    clear c7
    replace H := zO H
    obtain ⟨t534, A8, H⟩ := H
    replace H := zO H
    obtain ⟨t535, A9, H⟩ := H
    replace H := zIp H
    obtain ⟨c10, H⟩ := H
    have c10b0 := eq_true c10
    have c10b1 : decide (t534.size + t535.size ≤ 9223372036854775807) = true := decide_eq_true c10
    try have c10b2 : (9223372036854775807 < t534.size + t535.size) = False := eq_false (Nat.not_lt.2 c10)
    obtain rfl := Option.some.inj H
    go_wp2_with (first | ((with_reducible refine gate_callee (f := 40) rfl ?_); refine goesL_ (some 19) rfl rfl Tryd.func40 (by kernel_rfl) rfl #[.int .i64 (wrap64 (Int.tdiv a0 10))] rfl zT ?_; (with_reducible refine (ih kj1 (by have := HJ1.1; omega) (wrap64 (Int.tdiv a0 10)) t534 _ A8.1).mono ?_); rintro e w' ⟨rfl, ⟨nd, rfl⟩⟩; refine ⟨_, rfl, ?_⟩) | ((with_reducible refine gate_callee (f := 40) rfl ?_); refine goesL_ (some 23) rfl rfl Tryd.func40 (by kernel_rfl) rfl #[.int .i64 (wrap64 (-(Int.tmod a0 10)))] rfl zT ?_; (with_reducible refine (ih kj1 (by have := HJ1.1; omega) (wrap64 (-(Int.tmod a0 10))) t535 _ A9.1).mono ?_); rintro e w' ⟨rfl, ⟨nd, rfl⟩⟩; refine ⟨_, rfl, ?_⟩))
    go_ret
    exact ⟨zJJ, zDD⟩
   rw [if_neg c7] at H
   have c7b0 := decide_eq_false c7
   clear c7
   by_cases c11 : a0 < 10
   ·rw [if_pos c11] at H
    have c11b0 := decide_eq_true c11
    clear c11
    obtain rfl := Option.some.inj H
    go_wp2
    go_ret
    exact ⟨zJJ, zDD⟩
   rw [if_neg c11] at H
   have c11b0 := decide_eq_false c11
   clear c11
   replace H := zO H
   obtain ⟨t536, A12, H⟩ := H
   replace H := zIp H
   obtain ⟨c13, H⟩ := H
   have c13b0 := eq_true c13
   have c13b1 : decide (t536.size + (Go.Utf8.encode (wrap32 (wrap64 (48 + (Int.tmod a0 10))))).size ≤ 9223372036854775807) = true := decide_eq_true c13
   try have c13b3 : (9223372036854775807 < t536.size + ((Go.Utf8.encode (wrap32 (wrap64 (48 + (Int.tmod a0 10))))).size)) = False := eq_false (by have h_ := c13; simp only [ByteArray.size_append] at h_; exact Nat.not_lt.2 h_)
   try have c13b2 : (9223372036854775807 < t536.size + (Go.Utf8.encode (wrap32 (wrap64 (48 + (Int.tmod a0 10))))).size) = False := eq_false (Nat.not_lt.2 c13)
   obtain rfl := Option.some.inj H
   go_wp2_with (first | ((with_reducible refine gate_callee (f := 40) rfl ?_); refine goesL_ (some 34) rfl rfl Tryd.func40 (by kernel_rfl) rfl #[.int .i64 (wrap64 (Int.tdiv a0 10))] rfl zT ?_; (with_reducible refine (ih kj1 (by have := HJ1.1; omega) (wrap64 (Int.tdiv a0 10)) t536 _ A12.1).mono ?_); rintro e w' ⟨rfl, ⟨nd, rfl⟩⟩; refine ⟨_, rfl, ?_⟩))
   go_ret
   exact ⟨zJJ, zDD⟩

/-! ### impl_signs: function 30 -/
def impl_signs.l0 : Nat → List ByteArray → List Int → Int → Int → Option (List ByteArray)
 | 0, _, _, _, _ => none
 | k + 1, x3, x8, x9, x10 => if x10 < x9 then (if 0 ≤ x10 then (if x10 < (x8.length : Int) then (if (rd x8 x10) ≥ 0 then ((impl_digits.f k (rd x8 x10)).bind fun t541 => (if x3.length < 8796093022208 then (impl_signs.l0 k (x3 ++ [t541]) x8 x9 (wrap64 (x10 + 1))) else (none))) else (if x3.length < 8796093022208 then (impl_signs.l0 k (x3 ++ [(⟨#[45]⟩ : ByteArray)]) x8 x9 (wrap64 (x10 + 1))) else (none))) else (none)) else (none)) else (some x3)
def impl_signs.f (k : Nat) (l0 : List Int) : Option (List ByteArray) := impl_signs.l0 k (([] : List ByteArray)) l0 (l0.length : Int) 0
theorem impl_signs.mono_l : ∀ k, (∀ y0 y1 y2 y3, LeO (impl_signs.l0 k y0 y1 y2 y3) (impl_signs.l0 (k + 1) y0 y1 y2 y3))
 | 0 => fun _ _ _ _ r h => by simp [impl_signs.l0] at h
 | k + 1 => by
  have ih0 := impl_signs.mono_l k
  ·intros
   unfold impl_signs.l0
   have mo0 := @impl_digits.mono
   exact zL
theorem impl_signs.mono : ∀ a0 k, LeO (impl_signs.f k a0) (impl_signs.f (k + 1) a0) := by
 intro a0 k
 have ih0 := impl_signs.mono_l k
 unfold impl_signs.f
 have mo0 := @impl_digits.mono
 exact zL
theorem impl_signs.calls (k : Nat) (A0 : Option Addr) (c0 : Nat) (l0 : List Int) (r : List ByteArray) (w : World) (hr0 : Kd.C (Kd.int .i64) w A0 l0.length l0) (hc0 : l0.length ≤ c0) (h : impl_signs.f k l0 = some r) :
  Calls Tryd.prog 30 #[.slice A0 l0.length c0] w fun e w' => ∃ v0_ : Value, e = .returned (v0_) ∧ Kd.R Kd.string 9 w' w.heap.size (fun _ => True) v0_ r ∧ Below w.heap.size w w' := by
 have HR0 := zM hr0
 have HC0 := zM hc0
 clear hr0 hc0
 have HB := zM (Below.refl w.heap.size w)
 unfold impl_signs.f at h
 have H := h
 clear h
 generalize hy537 : ((([] : List ByteArray)) : List ByteArray) = y537 at H
 have Ny537 := zM hy537.symm
 clear hy537
 have H' := zM H
 clear H
 go_enter Tryd.func30, Tryd.ntmps30
 go_wp2_with (first | ((with_reducible refine gate_dst (N := 7) rfl ?_); refine Kd.R_lit Kd.string _ 9 ?hg (N := 7) ?hd (xs := ([] : List ByteArray)) (inner := []) (ok := fun _ => True) (okp := fun _ => True) ?hr ?hp (fun _ hk => hk) trivial (Below.refl _ _) (Nat.le_refl _) (by simp) ?_; (case hd => rfl); (case hg => rfl); (case hr => exact zHH); (case hp => exact (Reps.none _ _)); intro v538 w2 ho3 hb hg_ hnew_; clear hg_ hnew_; (first | rw [← Ny537.1] at ho3 | (simp only [Int.reduceToNat] at ho3; rw [← Ny537.1] at ho3)); have HO539 := zM (Kd.R_lower ho3 (below_size zB3)); replace HB := zM (below_step zB3 hb); clear hb ho3))
 go_loopg [3, 10] k (fun kq v3 v10 w' => ∃ (x3_1 : List ByteArray) (x10_1 : Int), v10 = .int .i64 x10_1 ∧ Aside0 (impl_signs.l0 kq x3_1 l0 (l0.length : Int) x10_1 = some r) ∧ Aside0 (kq ≤ k) ∧ Aside0 (Kd.R Kd.string 9 w' w.heap.size (fun _ => True) v3 x3_1) ∧ Aside0 (Below w.heap.size w w'))
 case atStart => exact ⟨(y537), (0), zJJ, H', ⟨Nat.le_refl _⟩, ⟨zR HO539.1⟩, ⟨zB3⟩⟩
 case round =>
  clear H'
  obtain ⟨x3_1, x10_1, rfl, HA, HK1, HO_3, HB⟩ := hrel
  cases gk with
  | zero => exact absurd HA.1 (by simp [impl_signs.l0])
  | succ k1 =>
   have H := HA.1
   clear HA
   simp only [impl_signs.l0] at H
   by_cases c4 : x10_1 < (l0.length : Int)
   rotate_left
   ·rw [if_neg c4] at H
    have c4b0 := decide_eq_false c4
    clear c4
    obtain rfl := Option.some.inj H
    go_wp2
    go_ret
    exact ⟨_, zE, zR HO_3.1, zB3⟩
   rw [if_pos c4] at H
   have c4b0 := decide_eq_true c4
   clear c4
   replace H := zIt H
   obtain ⟨c5b0, H⟩ := H
   replace H := zIt H
   obtain ⟨c6b0, H⟩ := H
   by_cases c7 : (rd l0 x10_1) ≥ 0
   rotate_left
   ·rw [if_neg c7] at H
    have c7b0 := decide_eq_false c7
    clear c7
    replace H := zIn H
    obtain ⟨LMc11, H⟩ := H
    generalize hy545 : ((x3_1 ++ [(⟨#[45]⟩ : ByteArray)]) : List ByteArray) = y545 at H
    have Ny545 := zM hy545.symm
    clear hy545
    have H' := zM H
    clear H
    obtain ⟨p540, q540, ad540, e540, hx540_0⟩ := zRd (Kd.at_int HR0.1 x10_1)
    cases e540
    replace hx540_0 := zHx HB.1 hx540_0
    go_wp2_with (first | ((with_reducible refine gate_builtin (b := .append) (xs := #[.tmp 18, .tmp 20]) rfl ?_); at_builtin; refine Kd.R_append Kd.string (w0 := w) w.heap.size rfl (.tmp 18) (.tmp 20) 46 9 (.string ⟨#[]⟩) 16 rfl Tryd.underlying46 info9 rfl (by decide) (by omega) u3 x3_1 (⟨#[45]⟩ : ByteArray) [.string (⟨#[45]⟩ : ByteArray)] (fun _ => True) (fun _ => False) rfl rfl ?aP (fun _ hk => hk.elim) ?aF ?aO ?aB ?aS ?aL ?_; (case aP => exact rfl); (case aB => exact zB3); (case aF => exact (fun _ _ => trivial)); (case aO => exact (zR HO_3.1)); (case aS => exact (below_size zB3)); (case aL => have := LMc11.out; omega); intro v546 w12 ho hb hg hat; rw [← Ny545.1] at ho; replace HB := zM hb; have HO547 := zM ho; clear HO_3; clear ho hb hg hat))
    go_roundg k1
    case measure => have := HK1.1; omega
    case rel => exact ⟨(y545), (wrap64 (x10_1 + 1)), zJJ, H', ⟨by have := HK1.1; omega⟩, ⟨zR HO547.1⟩, ⟨zB3⟩⟩
   rw [if_pos c7] at H
   have c7b0 := decide_eq_true c7
   clear c7
   replace H := zO H
   obtain ⟨t541, A8, H⟩ := H
   replace H := zIn H
   obtain ⟨LMc9, H⟩ := H
   generalize hy542 : ((x3_1 ++ [t541]) : List ByteArray) = y542 at H
   have Ny542 := zM hy542.symm
   clear hy542
   have H' := zM H
   clear H
   obtain ⟨p540, q540, ad540, e540, hx540_0⟩ := zRd (Kd.at_int HR0.1 x10_1)
   cases e540
   replace hx540_0 := zHx HB.1 hx540_0
   go_wp2_with (first | ((with_reducible refine gate_callee (f := 40) rfl ?_); refine goesL_ (some 17) rfl rfl Tryd.func40 (by kernel_rfl) rfl #[.int .i64 (rd l0 x10_1)] rfl zT ?_; (with_reducible refine (impl_digits.calls k1 (rd l0 x10_1) t541 _ A8.1).mono ?_); rintro e w' ⟨rfl, ⟨nd, rfl⟩⟩; refine ⟨_, rfl, ?_⟩) | ((with_reducible refine gate_builtin (b := .append) (xs := #[.tmp 18, .tmp 20]) rfl ?_); at_builtin; refine Kd.R_append Kd.string (w0 := w) w.heap.size rfl (.tmp 18) (.tmp 20) 46 9 (.string ⟨#[]⟩) 16 rfl Tryd.underlying46 info9 rfl (by decide) (by omega) u3 x3_1 t541 [.string t541] (fun _ => True) (fun _ => False) rfl rfl ?aP (fun _ hk => hk.elim) ?aF ?aO ?aB ?aS ?aL ?_; (case aP => exact rfl); (case aB => exact zB3); (case aF => exact (fun _ _ => trivial)); (case aO => exact (zR HO_3.1)); (case aS => exact (below_size zB3)); (case aL => have := LMc9.out; omega); intro v543 w10 ho hb hg hat; rw [← Ny542.1] at ho; replace HB := zM hb; have HO544 := zM ho; clear HO_3; clear ho hb hg hat))
   go_roundg k1
   case measure => have := HK1.1; omega
   case rel => exact ⟨(y542), (wrap64 (x10_1 + 1)), zJJ, H', ⟨by have := HK1.1; omega⟩, ⟨zR HO544.1⟩, ⟨zB3⟩⟩

/-! ### impl_EventText: function 15 -/
def impl_EventText.f (k : Nat) (a0_0 : Int) (a0_1 : Int) (a0_2 : Int) (a0_3 : Int) (a0_4 : Int) : Option (ByteArray) := (impl_signs.f k (([a0_0, a0_1, a0_2, a0_3, a0_4] : List Int))).bind fun t552 => ((strings_Join.f t552 (⟨#[32]⟩ : ByteArray)).bind fun t555 => (some t555))
theorem impl_EventText.mono : ∀ a0 a1 a2 a3 a4 k, LeO (impl_EventText.f k a0 a1 a2 a3 a4) (impl_EventText.f (k + 1) a0 a1 a2 a3 a4) := by
 intro a0 a1 a2 a3 a4 k
 unfold impl_EventText.f
 have mo0 := @impl_signs.mono
 exact zL
theorem impl_EventText.calls (k : Nat) (a0_0 : Int) (a0_1 : Int) (a0_2 : Int) (a0_3 : Int) (a0_4 : Int) (r : ByteArray) (w : World) (h : impl_EventText.f k a0_0 a0_1 a0_2 a0_3 a0_4 = some r) :
  Calls Tryd.prog 15 #[.agg #[.int .i64 a0_0, .int .i64 a0_1, .int .i64 a0_2, .int .i64 a0_3, .int .i64 a0_4]] w fun e w' => e = .returned (.string r) ∧ Below w.heap.size w w' := by
 have hu31 := Tryd.underlying31
 have HB := zM (Below.refl w.heap.size w)
 unfold impl_EventText.f at h
 have H := h
 clear h
 generalize hy549 : ((([a0_0, a0_1, a0_2, a0_3, a0_4] : List Int)) : List Int) = y549 at H
 have Ny549 := zM hy549.symm
 clear hy549
 replace H := zO H
 obtain ⟨t552, A2, H⟩ := H
 replace H := zO H
 obtain ⟨t555, A3, H⟩ := H
 obtain rfl := Option.some.inj H
 go_enter Tryd.func15, Tryd.ntmps15
 go_wp2_with (first | ((with_reducible refine zBx 1 31 #[.int .i64 a0_0, .int .i64 a0_1, .int .i64 a0_2, .int .i64 a0_3, .int .i64 a0_4] ?_); intro gb548 hg w4 hbox hb; have BK548 := zM hbox; have GW548 := zM (zW hg (below_size zB3)); have GE548 := zM (zW hg (below_size zB3)); replace HB := zM (below_step zB3 hb); clear hb hbox hg; have hcz5 := zc_5 (w := w4) BK548.1) | ((with_reducible refine gate_dst (N := 13) rfl ?_); refine Kd.R_lit (Kd.int .i64) _ 3 ?hg (N := 13) ?hd (xs := ([a0_0, a0_1, a0_2, a0_3, a0_4] : List Int)) (inner := [.int .i64 a0_0, .int .i64 a0_1, .int .i64 a0_2, .int .i64 a0_3, .int .i64 a0_4]) (ok := fun _ => True) (okp := fun _ => True) ?hr ?hp (fun _ hk => hk) trivial (Below.refl _ _) (Nat.le_refl _) (by simp) ?_; (case hd => rfl); (case hg => rfl); (case hr => exact zHH); (case hp => exact (Reps.one (show Kd.M (Kd.int .i64) _ _ _ a0_0 [.int .i64 a0_0] from rfl) (Reps.one (show Kd.M (Kd.int .i64) _ _ _ a0_1 [.int .i64 a0_1] from rfl) (Reps.one (show Kd.M (Kd.int .i64) _ _ _ a0_2 [.int .i64 a0_2] from rfl) (Reps.one (show Kd.M (Kd.int .i64) _ _ _ a0_3 [.int .i64 a0_3] from rfl) (Reps.one (show Kd.M (Kd.int .i64) _ _ _ a0_4 [.int .i64 a0_4] from rfl) (Reps.none _ _))))))); intro v550 w6 ho7 hb hg_ hnew_; clear hg_ hnew_; (first | rw [← Ny549.1] at ho7 | (simp only [Int.reduceToNat] at ho7; rw [← Ny549.1] at ho7)); have HO551 := zM (Kd.R_lower ho7 (below_size zB3)); replace BK548 := zM (zb BK548.1 hb); replace HB := zM (below_step zB3 hb); clear hb ho7; obtain ⟨Ao8, co8, eo8⟩ := Kd.R_slice HO551.1; subst eo8) | ((with_reducible refine gate_callee (f := 30) rfl ?_); refine goesL_ (some 14) rfl rfl Tryd.func30 (by kernel_rfl) rfl #[.slice Ao8 y549.length co8] rfl zT ?_; (with_reducible refine (impl_signs.calls k _ _ y549 t552 _ ?side1 ?side2 A2.1).mono ?_); (case side1 => exact zC (Kd.R_reads' HO551.1).2.2); (case side2 => exact (Kd.R_reads' HO551.1).2.1); rintro e w9 ⟨v553, rfl, ho0, hb⟩; refine ⟨_, rfl, ?_⟩; replace HO551 := zM (Kd.R_below (zR HO551.1) hb); have HO554 := zM (Kd.R_lower ho0 (below_size zB3)); replace BK548 := zM (zb BK548.1 hb); replace HB := zM (below_step zB3 hb); clear hb ho0; obtain ⟨Ao10, co10, eo10⟩ := Kd.R_slice HO554.1; subst eo10) | ((with_reducible refine gate_callee (f := 29) rfl ?_); refine goesL_ (some 15) rfl rfl Tryd.func29 (by kernel_rfl) rfl #[.slice Ao10 t552.length co10, .string (⟨#[32]⟩ : ByteArray)] rfl zT ?_; (with_reducible refine (strings_Join.calls _ _ t552 (⟨#[32]⟩ : ByteArray) t555 _ ?side1 ?side2 A3.1).mono ?_); (case side1 => exact zC (Kd.R_reads' HO554.1).2.2); (case side2 => exact (Kd.R_reads' HO554.1).2.1); rintro e w11 ⟨rfl, hb⟩; refine ⟨_, rfl, ?_⟩; replace HO551 := zM (Kd.R_below (zR HO551.1) hb); replace HO554 := zM (Kd.R_below (zR HO554.1) hb); replace BK548 := zM (zb BK548.1 hb); replace HB := zM (below_step zB3 hb); clear hb))
 go_ret
 exact ⟨zE, zB3⟩

/-! ### impl_TraceText: function 6 -/
def impl_TraceText.l0 : Nat → ByteArray → List (S31) → Int → Int → Option (ByteArray)
 | 0, _, _, _, _ => none
 | k + 1, x3, x9, x10, x11 => if x11 < x10 then (if 0 ≤ x11 then (if x11 < (x9.length : Int) then ((impl_EventText.f k ((rd_T31 x9 x11).f0) ((rd_T31 x9 x11).f1) ((rd_T31 x9 x11).f2) ((rd_T31 x9 x11).f3) ((rd_T31 x9 x11).f4)).bind fun t558 => (if t558.size + 1 ≤ 9223372036854775807 then (if x3.size + (t558 ++ (⟨#[10]⟩ : ByteArray)).size ≤ 9223372036854775807 then (impl_TraceText.l0 k (x3 ++ (t558 ++ (⟨#[10]⟩ : ByteArray))) x9 x10 (wrap64 (x11 + 1))) else (none)) else (none))) else (none)) else (none)) else (some x3)
def impl_TraceText.f (k : Nat) (l0 : List (S31)) : Option (ByteArray) := if (l0.length : Int) > 60 then (some (⟨#[]⟩ : ByteArray)) else (impl_TraceText.l0 k (⟨#[]⟩ : ByteArray) l0 (l0.length : Int) 0)
theorem impl_TraceText.mono_l : ∀ k, (∀ y0 y1 y2 y3, LeO (impl_TraceText.l0 k y0 y1 y2 y3) (impl_TraceText.l0 (k + 1) y0 y1 y2 y3))
 | 0 => fun _ _ _ _ r h => by simp [impl_TraceText.l0] at h
 | k + 1 => by
  have ih0 := impl_TraceText.mono_l k
  ·intros
   unfold impl_TraceText.l0
   have mo0 := @impl_EventText.mono
   exact zL
theorem impl_TraceText.mono : ∀ a0 k, LeO (impl_TraceText.f k a0) (impl_TraceText.f (k + 1) a0) := by
 intro a0 k
 have ih0 := impl_TraceText.mono_l k
 unfold impl_TraceText.f
 have mo0 := @impl_EventText.mono
 exact zL
theorem impl_TraceText.calls (k : Nat) (A0 : Option Addr) (c0 : Nat) (l0 : List (S31)) (r : ByteArray) (w : World) (hr0 : Kd.C k31 w A0 l0.length l0) (hc0 : l0.length ≤ c0) (h : impl_TraceText.f k l0 = some r) :
  Calls Tryd.prog 6 #[.slice A0 l0.length c0] w fun e w' => e = .returned (.string r) ∧ Below w.heap.size w w' := by
 have hu31 := Tryd.underlying31
 have HR0 := zM hr0
 have HC0 := zM hc0
 clear hr0 hc0
 have HB := zM (Below.refl w.heap.size w)
 unfold impl_TraceText.f at h
 have H := h
 clear h
 by_cases c2 : (l0.length : Int) > 60
 ·rw [if_pos c2] at H
  have c2b0 := decide_eq_true c2
  have c2b1 : decide (60 < l0.length) = true := decide_eq_true (by omega)
  clear c2
  obtain rfl := Option.some.inj H
  go_enter Tryd.func6, Tryd.ntmps6
  go_wp2
  go_ret
  exact ⟨zE, zB3⟩
 rw [if_neg c2] at H
 have c2b0 := decide_eq_false c2
 have c2b1 : decide (60 < l0.length) = false := decide_eq_false (by omega)
 clear c2
 have H' := zM H
 clear H
 go_enter Tryd.func6, Tryd.ntmps6
 go_wp2
 go_loopg [3, 11] k (fun kq v3 v11 w' => ∃ (x3_1 : ByteArray) (x11_1 : Int), v3 = .string x3_1 ∧ v11 = .int .i64 x11_1 ∧ Aside0 (impl_TraceText.l0 kq x3_1 l0 (l0.length : Int) x11_1 = some r) ∧ Aside0 (kq ≤ k) ∧ Aside0 (Below w.heap.size w w'))
 case atStart => exact ⟨((⟨#[]⟩ : ByteArray)), (0), zJJ, zJJ, H', ⟨Nat.le_refl _⟩, ⟨zB3⟩⟩
 case round =>
  clear H'
  obtain ⟨x3_1, x11_1, rfl, rfl, HA, HK1, HB⟩ := hrel
  cases gk with
  | zero => exact absurd HA.1 (by simp [impl_TraceText.l0])
  | succ k1 =>
   have H := HA.1
   clear HA
   simp only [impl_TraceText.l0] at H
   by_cases c3 : x11_1 < (l0.length : Int)
   rotate_left
   ·rw [if_neg c3] at H
    have c3b0 := decide_eq_false c3
    clear c3
    obtain rfl := Option.some.inj H
    go_wp2
    go_ret
    exact ⟨zE, zB3⟩
   rw [if_pos c3] at H
   have c3b0 := decide_eq_true c3
   clear c3
   replace H := zIt H
   obtain ⟨c4b0, H⟩ := H
   replace H := zIt H
   obtain ⟨c5b0, H⟩ := H
   replace H := zO H
   obtain ⟨t558, A6, H⟩ := H
   replace H := zIp H
   obtain ⟨c7, H⟩ := H
   have c7b0 := eq_true c7
   have c7b1 : decide (t558.size + 1 ≤ 9223372036854775807) = true := decide_eq_true c7
   try have c7b2 : (9223372036854775807 < t558.size + 1) = False := eq_false (Nat.not_lt.2 c7)
   replace H := zIp H
   obtain ⟨c8, H⟩ := H
   have c8b0 := eq_true c8
   have c8b1 : decide (x3_1.size + (t558 ++ (⟨#[10]⟩ : ByteArray)).size ≤ 9223372036854775807) = true := decide_eq_true c8
   try have c8b3 : (9223372036854775807 < x3_1.size + (t558.size + 1)) = False := eq_false (by have h_ := c8; simp only [ByteArray.size_append] at h_; exact Nat.not_lt.2 h_)
   try have c8b2 : (9223372036854775807 < x3_1.size + (t558 ++ (⟨#[10]⟩ : ByteArray)).size) = False := eq_false (Nat.not_lt.2 c8)
   have H' := zM H
   clear H
   obtain ⟨p556, q556, ad556, e556, hx556_0, hx556_1, hx556_2, hx556_3, hx556_4⟩ := zRd (at_T31 HR0.1 x11_1)
   cases e556
   replace hx556_0 := zHx HB.1 hx556_0
   replace hx556_1 := zHx HB.1 hx556_1
   replace hx556_2 := zHx HB.1 hx556_2
   replace hx556_3 := zHx HB.1 hx556_3
   replace hx556_4 := zHx HB.1 hx556_4
   go_wp2_with (first | ((with_reducible refine zBx 5 31 #[.int .i64 0, .int .i64 0, .int .i64 0, .int .i64 0, .int .i64 0] ?_); intro gb557 hg w9 hbox hb; have BK557 := zM hbox; have GW557 := zM (zW hg (below_size zB3)); have GE557 := zM (zW hg (below_size zB3)); replace HB := zM (below_step zB3 hb); clear hb hbox hg; have hcz10 := zc_5 (w := w9) BK557.1) | ((with_reducible refine gate_callee (f := 15) rfl ?_); refine goesL_ (some 17) rfl rfl Tryd.func15 (by kernel_rfl) rfl #[.agg #[.int .i64 ((rd_T31 l0 x11_1).f0), .int .i64 ((rd_T31 l0 x11_1).f1), .int .i64 ((rd_T31 l0 x11_1).f2), .int .i64 ((rd_T31 l0 x11_1).f3), .int .i64 ((rd_T31 l0 x11_1).f4)]] rfl zT ?_; (with_reducible refine (impl_EventText.calls k1 ((rd_T31 l0 x11_1).f0) ((rd_T31 l0 x11_1).f1) ((rd_T31 l0 x11_1).f2) ((rd_T31 l0 x11_1).f3) ((rd_T31 l0 x11_1).f4) t558 _ A6.1).mono ?_); rintro e w11 ⟨rfl, hb⟩; refine ⟨_, rfl, ?_⟩; replace BK557 := zM (blk_below (g := gb557) (o := .cells #[.int .i64 ((rd_T31 l0 x11_1).f0), .int .i64 ((rd_T31 l0 x11_1).f1), .int .i64 ((rd_T31 l0 x11_1).f2), .int .i64 ((rd_T31 l0 x11_1).f3), .int .i64 ((rd_T31 l0 x11_1).f4)] 31 (0, 0)) (by exact zp5 (zK BK557.1)) hb); replace HB := zM (below_step zB3 hb); clear hb))
   go_roundg k1
   case measure => have := HK1.1; omega
   case rel => exact ⟨(x3_1 ++ (t558 ++ (⟨#[10]⟩ : ByteArray))), (wrap64 (x11_1 + 1)), zJJ, zJJ, H', ⟨by have := HK1.1; omega⟩, ⟨zB3⟩⟩

/-! ### spec_l16Digits: function 41 -/
def spec_l16Digits.l0 : Nat → Int → ByteArray → Option (ByteArray)
 | 0, _, _ => none
 | k + 1, x0, x3 => if x0 > 0 then ((some (([(wrap64 (48 + (Int.tmod x0 10))) % 256] : List Int) : List Int)).bind fun y559 => (if (strOfNums y559).size + x3.size ≤ 9223372036854775807 then (spec_l16Digits.l0 k (wrap64 (Int.tdiv x0 10)) ((strOfNums y559) ++ x3)) else (none))) else (some x3)
def spec_l16Digits.f (k : Nat) (a0 : Int) : Option (ByteArray) := if a0 ≤ 0 then (some (⟨#[48]⟩ : ByteArray)) else (spec_l16Digits.l0 k a0 (⟨#[]⟩ : ByteArray))
theorem spec_l16Digits.mono_l : ∀ k, (∀ y0 y1, LeO (spec_l16Digits.l0 k y0 y1) (spec_l16Digits.l0 (k + 1) y0 y1))
 | 0 => fun _ _ r h => by simp [spec_l16Digits.l0] at h
 | k + 1 => by
  have ih0 := spec_l16Digits.mono_l k
  ·intros
   unfold spec_l16Digits.l0
   exact zL
theorem spec_l16Digits.mono : ∀ a0 k, LeO (spec_l16Digits.f k a0) (spec_l16Digits.f (k + 1) a0) := by
 intro a0 k
 have ih0 := spec_l16Digits.mono_l k
 unfold spec_l16Digits.f
 exact zL
theorem spec_l16Digits.calls (k : Nat) (a0 : Int) (r : ByteArray) (w : World) (h : spec_l16Digits.f k a0 = some r) :
  Calls Tryd.prog 41 #[.int .i64 a0] w fun e w' => e = .returned (.string r) ∧ Below w.heap.size w w' := by
 have HB := zM (Below.refl w.heap.size w)
 unfold spec_l16Digits.f at h
 have H := h
 clear h
 by_cases c2 : a0 ≤ 0
 ·rw [if_pos c2] at H
  have c2b0 := decide_eq_true c2
  clear c2
  obtain rfl := Option.some.inj H
  go_enter Tryd.func41, Tryd.ntmps41
  go_wp2
  go_ret
  exact ⟨zE, zB3⟩
 rw [if_neg c2] at H
 have c2b0 := decide_eq_false c2
 clear c2
 have H' := zM H
 clear H
 go_enter Tryd.func41, Tryd.ntmps41
 go_wp2
 go_loopg [0, 3] k (fun kq v0 v3 w' => ∃ (x0_1 : Int) (x3_1 : ByteArray), v0 = .int .i64 x0_1 ∧ v3 = .string x3_1 ∧ Aside0 (spec_l16Digits.l0 kq x0_1 x3_1 = some r) ∧ Aside0 (kq ≤ k) ∧ Aside0 (Below w.heap.size w w'))
 case atStart => exact ⟨(a0), ((⟨#[]⟩ : ByteArray)), zJJ, zJJ, H', ⟨Nat.le_refl _⟩, ⟨zB3⟩⟩
 case round =>
  clear H'
  obtain ⟨x0_1, x3_1, rfl, rfl, HA, HK1, HB⟩ := hrel
  cases gk with
  | zero => exact absurd HA.1 (by simp [spec_l16Digits.l0])
  | succ k1 =>
   have H := HA.1
   clear HA
   simp only [spec_l16Digits.l0] at H
   by_cases c3 : x0_1 > 0
   rotate_left
   ·rw [if_neg c3] at H
    have c3b0 := decide_eq_false c3
    clear c3
    obtain rfl := Option.some.inj H
    go_wp2
    go_ret
    exact ⟨zE, zB3⟩
   rw [if_pos c3] at H
   have c3b0 := decide_eq_true c3
   clear c3
   replace H := zY H
   obtain ⟨y559, Ny559, H⟩ := H
   replace H := zIp H
   obtain ⟨c4, H⟩ := H
   have c4b0 := eq_true c4
   have c4b1 : decide ((strOfNums y559).size + x3_1.size ≤ 9223372036854775807) = true := decide_eq_true c4
   try have c4b2 : (9223372036854775807 < (strOfNums y559).size + x3_1.size) = False := eq_false (Nat.not_lt.2 c4)
   have H' := zM H
   clear H
   go_wp2_with (first | ((with_reducible refine gate_dst (N := 12) rfl ?_); refine Kd.R_lit (Kd.int .u8) _ 5 ?hg (N := 12) ?hd (xs := ([(wrap64 (48 + (Int.tmod x0_1 10))) % 256] : List Int)) (inner := [.int .u8 ((wrap64 (48 + (Int.tmod x0_1 10))) % 256)]) (ok := fun _ => True) (okp := fun _ => True) ?hr ?hp (fun _ hk => hk) trivial (Below.refl _ _) (Nat.le_refl _) (by simp) ?_; (case hd => rfl); (case hg => rfl); (case hr => exact zHH); (case hp => exact (Reps.one (show Kd.M (Kd.int .u8) _ _ _ ((wrap64 (48 + (Int.tmod x0_1 10))) % 256) [.int .u8 ((wrap64 (48 + (Int.tmod x0_1 10))) % 256)] from rfl) (Reps.none _ _))); intro v560 w5 ho6 hb hg_ hnew_; clear hg_ hnew_; (first | rw [← Ny559.1] at ho6 | (simp only [Int.reduceToNat] at ho6; rw [← Ny559.1] at ho6)); have HO561 := zM (Kd.R_lower ho6 (below_size zB3)); replace HB := zM (below_step zB3 hb); clear hb ho6; have hcv7 := own_string (P := Tryd.prog) Tryd.underlying22 Tryd.underlying5 Tryd.underlying9 (Kd.own_of_R HO561.1)))
   go_roundg k1
   case measure => have := HK1.1; omega
   case rel => exact ⟨(wrap64 (Int.tdiv x0_1 10)), ((strOfNums y559) ++ x3_1), zJJ, zJJ, H', ⟨by have := HK1.1; omega⟩, ⟨zB3⟩⟩

/-! ### spec_l18Num: function 38 -/
def spec_l18Num.f (k : Nat) (a0 : Int) : Option (ByteArray) := if a0 < 0 then (some (⟨#[45]⟩ : ByteArray)) else ((spec_l16Digits.f k a0).bind fun t562 => (some t562))
theorem spec_l18Num.mono : ∀ a0 k, LeO (spec_l18Num.f k a0) (spec_l18Num.f (k + 1) a0) := by
 intro a0 k
 unfold spec_l18Num.f
 have mo0 := @spec_l16Digits.mono
 exact zL
theorem spec_l18Num.calls (k : Nat) (a0 : Int) (r : ByteArray) (w : World) (h : spec_l18Num.f k a0 = some r) :
  Calls Tryd.prog 38 #[.int .i64 a0] w fun e w' => e = .returned (.string r) ∧ Below w.heap.size w w' := by
 have HB := zM (Below.refl w.heap.size w)
 unfold spec_l18Num.f at h
 have H := h
 clear h
 by_cases c2 : a0 < 0
 ·rw [if_pos c2] at H
  have c2b0 := decide_eq_true c2
  clear c2
  obtain rfl := Option.some.inj H
  go_enter Tryd.func38, Tryd.ntmps38
  go_wp2
  go_ret
  exact ⟨zE, zB3⟩
 rw [if_neg c2] at H
 have c2b0 := decide_eq_false c2
 clear c2
 replace H := zO H
 obtain ⟨t562, A3, H⟩ := H
 obtain rfl := Option.some.inj H
 go_enter Tryd.func38, Tryd.ntmps38
 go_wp2_with (first | ((with_reducible refine gate_callee (f := 41) rfl ?_); refine goesL_ (some 6) rfl rfl Tryd.func41 (by kernel_rfl) rfl #[.int .i64 a0] rfl zT ?_; (with_reducible refine (spec_l16Digits.calls k a0 t562 _ A3.1).mono ?_); rintro e w4 ⟨rfl, hb⟩; refine ⟨_, rfl, ?_⟩; replace HB := zM (below_step zB3 hb); clear hb))
 go_ret
 exact ⟨zE, zB3⟩

end Go.Proofs.YtaakcbgpmabaaaaDoor.PFnStories
