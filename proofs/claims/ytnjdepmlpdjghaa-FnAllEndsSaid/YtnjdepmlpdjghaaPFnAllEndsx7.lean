-- made by wip/tools/myprint.py out of the seat's translation
import Derived.Test.YtnjdepmlpdjghaaPFnAllEndsx0
import Derived.Test.YtnjdepmlpdjghaaPFnAllEndsx1
import Derived.Test.YtnjdepmlpdjghaaPFnAllEndsx6
namespace Go.Proofs.Ytnjdepmlpdjghaa.PFnAllEnds
open Go.RowKit Go.Proofs.YtnjdepmlpdjghaaW.PrintWords Go.Proofs.YtnjdepmlpdjghaaW.PrintLast Go.Proofs.YtnjdepmlpdjghaaW.PrintMore
attribute [local go_sem] max2_int min2_int max_two min_two max_three min_three max_four min_four   -- for this text's walks alone
set_option linter.unusedVariables false
set_option linter.unusedSimpArgs false
set_option maxHeartbeats 8000000
set_option maxRecDepth 100000

attribute [local go_sem high] eqA59
/-! ### impl_wordsOk: function 44 -/
def impl_wordsOk.f (k : Nat) (l0 : List Int) (a1 : Int) : Option (Bool) := if (l0.length : Int) = a1 then ((slices_ContainsFunc_at_impl_wordsOk_1.f k l0 0).bind fun t247 => (some (!t247))) else (some false)
theorem impl_wordsOk.mono : ∀ a0 a1 k, LeO (impl_wordsOk.f k a0 a1) (impl_wordsOk.f (k + 1) a0 a1) := by
  intro a0 a1 k
  unfold impl_wordsOk.f
  have mo0 := @slices_ContainsFunc_at_impl_wordsOk_1.mono
  exact zL
theorem impl_wordsOk.calls (k : Nat) (A0 : Option Addr) (c0 : Nat) (l0 : List Int) (a1 : Int) (r : Bool) (w : World) (hr0 : Kd.C (Kd.int .i64) w A0 l0.length l0) (hc0 : l0.length ≤ c0) (h : impl_wordsOk.f k l0 a1 = some r) :
    Calls Try.prog 44 #[.slice A0 l0.length c0, .int .i64 a1] w fun e w' => e = .returned (.bool r) ∧ Drawn0 w w' := by
  have HR0 := zM hr0
  have HC0 := zM hc0
  clear hr0 hc0
  unfold impl_wordsOk.f at h
  have H := h
  clear h
  by_cases c3 : (l0.length : Int) = a1
  rotate_left
  · rw [if_neg c3] at H
    have c3b0 : ((l0.length : Int) == a1) = false := beq_eq_false_iff_ne.mpr c3
    have c3b1 : ((l0.length : Int) != a1) = true := bne_iff_ne.mpr c3
    obtain rfl := Option.some.inj H
    go_enter Try.func44, Try.ntmps44
    go_wp2
    go_ret
    exact ⟨zJJ, zDD⟩
  rw [if_pos c3] at H
  have c3b0 : ((l0.length : Int) == a1) = true := beq_iff_eq.mpr c3
  have c3b1 : ((l0.length : Int) != a1) = false := bne_eq_false_iff_eq.mpr c3
  clear c3
  replace H := zO H
  obtain ⟨t247, A4, H⟩ := H
  obtain rfl := Option.some.inj H
  go_enter Try.func44, Try.ntmps44
  go_wp2_with (first | (go_at_call 70; (with_reducible refine (slices_ContainsFunc_at_impl_wordsOk_1.calls k _ _ l0 0 t247 _ ?side1 ?side2 A4.1).mono ?_); (case side1 => exact zC HR0.1); (case side2 => exact HC0.1); rintro e w' ⟨rfl, ⟨nd, rfl⟩⟩))
  go_ret
  exact ⟨zJJ, zDD⟩

/-! ### impl_memOk: function 42 -/
def impl_memOk.f (k : Nat) (l0 : List Int) : Option (Bool) := (impl_wordsOk.f k l0 24).bind fun t248 => (some t248)
theorem impl_memOk.mono : ∀ a0 k, LeO (impl_memOk.f k a0) (impl_memOk.f (k + 1) a0) := by
  intro a0 k
  unfold impl_memOk.f
  have mo0 := @impl_wordsOk.mono
  exact zL
theorem impl_memOk.calls (k : Nat) (A0 : Option Addr) (c0 : Nat) (l0 : List Int) (r : Bool) (w : World) (hr0 : Kd.C (Kd.int .i64) w A0 l0.length l0) (hc0 : l0.length ≤ c0) (h : impl_memOk.f k l0 = some r) :
    Calls Try.prog 42 #[.slice A0 l0.length c0] w fun e w' => e = .returned (.bool r) ∧ Drawn0 w w' := by
  have HR0 := zM hr0
  have HC0 := zM hc0
  clear hr0 hc0
  unfold impl_memOk.f at h
  have H := h
  clear h
  replace H := zO H
  obtain ⟨t248, A2, H⟩ := H
  obtain rfl := Option.some.inj H
  go_enter Try.func42, Try.ntmps42
  go_wp2_with (first | ((with_reducible refine zG Try.func44 4 #[.slice A0 l0.length c0, .int .i64 24] ?_); (with_reducible refine (impl_wordsOk.calls k _ _ l0 24 t248 _ ?side1 ?side2 A2.1).mono ?_); (case side1 => exact zC HR0.1); (case side2 => exact HC0.1); rintro e w' ⟨rfl, ⟨nd, rfl⟩⟩; refine ⟨_, rfl, ?_⟩))
  go_ret
  exact ⟨zJJ, zDD⟩

-- NOT PRINTED: function 79 (impl_Hart_79)

-- NOT PRINTED: function 56 (impl_Hart_56)

/-! ### impl_isCell: function 46 -/
def impl_isCell.f (a0 : Int) : Option (Bool) := (impl_from.f a0 0 23).bind fun t249 => (some t249)
theorem impl_isCell.calls (a0 : Int) (r : Bool) (w : World) (h : impl_isCell.f a0 = some r) :
    Calls Try.prog 46 #[.int .i64 a0] w fun e w' => e = .returned (.bool r) ∧ Drawn0 w w' := by
  unfold impl_isCell.f at h
  have H := h
  clear h
  replace H := zO H
  obtain ⟨t249, A2, H⟩ := H
  obtain rfl := Option.some.inj H
  go_enter Try.func46, Try.ntmps46
  go_wp2_with (first | ((with_reducible refine zG Try.func43 4 #[.int .i64 a0, .int .i64 0, .int .i64 23] ?_); (with_reducible refine (impl_from.calls a0 0 23 t249 _ A2.1).mono ?_); rintro e w' ⟨rfl, ⟨nd, rfl⟩⟩; refine ⟨_, rfl, ?_⟩))
  go_ret
  exact ⟨zJJ, zDD⟩

/-! ### impl_HartOk: function 58 -/
def impl_HartOk.f (k : Nat) (l0_0 : List Int) (a0_1 : Int) (a0_2 : Int) : Option (Bool) := (impl_wordsOk.f k l0_0 4).bind fun t251 => (if t251 = true then ((impl_isCell.f a0_1).bind fun t252 => (if t252 = true then ((impl_from.f a0_2 0 2).bind fun t253 => (some t253)) else (some false))) else (some false))
theorem impl_HartOk.mono : ∀ a0 a1 a2 k, LeO (impl_HartOk.f k a0 a1 a2) (impl_HartOk.f (k + 1) a0 a1 a2) := by
  intro a0 a1 a2 k
  unfold impl_HartOk.f
  have mo0 := @impl_wordsOk.mono
  exact zL
theorem impl_HartOk.calls (k : Nat) (A0_0 : Option Addr) (c0_0 : Nat) (l0_0 : List Int) (a0_1 : Int) (a0_2 : Int) (r : Bool) (w : World) (hr0_0 : Kd.C (Kd.int .i64) w A0_0 l0_0.length l0_0) (hc0_0 : l0_0.length ≤ c0_0) (h : impl_HartOk.f k l0_0 a0_1 a0_2 = some r) :
    Calls Try.prog 58 #[.agg #[.slice A0_0 l0_0.length c0_0, .int .i64 a0_1, .int .i64 a0_2]] w fun e w' => e = .returned (.bool r) ∧ Below w.heap.size w w' := by
  have hu29 := Try.underlying29
  have HR0_0 := zM hr0_0
  have HC0_0 := zM hc0_0
  clear hr0_0 hc0_0
  have HB := zM (Below.refl w.heap.size w)
  unfold impl_HartOk.f at h
  have H := h
  clear h
  replace H := zO H
  obtain ⟨t251, A2, H⟩ := H
  by_cases c3 : t251 = true
  rotate_left
  · replace c3 := Bool.eq_false_iff.mpr c3
    subst c3
    rw [if_neg zF] at H
    obtain rfl := Option.some.inj H
    go_enter Try.func58, Try.ntmps58
    go_wp2_with (first | ((with_reducible refine zBx 1 29 #[.slice A0_0 l0_0.length c0_0, .int .i64 a0_1, .int .i64 a0_2] ?_); intro gb250 hg w11 hbox hb; have BK250 := zM hbox; have GW250 := zM (zW hg (below_size zB0)); have GE250 := zM (zW hg (below_size zB0)); replace HB := zM (below_step zB0 hb); clear hb hbox hg; have hcz12 := zc_3 (w := w11) BK250.1) | ((with_reducible refine zG Try.func44 5 #[.slice A0_0 l0_0.length c0_0, .int .i64 4] ?_); (with_reducible refine (impl_wordsOk.calls k _ _ l0_0 4 false _ ?side1 ?side2 A2.1).mono ?_); (case side1 => exact zC (Kd.C_below HR0_0.1 HB.1)); (case side2 => exact HC0_0.1); rintro e w' ⟨rfl, ⟨nd, rfl⟩⟩; refine ⟨_, rfl, ?_⟩))
    go_ret
    exact ⟨zE, zB0⟩
  subst c3
  rw [if_pos rfl] at H
  replace H := zO H
  obtain ⟨t252, A4, H⟩ := H
  by_cases c5 : t252 = true
  rotate_left
  · replace c5 := Bool.eq_false_iff.mpr c5
    subst c5
    rw [if_neg zF] at H
    obtain rfl := Option.some.inj H
    go_enter Try.func58, Try.ntmps58
    go_wp2_with (first | ((with_reducible refine zBx 1 29 #[.slice A0_0 l0_0.length c0_0, .int .i64 a0_1, .int .i64 a0_2] ?_); intro gb250 hg w9 hbox hb; have BK250 := zM hbox; have GW250 := zM (zW hg (below_size zB0)); have GE250 := zM (zW hg (below_size zB0)); replace HB := zM (below_step zB0 hb); clear hb hbox hg; have hcz10 := zc_3 (w := w9) BK250.1) | ((with_reducible refine zG Try.func44 5 #[.slice A0_0 l0_0.length c0_0, .int .i64 4] ?_); (with_reducible refine (impl_wordsOk.calls k _ _ l0_0 4 true _ ?side1 ?side2 A2.1).mono ?_); (case side1 => exact zC (Kd.C_below HR0_0.1 HB.1)); (case side2 => exact HC0_0.1); rintro e w' ⟨rfl, ⟨nd, rfl⟩⟩; refine ⟨_, rfl, ?_⟩) | (go_at_call 46; (with_reducible refine (impl_isCell.calls a0_1 false _ A4.1).mono ?_); rintro e w' ⟨rfl, ⟨nd, rfl⟩⟩))
    go_ret
    exact ⟨zE, zB0⟩
  subst c5
  rw [if_pos rfl] at H
  replace H := zO H
  obtain ⟨t253, A6, H⟩ := H
  obtain rfl := Option.some.inj H
  go_enter Try.func58, Try.ntmps58
  go_wp2_with (first | ((with_reducible refine zBx 1 29 #[.slice A0_0 l0_0.length c0_0, .int .i64 a0_1, .int .i64 a0_2] ?_); intro gb250 hg w7 hbox hb; have BK250 := zM hbox; have GW250 := zM (zW hg (below_size zB0)); have GE250 := zM (zW hg (below_size zB0)); replace HB := zM (below_step zB0 hb); clear hb hbox hg; have hcz8 := zc_3 (w := w7) BK250.1) | ((with_reducible refine zG Try.func44 5 #[.slice A0_0 l0_0.length c0_0, .int .i64 4] ?_); (with_reducible refine (impl_wordsOk.calls k _ _ l0_0 4 true _ ?side1 ?side2 A2.1).mono ?_); (case side1 => exact zC (Kd.C_below HR0_0.1 HB.1)); (case side2 => exact HC0_0.1); rintro e w' ⟨rfl, ⟨nd, rfl⟩⟩; refine ⟨_, rfl, ?_⟩) | (go_at_call 46; (with_reducible refine (impl_isCell.calls a0_1 true _ A4.1).mono ?_); rintro e w' ⟨rfl, ⟨nd, rfl⟩⟩) | (go_at_call 43; (with_reducible refine (impl_from.calls a0_2 0 2 t253 _ A6.1).mono ?_); rintro e w' ⟨rfl, ⟨nd, rfl⟩⟩))
  go_ret
  exact ⟨zE, zB0⟩

/-! ### impl_Ends2_1: function 57 -/
def impl_Ends2_1.f (k : Nat) (l0_0 : List Int) (a0_1 : Int) (a0_2 : Int) : Option (Bool) := (impl_HartOk.f k l0_0 a0_1 a0_2).bind fun t255 => (some (!t255))
theorem impl_Ends2_1.mono : ∀ a0 a1 a2 k, LeO (impl_Ends2_1.f k a0 a1 a2) (impl_Ends2_1.f (k + 1) a0 a1 a2) := by
  intro a0 a1 a2 k
  unfold impl_Ends2_1.f
  have mo0 := @impl_HartOk.mono
  exact zL
theorem impl_Ends2_1.calls (k : Nat) (A0_0 : Option Addr) (c0_0 : Nat) (l0_0 : List Int) (a0_1 : Int) (a0_2 : Int) (r : Bool) (w : World) (hr0_0 : Kd.C (Kd.int .i64) w A0_0 l0_0.length l0_0) (hc0_0 : l0_0.length ≤ c0_0) (h : impl_Ends2_1.f k l0_0 a0_1 a0_2 = some r) :
    Calls Try.prog 57 #[.agg #[.slice A0_0 l0_0.length c0_0, .int .i64 a0_1, .int .i64 a0_2]] w fun e w' => e = .returned (.bool r) ∧ Below w.heap.size w w' := by
  have hu29 := Try.underlying29
  have HR0_0 := zM hr0_0
  have HC0_0 := zM hc0_0
  clear hr0_0 hc0_0
  have HB := zM (Below.refl w.heap.size w)
  unfold impl_Ends2_1.f at h
  have H := h
  clear h
  replace H := zO H
  obtain ⟨t255, A2, H⟩ := H
  obtain rfl := Option.some.inj H
  go_enter Try.func57, Try.ntmps57
  go_wp2_with (first | ((with_reducible refine zBx 1 29 #[.slice A0_0 l0_0.length c0_0, .int .i64 a0_1, .int .i64 a0_2] ?_); intro gb254 hg w3 hbox hb; have BK254 := zM hbox; have GW254 := zM (zW hg (below_size zB0)); have GE254 := zM (zW hg (below_size zB0)); replace HB := zM (below_step zB0 hb); clear hb hbox hg; have hcz4 := zc_3 (w := w3) BK254.1) | ((with_reducible refine zG Try.func58 4 #[.agg #[.slice A0_0 l0_0.length c0_0, .int .i64 a0_1, .int .i64 a0_2]] ?_); (with_reducible refine (impl_HartOk.calls k _ _ l0_0 a0_1 a0_2 t255 _ ?side1 ?side2 A2.1).mono ?_); (case side1 => exact zC (Kd.C_below HR0_0.1 HB.1)); (case side2 => exact HC0_0.1); rintro e w5 ⟨rfl, hb⟩; refine ⟨_, rfl, ?_⟩; replace BK254 := zM (zb BK254.1 hb); replace HB := zM (below_step zB0 hb); clear hb))
  go_ret
  exact ⟨zE, zB0⟩

/-! ### slices_Clone_int_int: function 41 -/
def slices_Clone_int_int.f (l0 : List Int) : Option (List Int) := if l0.length ≤ 17592186044416 then some l0 else none
theorem slices_Clone_int_int.calls (A0 : Option Addr) (c0 : Nat) (l0 : List Int) (r : List Int) (w : World) (hr0 : Kd.C (Kd.int .i64) w A0 l0.length l0) (hc0 : l0.length ≤ c0) (h : slices_Clone_int_int.f l0 = some r) :
    Calls Try.prog 41 #[.slice A0 l0.length c0] w fun e w' => ∃ v0_ : Value, e = .returned (v0_) ∧ Kd.R (Kd.int .i64) 3 w' w.heap.size (fun _ => True) v0_ r ∧ Below w.heap.size w w' := by
  unfold slices_Clone_int_int.f at h
  by_cases hl : l0.length ≤ 17592186044416
  rotate_left
  · rw [if_neg hl] at h
    exact absurd h (by simp)
  rw [if_pos hl] at h
  obtain rfl := Option.some.inj h
  have LM := zM hl
  clear h hl
  have HR0 := zM hr0
  have HC0 := zM hc0
  clear hr0 hc0
  have HB := zM (Below.refl w.heap.size w)
  have q22 : ∀ (w : World) (a : Option Addr) (n c n' c' : Nat), (binOp .eql 24 (.slice a n c) (.slice none n' c')).run Try.prog w = .ok (.bool a.isNone) w := fun w a n c n' c' => Lib.run_eql_slice_nil w _ _ a n c n' c' Try.underlying24
  cases A0 with
  | none =>
    have hz : l0 = [] := by
      cases l0 with
      | nil => rfl
      | cons x xs => obtain ⟨ad, e, _⟩ := HR0.1.2.2 (by simp); cases e
    subst hz
    go_enter Try.func41, Try.ntmps41
    go_wp2
    go_ret
    exact ⟨_, rfl, Kd.R_nil _ _ _ _ _, Below.refl _ _⟩
  | some ad =>
    obtain ⟨y1, hy1⟩ : ∃ y_ : List Int, y_ = ([] : List Int) := ⟨_, rfl⟩
    have Ny1 := zM hy1
    clear hy1
    go_enter Try.func41, Try.ntmps41
    go_wp2_with (first | ((with_reducible refine gate_dst (N := 5) rfl ?_); refine Kd.R_lit (Kd.int .i64) _ 3 ?hg (N := 5) ?hd (xs := ([] : List Int)) (inner := []) (ok := fun _ => True) (okp := fun _ => True) ?hr ?hp (fun _ hk => hk) trivial (Below.refl _ _) (Nat.le_refl _) (by simp) ?_; (case hd => rfl); (case hg => rfl); (case hr => exact zHH); (case hp => exact (Reps.none _ _)); intro v461 w5 ho6 hb hg_ hnew_; clear hg_ hnew_; (first | rw [← Ny1.1] at ho6 | (simp only [Int.reduceToNat] at ho6; rw [← Ny1.1] at ho6)); have n0_ := zM (Kd.R_lower ho6 (below_size HB.1)); have n3_ := zM (below_step HB.1 hb); clear HB; have HO462 := n0_; have HB := n3_; clear n0_ n3_; clear hb ho6) | ((with_reducible refine gate_builtin (b := .append) (xs := #[.tmp 5, .tmp 6]) rfl ?_); at_builtin; refine Kd.R_append_rows (Kd.int .i64) (w0 := w) w.heap.size rfl (.tmp 5) (.tmp 6) 24 3 (.int .i64 0) 8 rfl Try.underlying24 info3 rfl (by decide) (by omega) v461 y1 l0 _ _ _ (fun _ => True) (fun _ => False) rfl rfl ?aO ?aR (fun _ _ h => h) (fun _ h => h.elim) ?aF ?aB ?aS ?aL ?_; (case aR => exact zC (Kd.C_below HR0.1 HB.1)); (case aB => exact zB0); (case aF => exact (fun _ _ => trivial)); (case aO => exact (zR HO462.1)); (case aS => exact (below_size zB0)); (case aL => have h1_ := LM.out; have h2_ : y1.length = 0 := (by rw [Ny1.1]; rfl); rw [h2_]; omega); intro v464 w9 ho hb hg hat; rw [Ny1.1, List.nil_append] at ho; have n2_ := zM hb; have n3_ := zM ho; clear HB; clear HO462; have HB := n2_; have HO465 := n3_; clear n2_ n3_; clear ho hb hg hat))
    go_ret
    exact ⟨_, rfl, HO465.1, HB.1⟩

/-! ### impl_form: function 116 -/
mutual
def impl_form.j0 : Nat → Int → Bool → Option (ByteArray × Bool)
  | 0, _, _ => none
  | k + 1, x4, x7 => if x7 = true then (some ((⟨#[82, 65, 66]⟩ : ByteArray), true)) else (if x4 = 3 then (impl_form.j1 k x4 (x4 == 3)) else (impl_form.j1 k x4 (x4 == 4)))
def impl_form.j1 : Nat → Int → Bool → Option (ByteArray × Bool)
  | 0, _, _ => none
  | k + 1, x4, x10 => if x10 = true then (some ((⟨#[82, 65, 78]⟩ : ByteArray), true)) else (if x4 = 5 then (some ((⟨#[65, 66, 78]⟩ : ByteArray), true)) else (if x4 = 6 then (some ((⟨#[82, 65, 66, 78]⟩ : ByteArray), true)) else (if x4 = 7 then (some ((⟨#[65, 78]⟩ : ByteArray), true)) else (if x4 = 8 then (some ((⟨#[78]⟩ : ByteArray), true)) else (if x4 = 9 then (some ((⟨#[]⟩ : ByteArray), true)) else (some ((⟨#[]⟩ : ByteArray), false)))))))
end
def impl_form.f (k : Nat) (a0 : Int) : Option (ByteArray × Bool) := if a0 = 1 then (some ((⟨#[82, 78]⟩ : ByteArray), true)) else (if a0 = 2 then (impl_form.j0 k a0 (a0 == 2)) else (impl_form.j0 k a0 (a0 == 10)))
theorem impl_form.mono_l : ∀ k, (∀ y0 y1, LeO (impl_form.j0 k y0 y1) (impl_form.j0 (k + 1) y0 y1)) ∧ (∀ y0 y1, LeO (impl_form.j1 k y0 y1) (impl_form.j1 (k + 1) y0 y1))
  | 0 => ⟨fun _ _ r h => by simp [impl_form.j0] at h, fun _ _ r h => by simp [impl_form.j1] at h⟩
  | k + 1 => by
    obtain ⟨ih0, ih1⟩ := impl_form.mono_l k
    refine ⟨?_, ?_⟩
    · intro y0 y1
      unfold impl_form.j0
      exact zL
    · intro y0 y1
      unfold impl_form.j1
      exact zL
theorem impl_form.mono : ∀ a0 k, LeO (impl_form.f k a0) (impl_form.f (k + 1) a0) := by
  intro a0 k
  obtain ⟨ih0, ih1⟩ := impl_form.mono_l k
  unfold impl_form.f
  exact zL
theorem impl_form.calls (k : Nat) (a0 : Int) (r1 : ByteArray) (r2 : Bool) (w : World) (h : impl_form.f k a0 = some (r1, r2)) :
    Calls Try.prog 116 #[.int .i64 a0] w fun e w' => e = .returned (.tuple #[.string r1, .bool r2]) ∧ Drawn0 w w' := by
  unfold impl_form.f at h
  have H := h
  clear h
  by_cases c2 : a0 = 1
  · rw [if_pos c2] at H
    have c2b0 : (a0 == 1) = true := beq_iff_eq.mpr c2
    have c2b1 : (a0 != 1) = false := bne_eq_false_iff_eq.mpr c2
    clear c2
    simp only [Option.some.injEq, Prod.mk.injEq] at H
    obtain ⟨rfl, rfl⟩ := H
    go_enter Try.func116, Try.ntmps116
    go_wp2
    go_ret2
    exact ⟨zJJ, zDD⟩
  rw [if_neg c2] at H
  have c2b0 : (a0 == 1) = false := beq_eq_false_iff_ne.mpr c2
  have c2b1 : (a0 != 1) = true := bne_iff_ne.mpr c2
  have HC3 := zM H
  clear H
  go_enter Try.func116, Try.ntmps116
  go_upto_if 7 with (fail)
  go_cut [7] (fun v7 wc => ∃ (kq : Nat) (x7_2 : Bool), v7 = .bool x7_2 ∧ Aside0 (impl_form.j0 kq a0 x7_2 = some (r1, r2)) ∧ Aside0 (kq ≤ k) ∧ Drawn0 w wc)
  case first =>
    have H := HC3.1
    clear HC3
    by_cases c4 : a0 = 2
    rotate_left
    · rw [if_neg c4] at H
      have c4b0 : (a0 == 2) = false := beq_eq_false_iff_ne.mpr c4
      have c4b1 : (a0 != 2) = true := bne_iff_ne.mpr c4
      (first | rw [c4b0] | (simp only [i64_w, i32_w]; rw [c4b0]) | skip)
      have H' := zM H
      clear H
      go_wp2
      go_meet
      case rel => exact ⟨_, ((a0 == 10)), zJJ, H', ⟨by first | omega | exact Nat.le_refl _⟩, zDD⟩
    rw [if_pos c4] at H
    have c4b0 : (a0 == 2) = true := beq_iff_eq.mpr c4
    have c4b1 : (a0 != 2) = false := bne_eq_false_iff_eq.mpr c4
    clear c4
    (first | rw [c4b0] | (simp only [i64_w, i32_w]; rw [c4b0]) | skip)
    have H' := zM H
    clear H
    go_wp2
    go_meet
    case rel => exact ⟨_, ((a0 == 2)), zJJ, H', ⟨by first | omega | exact Nat.le_refl _⟩, zDD⟩
  case rest =>
    clear HC3
    obtain ⟨kq, x7_2, rfl, HA, HJ2, ⟨mc2, rfl⟩⟩ := hcut
    cases kq with
    | zero => exact absurd HA.1 (by simp [impl_form.j0])
    | succ kj2 =>
      have H := HA.1
      clear HA
      simp only [impl_form.j0] at H
      by_cases c5 : x7_2 = true
      · subst c5
        rw [if_pos rfl] at H
        simp only [Option.some.injEq, Prod.mk.injEq] at H
        obtain ⟨rfl, rfl⟩ := H
        go_wp2
        go_ret2
        exact ⟨zJJ, zDD⟩
      replace c5 := Bool.eq_false_iff.mpr c5
      subst c5
      rw [if_neg zF] at H
      have HC6 := zM H
      clear H
      go_upto_if 10 with (fail)
      go_cut [10] (fun v10 wc => ∃ (kq : Nat) (x10_5 : Bool), v10 = .bool x10_5 ∧ Aside0 (impl_form.j1 kq a0 x10_5 = some (r1, r2)) ∧ Aside0 (kq ≤ kj2) ∧ Drawn0 w wc)
      case first =>
        have H := HC6.1
        clear HC6
        by_cases c7 : a0 = 3
        rotate_left
        · rw [if_neg c7] at H
          have c7b0 : (a0 == 3) = false := beq_eq_false_iff_ne.mpr c7
          have c7b1 : (a0 != 3) = true := bne_iff_ne.mpr c7
          (first | rw [c7b0] | (simp only [i64_w, i32_w]; rw [c7b0]) | skip)
          have H' := zM H
          clear H
          go_wp2
          go_meet
          case rel => exact ⟨_, ((a0 == 4)), zJJ, H', ⟨by have := HJ2.1; first | omega | exact Nat.le_refl _⟩, zDD⟩
        rw [if_pos c7] at H
        have c7b0 : (a0 == 3) = true := beq_iff_eq.mpr c7
        have c7b1 : (a0 != 3) = false := bne_eq_false_iff_eq.mpr c7
        clear c7
        (first | rw [c7b0] | (simp only [i64_w, i32_w]; rw [c7b0]) | skip)
        have H' := zM H
        clear H
        go_wp2
        go_meet
        case rel => exact ⟨_, ((a0 == 3)), zJJ, H', ⟨by have := HJ2.1; first | omega | exact Nat.le_refl _⟩, zDD⟩
      case rest =>
        clear HC6
        obtain ⟨kq, x10_5, rfl, HA, HJ5, ⟨mc5, rfl⟩⟩ := hcut
        cases kq with
        | zero => exact absurd HA.1 (by simp [impl_form.j1])
        | succ kj5 =>
          have H := HA.1
          clear HA
          simp only [impl_form.j1] at H
          by_cases c8 : x10_5 = true
          · subst c8
            rw [if_pos rfl] at H
            simp only [Option.some.injEq, Prod.mk.injEq] at H
            obtain ⟨rfl, rfl⟩ := H
            go_wp2
            go_ret2
            exact ⟨zJJ, zDD⟩
          replace c8 := Bool.eq_false_iff.mpr c8
          subst c8
          rw [if_neg zF] at H
          by_cases c9 : a0 = 5
          · rw [if_pos c9] at H
            have c9b0 : (a0 == 5) = true := beq_iff_eq.mpr c9
            have c9b1 : (a0 != 5) = false := bne_eq_false_iff_eq.mpr c9
            clear c9
            simp only [Option.some.injEq, Prod.mk.injEq] at H
            obtain ⟨rfl, rfl⟩ := H
            go_wp2
            go_ret2
            exact ⟨zJJ, zDD⟩
          rw [if_neg c9] at H
          have c9b0 : (a0 == 5) = false := beq_eq_false_iff_ne.mpr c9
          have c9b1 : (a0 != 5) = true := bne_iff_ne.mpr c9
          by_cases c10 : a0 = 6
          · rw [if_pos c10] at H
            have c10b0 : (a0 == 6) = true := beq_iff_eq.mpr c10
            have c10b1 : (a0 != 6) = false := bne_eq_false_iff_eq.mpr c10
            clear c10
            simp only [Option.some.injEq, Prod.mk.injEq] at H
            obtain ⟨rfl, rfl⟩ := H
            go_wp2
            go_ret2
            exact ⟨zJJ, zDD⟩
          rw [if_neg c10] at H
          have c10b0 : (a0 == 6) = false := beq_eq_false_iff_ne.mpr c10
          have c10b1 : (a0 != 6) = true := bne_iff_ne.mpr c10
          by_cases c11 : a0 = 7
          · rw [if_pos c11] at H
            have c11b0 : (a0 == 7) = true := beq_iff_eq.mpr c11
            have c11b1 : (a0 != 7) = false := bne_eq_false_iff_eq.mpr c11
            clear c11
            simp only [Option.some.injEq, Prod.mk.injEq] at H
            obtain ⟨rfl, rfl⟩ := H
            go_wp2
            go_ret2
            exact ⟨zJJ, zDD⟩
          rw [if_neg c11] at H
          have c11b0 : (a0 == 7) = false := beq_eq_false_iff_ne.mpr c11
          have c11b1 : (a0 != 7) = true := bne_iff_ne.mpr c11
          by_cases c12 : a0 = 8
          · rw [if_pos c12] at H
            have c12b0 : (a0 == 8) = true := beq_iff_eq.mpr c12
            have c12b1 : (a0 != 8) = false := bne_eq_false_iff_eq.mpr c12
            clear c12
            simp only [Option.some.injEq, Prod.mk.injEq] at H
            obtain ⟨rfl, rfl⟩ := H
            go_wp2
            go_ret2
            exact ⟨zJJ, zDD⟩
          rw [if_neg c12] at H
          have c12b0 : (a0 == 8) = false := beq_eq_false_iff_ne.mpr c12
          have c12b1 : (a0 != 8) = true := bne_iff_ne.mpr c12
          by_cases c13 : a0 = 9
          rotate_left
          · rw [if_neg c13] at H
            have c13b0 : (a0 == 9) = false := beq_eq_false_iff_ne.mpr c13
            have c13b1 : (a0 != 9) = true := bne_iff_ne.mpr c13
            simp only [Option.some.injEq, Prod.mk.injEq] at H
            obtain ⟨rfl, rfl⟩ := H
            go_wp2
            go_ret2
            exact ⟨zJJ, zDD⟩
          rw [if_pos c13] at H
          have c13b0 : (a0 == 9) = true := beq_iff_eq.mpr c13
          have c13b1 : (a0 != 9) = false := bne_eq_false_iff_eq.mpr c13
          clear c13
          simp only [Option.some.injEq, Prod.mk.injEq] at H
          obtain ⟨rfl, rfl⟩ := H
          go_wp2
          go_ret2
          exact ⟨zJJ, zDD⟩

-- NOT PRINTED: function 117 (impl_Ins_place)

/-! ### impl_InsOk: function 91 -/
def placeOff (c : Int) : Nat := if c = 82 then 1 else if c = 65 then 2 else if c = 66 then 3 else 4
theorem place_calls (g : Nat) (c : Int) (w : World) :
    Calls Try.prog 117 #[.pointer (some ⟨g, 0, none⟩), .int .u8 c] w fun e w' => e = .returned (.pointer (some ⟨g, placeOff c, none⟩)) ∧ w' = w := by
  by_cases c1 : c = 82
  · have e1 : (c == 82) = true := beq_iff_eq.mpr c1
    have ho : placeOff c = 1 := by simp [placeOff, c1]
    have Ho := zM ho
    clear c1 ho
    go_enter Try.func117, Try.ntmps117
    go_wp2
    go_ret
    exact ⟨congrArg (fun o => Ending.returned (Value.pointer (some ⟨g, o, none⟩))) Ho.out.symm, rfl⟩
  have e1 : (c == 82) = false := beq_eq_false_iff_ne.mpr c1
  by_cases c2 : c = 65
  · have e2 : (c == 65) = true := beq_iff_eq.mpr c2
    have ho : placeOff c = 2 := by simp [placeOff, c2]
    have Ho := zM ho
    clear c1 c2 ho
    go_enter Try.func117, Try.ntmps117
    go_wp2
    go_ret
    exact ⟨congrArg (fun o => Ending.returned (Value.pointer (some ⟨g, o, none⟩))) Ho.out.symm, rfl⟩
  have e2 : (c == 65) = false := beq_eq_false_iff_ne.mpr c2
  by_cases c3 : c = 66
  · have e3 : (c == 66) = true := beq_iff_eq.mpr c3
    have ho : placeOff c = 3 := by simp [placeOff, c3]
    have Ho := zM ho
    clear c1 c2 c3 ho
    go_enter Try.func117, Try.ntmps117
    go_wp2
    go_ret
    exact ⟨congrArg (fun o => Ending.returned (Value.pointer (some ⟨g, o, none⟩))) Ho.out.symm, rfl⟩
  have e3 : (c == 66) = false := beq_eq_false_iff_ne.mpr c3
  have ho : placeOff c = 4 := by simp [placeOff, c1, c2, c3]
  have Ho := zM ho
  clear c1 c2 c3 ho
  go_enter Try.func117, Try.ntmps117
  go_wp2
  go_ret
  exact ⟨congrArg (fun o => Ending.returned (Value.pointer (some ⟨g, o, none⟩))) Ho.out.symm, rfl⟩

/-- The five numbers, one of them put. -/
def insPut (c : Int) (x s : Int × Int × Int × Int × Int) : Int × Int × Int × Int × Int :=
  if c = 82 then (s.1, x.2.1, s.2.2.1, s.2.2.2.1, s.2.2.2.2) else if c = 65 then (s.1, s.2.1, x.2.2.1, s.2.2.2.1, s.2.2.2.2) else if c = 66 then (s.1, s.2.1, s.2.2.1, x.2.2.2.1, s.2.2.2.2) else (s.1, s.2.1, s.2.2.1, s.2.2.2.1, x.2.2.2.2)
def insCells (s : Int × Int × Int × Int × Int) : Array Value := #[.int .i64 s.1, .int .i64 s.2.1, .int .i64 s.2.2.1, .int .i64 s.2.2.2.1, .int .i64 s.2.2.2.2]
def insPick (x : Int × Int × Int × Int × Int) (c : Int) : Int := if c = 82 then x.2.1 else if c = 65 then x.2.2.1 else if c = 66 then x.2.2.2.1 else x.2.2.2.2
theorem insCells_get (x : Int × Int × Int × Int × Int) (c : Int) : (insCells x)[placeOff c]? = some (.int .i64 (insPick x c)) := by
  unfold insCells placeOff insPick; split <;> (try split) <;> (try split) <;> rfl
theorem insCells_put (x s : Int × Int × Int × Int × Int) (c : Int) : (insCells s).setIfInBounds (placeOff c) (.int .i64 (insPick x c)) = insCells (insPut c x s) := by
  unfold insCells placeOff insPick insPut; split <;> (try split) <;> (try split) <;> rfl
def insFold (s : ByteArray) (x : Int × Int × Int × Int × Int) (n : Nat) : Int × Int × Int × Int × Int := (List.range n).foldl (fun a (i : Nat) => insPut (bt s (i : Int)) x a) (x.1, 0, 0, 0, 0)

theorem insFold_succ (s : ByteArray) (x : Int × Int × Int × Int × Int) (n : Nat) : insFold s x (n + 1) = insPut (bt s (n : Int)) x (insFold s x n) := by
  unfold insFold; rw [List.range_succ, List.foldl_append]; rfl
theorem insOk_calls (k : Nat) (x0 x1 x2 x3 x4 : Int) (s : ByteArray) (ok : Bool) (w : World) (hs : s.size ≤ 4) (hf : impl_form.f k x0 = some (s, ok)) (y0 y1 y2 y3 y4 : Int) (hy : insFold s (x0, x1, x2, x3, x4) s.size = (y0, y1, y2, y3, y4)) (b1 b2 b3 b4 : Bool) (h1 : impl_from.f x1 0 3 = some b1) (h2 : impl_from.f x2 0 3 = some b2) (h3 : impl_from.f x3 0 3 = some b3) (h4 : impl_from.f x4 0 63 = some b4) :
    Calls Try.prog 91 #[.agg #[.int .i64 x0, .int .i64 x1, .int .i64 x2, .int .i64 x3, .int .i64 x4]] w fun e w' => e = .returned (.bool (ok && ((y0 == x0 && (y1 == x1 && (y2 == x2 && (y3 == x3 && (y4 == x4))))) && (b1 && (b2 && (b3 && b4)))))) ∧ Below w.heap.size w w' := by
  have hu59 := Try.underlying58
  have HF := zM hf
  have HY := zM hy
  have F1 := zM h1
  have F2 := zM h2
  have F3 := zM h3
  have F4 := zM h4
  clear hf hy h1 h2 h3 h4
  have HB := zM (Below.refl w.heap.size w)
  go_enter Try.func91, Try.ntmps91
  go_wp2_with (first
    | ((with_reducible refine zBx 1 59 #[.int .i64 x0, .int .i64 x1, .int .i64 x2, .int .i64 x3, .int .i64 x4] ?_); intro g1 hg w1 hbox hb; have BK1 := zM hbox; have HB1 := zM (below_step HB.1 hb); have GE1 := zM (by rw [hg]; exact Nat.le_refl _ : w.heap.size ≤ g1); clear hb hbox hg; have hcz0 : w1.cell? ⟨g1, 0, none⟩ = some (.int .i64 x0) := (blk_cell BK1.1 0).trans rfl)
    | ((with_reducible refine zBx 5 59 #[.int .i64 0, .int .i64 0, .int .i64 0, .int .i64 0, .int .i64 0] ?_); intro g2 hg w2 hbox hb; have hne := zM (by rw [hg]; exact Nat.ne_of_lt (blk_lt (blk_drewN BK1.1 _)) : g1 ≠ g2); have BK2 := zM hbox; have HB2 := zM (below_step zB22 hb); have BK1' := zM (blk_below (zJ BK1.1) hb); have GE2 := zM (by rw [hg]; exact below_size zB22 : w.heap.size ≤ g2); clear hb hbox hg BK1 HB1 HB; have hcy0 := (blk_cell BK2.1 0).trans rfl; have hcy1 := (blk_cell BK2.1 1).trans rfl; have hcy2 := (blk_cell BK2.1 2).trans rfl; have hcy3 := (blk_cell BK2.1 3).trans rfl; have hcy4 := (blk_cell BK2.1 4).trans rfl; have hfy0 := blk_frozen BK2.1 0; have hfy1 := blk_frozen BK2.1 1; have hfy2 := blk_frozen BK2.1 2; have hfy3 := blk_frozen BK2.1 3; have hfy4 := blk_frozen BK2.1 4)
    | (go_at_call 116; refine (impl_form.calls k x0 s ok _ HF.out).mono ?_; rintro e w' ⟨rfl, ⟨nd, rfl⟩⟩))
  clear hcz0 hcy0 hcy1 hcy2 hcy3 hcy4 hfy0 hfy1 hfy2 hfy3 hfy4
  go_loopw [18] (fun v wr => ∃ i : Nat, Aside0 (i ≤ s.size) ∧ v = .int .i64 i ∧ Aside0 (wr.heap[g1]? = some (.cells (insCells (x0, x1, x2, x3, x4)) 59 (0, 0))) ∧ Aside0 (wr.heap[g2]? = some (.cells (insCells (insFold s (x0, x1, x2, x3, x4) i)) 59 (0, 0))) ∧ Aside0 (Below w.heap.size w wr)) (fun v _ => s.size - (intOf v).toNat)
  case atStart =>
    refine ⟨0, ⟨Nat.zero_le _⟩, rfl, ⟨?_⟩, ⟨?_⟩, ⟨?_⟩⟩
    · refine blk_far (blk_far (blk_far (blk_far (blk_far BK1'.out ?_ _) ?_ _) ?_ _) ?_ _) ?_ _ <;> exact hne.out
    · exact blk_set (blk_set (blk_set (blk_set (blk_set BK2.1 0 _) 1 _) 2 _) 3 _) 4 _
    · exact below_set (below_set (below_set (below_set (below_set HB2.1 GE2.1) GE2.1) GE2.1) GE2.1) GE2.1
  case round =>
    obtain ⟨i, hi, rfl, BK1, BK2, HB⟩ := hrel
    by_cases hlt : i < s.size
    · have hbt : bt s (i : Int) = ((s[i].toNat : Nat) : Int) := (bt_at s (i : Int) (by simpa using hlt)).symm
      have HBT := zM hbt
      clear hbt
      have hld : wr.cell? ⟨g1, placeOff ((s[i].toNat : Nat) : Int), none⟩ = some (.int .i64 (insPick (x0, x1, x2, x3, x4) ((s[i].toNat : Nat) : Int))) := (blk_cell BK1.1 _).trans (insCells_get _ _)
      have hst : wr.cell? ⟨g2, placeOff ((s[i].toNat : Nat) : Int), none⟩ = some (.int .i64 (insPick (insFold s (x0, x1, x2, x3, x4) i) ((s[i].toNat : Nat) : Int))) := (blk_cell BK2.1 _).trans (insCells_get _ _)
      have hfz := blk_frozen BK2.1 (placeOff ((s[i].toNat : Nat) : Int))
      have H1 := zM hst
      have H2 := zM hfz
      clear hst hfz
      go_wp2_with fail
      go_still_tail 11, (by kernel_rfl)
      still_call (place_calls _ _ _)
      repeat still_step
      still_call (place_calls _ _ _)
      repeat still_step
      refine wpStill_nil ?_
      change wpList _ _ _ _ _ wr.drew
      have hst := H1.out
      have hfz := H2.out
      go_wp2
      go_roundw
      case rel =>
        refine ⟨i + 1, ⟨hlt⟩, by go_num, ⟨?_⟩, ⟨?_⟩, ⟨?_⟩⟩
        · exact blk_far (blk_drew BK1.1) hne.out _
        · rw [insFold_succ, HBT.out, ← insCells_put]; exact blk_set (blk_drew BK2.1) _ _
        · exact below_set (below_drew1 HB.1) GE2.1
      case measure => simp [intOf]; omega
    have HN := zM hlt
    have hi' : i = s.size := by have := hi.out; omega
    subst hi'
    have BK2' : wr.heap[g2]? = some (.cells #[.int .i64 y0, .int .i64 y1, .int .i64 y2, .int .i64 y3, .int .i64 y4] 59 (0, 0)) := by have h_ := BK2.1; rw [HY.out] at h_; exact h_
    clear BK2
    have hcx0 : wr.cell? ⟨g1, 0, none⟩ = some (.int .i64 x0) := (blk_cell BK1.1 0).trans rfl
    have hcx1 : wr.cell? ⟨g1, 1, none⟩ = some (.int .i64 x1) := (blk_cell BK1.1 1).trans rfl
    have hcx2 : wr.cell? ⟨g1, 2, none⟩ = some (.int .i64 x2) := (blk_cell BK1.1 2).trans rfl
    have hcx3 : wr.cell? ⟨g1, 3, none⟩ = some (.int .i64 x3) := (blk_cell BK1.1 3).trans rfl
    have hcx4 : wr.cell? ⟨g1, 4, none⟩ = some (.int .i64 x4) := (blk_cell BK1.1 4).trans rfl
    have hcy0 : wr.cell? ⟨g2, 0, none⟩ = some (.int .i64 y0) := (blk_cell BK2' 0).trans rfl
    have hcy1 : wr.cell? ⟨g2, 1, none⟩ = some (.int .i64 y1) := (blk_cell BK2' 1).trans rfl
    have hcy2 : wr.cell? ⟨g2, 2, none⟩ = some (.int .i64 y2) := (blk_cell BK2' 2).trans rfl
    have hcy3 : wr.cell? ⟨g2, 3, none⟩ = some (.int .i64 y3) := (blk_cell BK2' 3).trans rfl
    have hcy4 : wr.cell? ⟨g2, 4, none⟩ = some (.int .i64 y4) := (blk_cell BK2' 4).trans rfl
    clear BK1 BK2'
    cases ok
    · go_wp2_with (first | (go_at_call 43; with_reducible refine (impl_from.calls x1 0 3 _ _ F1.out).mono ?_; rintro e w' ⟨rfl, ⟨nd, rfl⟩⟩) | (go_at_call 43; with_reducible refine (impl_from.calls x2 0 3 _ _ F2.out).mono ?_; rintro e w' ⟨rfl, ⟨nd, rfl⟩⟩) | (go_at_call 43; with_reducible refine (impl_from.calls x3 0 3 _ _ F3.out).mono ?_; rintro e w' ⟨rfl, ⟨nd, rfl⟩⟩) | (go_at_call 43; with_reducible refine (impl_from.calls x4 0 63 _ _ F4.out).mono ?_; rintro e w' ⟨rfl, ⟨nd, rfl⟩⟩))
      go_ret
      exact ⟨rfl, by repeat (first | exact HB.1 | apply pw_below_drewN | apply below_drew1)⟩
    generalize hE : (y0 == x0 && (y1 == x1 && (y2 == x2 && (y3 == x3 && (y4 == x4))))) = E
    cases E
    · go_wp2_with (first | (go_at_call 43; with_reducible refine (impl_from.calls x1 0 3 _ _ F1.out).mono ?_; rintro e w' ⟨rfl, ⟨nd, rfl⟩⟩) | (go_at_call 43; with_reducible refine (impl_from.calls x2 0 3 _ _ F2.out).mono ?_; rintro e w' ⟨rfl, ⟨nd, rfl⟩⟩) | (go_at_call 43; with_reducible refine (impl_from.calls x3 0 3 _ _ F3.out).mono ?_; rintro e w' ⟨rfl, ⟨nd, rfl⟩⟩) | (go_at_call 43; with_reducible refine (impl_from.calls x4 0 63 _ _ F4.out).mono ?_; rintro e w' ⟨rfl, ⟨nd, rfl⟩⟩))
      go_ret
      exact ⟨by rw [hE]; rfl, by repeat (first | exact HB.1 | apply pw_below_drewN | apply below_drew1)⟩
    cases b1
    · go_wp2_with (first | (go_at_call 43; with_reducible refine (impl_from.calls x1 0 3 _ _ F1.out).mono ?_; rintro e w' ⟨rfl, ⟨nd, rfl⟩⟩) | (go_at_call 43; with_reducible refine (impl_from.calls x2 0 3 _ _ F2.out).mono ?_; rintro e w' ⟨rfl, ⟨nd, rfl⟩⟩) | (go_at_call 43; with_reducible refine (impl_from.calls x3 0 3 _ _ F3.out).mono ?_; rintro e w' ⟨rfl, ⟨nd, rfl⟩⟩) | (go_at_call 43; with_reducible refine (impl_from.calls x4 0 63 _ _ F4.out).mono ?_; rintro e w' ⟨rfl, ⟨nd, rfl⟩⟩))
      go_ret
      exact ⟨by rw [hE]; rfl, by repeat (first | exact HB.1 | apply pw_below_drewN | apply below_drew1)⟩
    cases b2
    · go_wp2_with (first | (go_at_call 43; with_reducible refine (impl_from.calls x1 0 3 _ _ F1.out).mono ?_; rintro e w' ⟨rfl, ⟨nd, rfl⟩⟩) | (go_at_call 43; with_reducible refine (impl_from.calls x2 0 3 _ _ F2.out).mono ?_; rintro e w' ⟨rfl, ⟨nd, rfl⟩⟩) | (go_at_call 43; with_reducible refine (impl_from.calls x3 0 3 _ _ F3.out).mono ?_; rintro e w' ⟨rfl, ⟨nd, rfl⟩⟩) | (go_at_call 43; with_reducible refine (impl_from.calls x4 0 63 _ _ F4.out).mono ?_; rintro e w' ⟨rfl, ⟨nd, rfl⟩⟩))
      go_ret
      exact ⟨by rw [hE]; rfl, by repeat (first | exact HB.1 | apply pw_below_drewN | apply below_drew1)⟩
    cases b3
    · go_wp2_with (first | (go_at_call 43; with_reducible refine (impl_from.calls x1 0 3 _ _ F1.out).mono ?_; rintro e w' ⟨rfl, ⟨nd, rfl⟩⟩) | (go_at_call 43; with_reducible refine (impl_from.calls x2 0 3 _ _ F2.out).mono ?_; rintro e w' ⟨rfl, ⟨nd, rfl⟩⟩) | (go_at_call 43; with_reducible refine (impl_from.calls x3 0 3 _ _ F3.out).mono ?_; rintro e w' ⟨rfl, ⟨nd, rfl⟩⟩) | (go_at_call 43; with_reducible refine (impl_from.calls x4 0 63 _ _ F4.out).mono ?_; rintro e w' ⟨rfl, ⟨nd, rfl⟩⟩))
      go_ret
      exact ⟨by rw [hE]; rfl, by repeat (first | exact HB.1 | apply pw_below_drewN | apply below_drew1)⟩
    go_wp2_with (first | (go_at_call 43; with_reducible refine (impl_from.calls x1 0 3 _ _ F1.out).mono ?_; rintro e w' ⟨rfl, ⟨nd, rfl⟩⟩) | (go_at_call 43; with_reducible refine (impl_from.calls x2 0 3 _ _ F2.out).mono ?_; rintro e w' ⟨rfl, ⟨nd, rfl⟩⟩) | (go_at_call 43; with_reducible refine (impl_from.calls x3 0 3 _ _ F3.out).mono ?_; rintro e w' ⟨rfl, ⟨nd, rfl⟩⟩) | (go_at_call 43; with_reducible refine (impl_from.calls x4 0 63 _ _ F4.out).mono ?_; rintro e w' ⟨rfl, ⟨nd, rfl⟩⟩))
    go_ret
    exact ⟨by rw [hE]; rfl, by repeat (first | exact HB.1 | apply pw_below_drewN | apply below_drew1)⟩
/-- Is it an Ins: what an Op does not have is 0; the others in range. -/
def insOkB (o r a b n : Int) : Bool :=
  (if o = 1 then decide (a = 0) && decide (b = 0) else if o = 2 then decide (n = 0) else if o = 3 then decide (b = 0) else if o = 4 then decide (b = 0) else if o = 5 then decide (r = 0) else if o = 6 then true
   else if o = 7 then decide (r = 0) && decide (b = 0) else if o = 8 then decide (r = 0) && (decide (a = 0) && decide (b = 0)) else if o = 9 then decide (r = 0) && (decide (a = 0) && (decide (b = 0) && decide (n = 0))) else if o = 10 then decide (n = 0) else false)
  && (decide (0 ≤ r ∧ r ≤ 3) && (decide (0 ≤ a ∧ a ≤ 3) && (decide (0 ≤ b ∧ b ≤ 3) && decide (0 ≤ n ∧ n ≤ 63))))
def impl_InsOk.f (a0_0 a0_1 a0_2 a0_3 a0_4 : Int) : Option Bool := some (insOkB a0_0 a0_1 a0_2 a0_3 a0_4)
theorem insFrom (x lo hi : Int) : impl_from.f x lo hi = some (decide (lo ≤ x ∧ x ≤ hi)) := by
  unfold impl_from.f
  by_cases h : x ≥ lo
  · rw [if_pos h]; have h' : lo ≤ x := h; simp [h']
  rw [if_neg h]; have h' : ¬ lo ≤ x := h; simp [h']
theorem insBeq (x y : Int) : (x == y) = decide (y = x) := by
  by_cases h : x = y
  · subst h; simp
  have h' : ¬ y = x := fun e => h e.symm
  simp [h, h']
theorem insForm (x0 x1 x2 x3 x4 : Int) : ∃ (s : ByteArray) (ok : Bool) (y0 y1 y2 y3 y4 : Int), s.size ≤ 4 ∧ impl_form.f 3 x0 = some (s, ok) ∧ insFold s (x0, x1, x2, x3, x4) s.size = (y0, y1, y2, y3, y4) ∧
    (ok && ((y0 == x0 && (y1 == x1 && (y2 == x2 && (y3 == x3 && (y4 == x4))))) && (decide (0 ≤ x1 ∧ x1 ≤ 3) && (decide (0 ≤ x2 ∧ x2 ≤ 3) && (decide (0 ≤ x3 ∧ x3 ≤ 3) && decide (0 ≤ x4 ∧ x4 ≤ 63)))))) = insOkB x0 x1 x2 x3 x4 := by
  by_cases h1 : x0 = 1
  · subst h1; exact ⟨⟨#[82, 78]⟩, true, 1, x1, 0, 0, x4, by decide, rfl, rfl, by simp [insOkB, insBeq, Bool.and_assoc]⟩
  by_cases h2 : x0 = 2
  · subst h2; exact ⟨⟨#[82, 65, 66]⟩, true, 2, x1, x2, x3, 0, by decide, rfl, rfl, by simp [insOkB, insBeq, Bool.and_assoc]⟩
  by_cases h3 : x0 = 3
  · subst h3; exact ⟨⟨#[82, 65, 78]⟩, true, 3, x1, x2, 0, x4, by decide, rfl, rfl, by simp [insOkB, insBeq, Bool.and_assoc]⟩
  by_cases h4 : x0 = 4
  · subst h4; exact ⟨⟨#[82, 65, 78]⟩, true, 4, x1, x2, 0, x4, by decide, rfl, rfl, by simp [insOkB, insBeq, Bool.and_assoc]⟩
  by_cases h5 : x0 = 5
  · subst h5; exact ⟨⟨#[65, 66, 78]⟩, true, 5, 0, x2, x3, x4, by decide, rfl, rfl, by simp [insOkB, insBeq, Bool.and_assoc]⟩
  by_cases h6 : x0 = 6
  · subst h6; exact ⟨⟨#[82, 65, 66, 78]⟩, true, 6, x1, x2, x3, x4, by decide, rfl, rfl, by simp [insOkB, insBeq, Bool.and_assoc]⟩
  by_cases h7 : x0 = 7
  · subst h7; exact ⟨⟨#[65, 78]⟩, true, 7, 0, x2, 0, x4, by decide, rfl, rfl, by simp [insOkB, insBeq, Bool.and_assoc]⟩
  by_cases h8 : x0 = 8
  · subst h8; exact ⟨⟨#[78]⟩, true, 8, 0, 0, 0, x4, by decide, rfl, rfl, by simp [insOkB, insBeq, Bool.and_assoc]⟩
  by_cases h9 : x0 = 9
  · subst h9; exact ⟨⟨#[]⟩, true, 9, 0, 0, 0, 0, by decide, rfl, rfl, by simp [insOkB, insBeq, Bool.and_assoc]⟩
  by_cases h10 : x0 = 10
  · subst h10; exact ⟨⟨#[82, 65, 66]⟩, true, 10, x1, x2, x3, 0, by decide, rfl, rfl, by simp [insOkB, insBeq, Bool.and_assoc]⟩
  exact ⟨⟨#[]⟩, false, x0, 0, 0, 0, 0, by decide, by simp [impl_form.f, impl_form.j0, impl_form.j1, h1, h2, h3, h4, h5, h6, h7, h8, h9, h10], rfl, by simp [insOkB, h1, h2, h3, h4, h5, h6, h7, h8, h9, h10]⟩
theorem impl_InsOk.calls (a0_0 : Int) (a0_1 : Int) (a0_2 : Int) (a0_3 : Int) (a0_4 : Int) (r : Bool) (w : World) (h : impl_InsOk.f a0_0 a0_1 a0_2 a0_3 a0_4 = some r) :
    Calls Try.prog 91 #[.agg #[.int .i64 a0_0, .int .i64 a0_1, .int .i64 a0_2, .int .i64 a0_3, .int .i64 a0_4]] w fun e w' => e = .returned (.bool r) ∧ Below w.heap.size w w' := by
  obtain ⟨s, ok, y0, y1, y2, y3, y4, hs, hf, hy, hb⟩ := insForm a0_0 a0_1 a0_2 a0_3 a0_4
  obtain rfl := Option.some.inj h
  rw [← hb]
  exact insOk_calls 3 _ _ _ _ _ s ok w hs hf y0 y1 y2 y3 y4 hy _ _ _ _ (insFrom _ _ _) (insFrom _ _ _) (insFrom _ _ _) (insFrom _ _ _)

/-! ### impl_Decode: function 87 -/
def impl_Decode.f (a0 : Int) : Option (Int × Int × Int × Int × Int × Bool) := (impl_isWord.f a0).bind fun t257 => (if t257 = true then ((impl_InsOk.f (Int.tmod a0 16) (Int.tmod (wrap64 (Int.tdiv a0 16)) 4) (Int.tmod (wrap64 (Int.tdiv a0 64)) 4) (Int.tmod (wrap64 (Int.tdiv a0 256)) 4) (wrap64 (Int.tdiv a0 1024))).bind fun t259 => (if t259 = true then (some (Int.tmod a0 16, Int.tmod (wrap64 (Int.tdiv a0 16)) 4, Int.tmod (wrap64 (Int.tdiv a0 64)) 4, Int.tmod (wrap64 (Int.tdiv a0 256)) 4, wrap64 (Int.tdiv a0 1024), true)) else (some (0, 0, 0, 0, 0, false)))) else (some (0, 0, 0, 0, 0, false)))
theorem impl_Decode.calls (a0 : Int) (r1 : Int) (r2 : Int) (r3 : Int) (r4 : Int) (r5 : Int) (r6 : Bool) (w : World) (h : impl_Decode.f a0 = some (r1, r2, r3, r4, r5, r6)) :
    Calls Try.prog 87 #[.int .i64 a0] w fun e w' => e = .returned (.tuple #[.agg #[.int .i64 r1, .int .i64 r2, .int .i64 r3, .int .i64 r4, .int .i64 r5], .bool r6]) ∧ Below w.heap.size w w' := by
  have hu59 := Try.underlying59
  have HB := zM (Below.refl w.heap.size w)
  unfold impl_Decode.f at h
  have H := h
  clear h
  replace H := zO H
  obtain ⟨t257, A2, H⟩ := H
  by_cases c3 : t257 = true
  rotate_left
  · replace c3 := Bool.eq_false_iff.mpr c3
    subst c3
    rw [if_neg zF] at H
    simp only [Option.some.injEq, Prod.mk.injEq] at H
    obtain ⟨rfl, rfl, rfl, rfl, rfl, rfl⟩ := H
    go_enter Try.func87, Try.ntmps87
    go_wp2_with (first | ((with_reducible refine zBx 2 59 #[.int .i64 0, .int .i64 0, .int .i64 0, .int .i64 0, .int .i64 0] ?_); intro gb256 hg w19 hbox hb; have BK256 := zM hbox; have GW256 := zM (zW hg (below_size zB0)); have GE256 := zM (zW hg (below_size zB0)); replace HB := zM (below_step zB0 hb); clear hb hbox hg) | ((with_reducible refine zG Try.func72 6 #[.int .i64 a0] ?_); (with_reducible refine (impl_isWord.calls a0 false _ A2.1).mono ?_); rintro e w' ⟨rfl, ⟨nd, rfl⟩⟩; refine ⟨_, rfl, ?_⟩; (try (rw [drewN_self w19]; generalize hq_ : World.drewN w19 _ = w19; have n0_ : Aside0 (w19.heap[gb256]? = some (.cells #[.int .i64 0, .int .i64 0, .int .i64 0, .int .i64 0, .int .i64 0] 59 (0, 0))) := ⟨by rw [← hq_]; exact (zK BK256.1)⟩; have n1_ : Aside0 (Below w.heap.size w w19) := ⟨by rw [← hq_]; exact zB0⟩; clear BK256 HB hq_; have BK256 := n0_; have HB := n1_; clear n0_ n1_)); have hcz20 := zc_5 (w := w19) BK256.1))
    refine bodyPost_ret (results_ct rfl _ _ gb256 59 #[.int .i64 0, .int .i64 0, .int .i64 0, .int .i64 0, .int .i64 0] (0, 0) _ rfl (by exact zp5 (zK BK256.1)) Try.underlying59 rfl (by kernel_rfl)) rfl ?_
    exact ⟨zE, zB0⟩
  subst c3
  rw [if_pos rfl] at H
  replace H := zO H
  obtain ⟨t259, A4, H⟩ := H
  by_cases c5 : t259 = true
  rotate_left
  · replace c5 := Bool.eq_false_iff.mpr c5
    subst c5
    rw [if_neg zF] at H
    simp only [Option.some.injEq, Prod.mk.injEq] at H
    obtain ⟨rfl, rfl, rfl, rfl, rfl, rfl⟩ := H
    go_enter Try.func87, Try.ntmps87
    go_wp2_with (first | ((with_reducible refine zBx 2 59 #[.int .i64 0, .int .i64 0, .int .i64 0, .int .i64 0, .int .i64 0] ?_); intro gb256 hg w13 hbox hb; have BK256 := zM hbox; have GW256 := zM (zW hg (below_size zB0)); have GE256 := zM (zW hg (below_size zB0)); replace HB := zM (below_step zB0 hb); clear hb hbox hg) | ((with_reducible refine zG Try.func72 6 #[.int .i64 a0] ?_); (with_reducible refine (impl_isWord.calls a0 true _ A2.1).mono ?_); rintro e w' ⟨rfl, ⟨nd, rfl⟩⟩; refine ⟨_, rfl, ?_⟩; (try (rw [drewN_self w13]; generalize hq_ : World.drewN w13 _ = w13; have n0_ : Aside0 (w13.heap[gb256]? = some (.cells #[.int .i64 0, .int .i64 0, .int .i64 0, .int .i64 0, .int .i64 0] 59 (0, 0))) := ⟨by rw [← hq_]; exact (zK BK256.1)⟩; have n1_ : Aside0 (Below w.heap.size w w13) := ⟨by rw [← hq_]; exact zB0⟩; clear BK256 HB hq_; have BK256 := n0_; have HB := n1_; clear n0_ n1_))) | ((with_reducible refine zBx 4 59 #[.int .i64 0, .int .i64 0, .int .i64 0, .int .i64 0, .int .i64 0] ?_); intro gb258 hg w14 hbox hb; have BK258 := zM hbox; have GW258 := zM (zW hg (below_size zB0)); have GE258 := zM (zW hg (below_size zB0)); replace HB := zM (below_step zB0 hb); have NB256_258 := zM ((zn BK256.1 hg : gb256 ≠ gb258)); have NB258_256 := zM ((zm BK256.1 hg : gb258 ≠ gb256)); replace BK256 := zM (zb BK256.1 hb); clear hb hbox hg; have hnb15 := NB258_256.1; have hnc15 := NB256_258.1; have hcz16 := zc_5 (w := w14) BK258.1) | ((with_reducible refine zG Try.func91 24 #[.agg #[.int .i64 (Int.tmod a0 16), .int .i64 (Int.tmod (wrap64 (Int.tdiv a0 16)) 4), .int .i64 (Int.tmod (wrap64 (Int.tdiv a0 64)) 4), .int .i64 (Int.tmod (wrap64 (Int.tdiv a0 256)) 4), .int .i64 (wrap64 (Int.tdiv a0 1024))]] ?_); (with_reducible refine (impl_InsOk.calls (Int.tmod a0 16) (Int.tmod (wrap64 (Int.tdiv a0 16)) 4) (Int.tmod (wrap64 (Int.tdiv a0 64)) 4) (Int.tmod (wrap64 (Int.tdiv a0 256)) 4) (wrap64 (Int.tdiv a0 1024)) false _ A4.1).mono ?_); rintro e w17 ⟨rfl, hb⟩; refine ⟨_, rfl, ?_⟩; replace BK256 := zM (zf BK256.1 hb); replace BK258 := zM (blk_below (g := gb258) (o := .cells #[.int .i64 (Int.tmod a0 16), .int .i64 (Int.tmod (wrap64 (Int.tdiv a0 16)) 4), .int .i64 (Int.tmod (wrap64 (Int.tdiv a0 64)) 4), .int .i64 (Int.tmod (wrap64 (Int.tdiv a0 256)) 4), .int .i64 (wrap64 (Int.tdiv a0 1024))] 59 (0, 0)) (by exact zp5 (zK BK258.1)) hb); replace HB := zM (below_step zB0 hb); clear hb; have hcz18 := zc_5 (w := w17) BK256.1))
    refine bodyPost_ret (results_ct rfl _ _ gb256 59 #[.int .i64 0, .int .i64 0, .int .i64 0, .int .i64 0, .int .i64 0] (0, 0) _ rfl (by exact zp5 (zK BK256.1)) Try.underlying59 rfl (by kernel_rfl)) rfl ?_
    exact ⟨zE, zB0⟩
  subst c5
  rw [if_pos rfl] at H
  simp only [Option.some.injEq, Prod.mk.injEq] at H
  obtain ⟨rfl, rfl, rfl, rfl, rfl, rfl⟩ := H
  go_enter Try.func87, Try.ntmps87
  go_wp2_with (first | ((with_reducible refine zBx 2 59 #[.int .i64 0, .int .i64 0, .int .i64 0, .int .i64 0, .int .i64 0] ?_); intro gb256 hg w6 hbox hb; have BK256 := zM hbox; have GW256 := zM (zW hg (below_size zB0)); have GE256 := zM (zW hg (below_size zB0)); replace HB := zM (below_step zB0 hb); clear hb hbox hg) | ((with_reducible refine zG Try.func72 6 #[.int .i64 a0] ?_); (with_reducible refine (impl_isWord.calls a0 true _ A2.1).mono ?_); rintro e w' ⟨rfl, ⟨nd, rfl⟩⟩; refine ⟨_, rfl, ?_⟩; (try (rw [drewN_self w6]; generalize hq_ : World.drewN w6 _ = w6; have n0_ : Aside0 (w6.heap[gb256]? = some (.cells #[.int .i64 0, .int .i64 0, .int .i64 0, .int .i64 0, .int .i64 0] 59 (0, 0))) := ⟨by rw [← hq_]; exact (zK BK256.1)⟩; have n1_ : Aside0 (Below w.heap.size w w6) := ⟨by rw [← hq_]; exact zB0⟩; clear BK256 HB hq_; have BK256 := n0_; have HB := n1_; clear n0_ n1_))) | ((with_reducible refine zBx 4 59 #[.int .i64 0, .int .i64 0, .int .i64 0, .int .i64 0, .int .i64 0] ?_); intro gb258 hg w7 hbox hb; have BK258 := zM hbox; have GW258 := zM (zW hg (below_size zB0)); have GE258 := zM (zW hg (below_size zB0)); replace HB := zM (below_step zB0 hb); have NB256_258 := zM ((zn BK256.1 hg : gb256 ≠ gb258)); have NB258_256 := zM ((zm BK256.1 hg : gb258 ≠ gb256)); replace BK256 := zM (zb BK256.1 hb); clear hb hbox hg; have hnb8 := NB258_256.1; have hnc8 := NB256_258.1; have hcz9 := zc_5 (w := w7) BK258.1) | ((with_reducible refine zG Try.func91 24 #[.agg #[.int .i64 (Int.tmod a0 16), .int .i64 (Int.tmod (wrap64 (Int.tdiv a0 16)) 4), .int .i64 (Int.tmod (wrap64 (Int.tdiv a0 64)) 4), .int .i64 (Int.tmod (wrap64 (Int.tdiv a0 256)) 4), .int .i64 (wrap64 (Int.tdiv a0 1024))]] ?_); (with_reducible refine (impl_InsOk.calls (Int.tmod a0 16) (Int.tmod (wrap64 (Int.tdiv a0 16)) 4) (Int.tmod (wrap64 (Int.tdiv a0 64)) 4) (Int.tmod (wrap64 (Int.tdiv a0 256)) 4) (wrap64 (Int.tdiv a0 1024)) true _ A4.1).mono ?_); rintro e w10 ⟨rfl, hb⟩; refine ⟨_, rfl, ?_⟩; replace BK256 := zM (zf BK256.1 hb); replace BK258 := zM (blk_below (g := gb258) (o := .cells #[.int .i64 (Int.tmod a0 16), .int .i64 (Int.tmod (wrap64 (Int.tdiv a0 16)) 4), .int .i64 (Int.tmod (wrap64 (Int.tdiv a0 64)) 4), .int .i64 (Int.tmod (wrap64 (Int.tdiv a0 256)) 4), .int .i64 (wrap64 (Int.tdiv a0 1024))] 59 (0, 0)) (by exact zp5 (zK BK258.1)) hb); replace HB := zM (below_step zB0 hb); clear hb; have hcz11 := zc_5 (w := w10) BK258.1; have hcz12 := zc_5 (w := w10) BK256.1))
  refine bodyPost_ret (results_ct rfl _ _ gb256 59 #[.int .i64 (Int.tmod a0 16), .int .i64 (Int.tmod (wrap64 (Int.tdiv a0 16)) 4), .int .i64 (Int.tmod (wrap64 (Int.tdiv a0 64)) 4), .int .i64 (Int.tmod (wrap64 (Int.tdiv a0 256)) 4), .int .i64 (wrap64 (Int.tdiv a0 1024))] (0, 0) _ rfl (by exact zp5 (zK BK256.1)) Try.underlying59 rfl (by kernel_rfl)) rfl ?_
  exact ⟨zE, zB0⟩

/-! ### impl_aims: function 113 -/
def impl_aims.f (a0_0 : Int) (a0_1 : Int) (a0_2 : Int) (a0_3 : Int) (a0_4 : Int) : Option (Bool) := if a0_0 = 4 then (some true) else (if a0_0 = 5 then (some true) else (some (a0_0 == 6)))
theorem impl_aims.calls (a0_0 : Int) (a0_1 : Int) (a0_2 : Int) (a0_3 : Int) (a0_4 : Int) (r : Bool) (w : World) (h : impl_aims.f a0_0 a0_1 a0_2 a0_3 a0_4 = some r) :
    Calls Try.prog 113 #[.agg #[.int .i64 a0_0, .int .i64 a0_1, .int .i64 a0_2, .int .i64 a0_3, .int .i64 a0_4]] w fun e w' => e = .returned (.bool r) ∧ Below w.heap.size w w' := by
  have hu59 := Try.underlying59
  have HB := zM (Below.refl w.heap.size w)
  unfold impl_aims.f at h
  have H := h
  clear h
  by_cases c2 : a0_0 = 4
  · rw [if_pos c2] at H
    have c2b0 : (a0_0 == 4) = true := beq_iff_eq.mpr c2
    have c2b1 : (a0_0 != 4) = false := bne_eq_false_iff_eq.mpr c2
    clear c2
    obtain rfl := Option.some.inj H
    go_enter Try.func113, Try.ntmps113
    go_wp2_with (first | ((with_reducible refine zBx 1 59 #[.int .i64 a0_0, .int .i64 a0_1, .int .i64 a0_2, .int .i64 a0_3, .int .i64 a0_4] ?_); intro gb260 hg w3 hbox hb; have BK260 := zM hbox; have GW260 := zM (zW hg (below_size zB0)); have GE260 := zM (zW hg (below_size zB0)); replace HB := zM (below_step zB0 hb); clear hb hbox hg; have hcz4 := zc_5 (w := w3) BK260.1))
    go_ret
    exact ⟨zE, zB0⟩
  rw [if_neg c2] at H
  have c2b0 : (a0_0 == 4) = false := beq_eq_false_iff_ne.mpr c2
  have c2b1 : (a0_0 != 4) = true := bne_iff_ne.mpr c2
  by_cases c5 : a0_0 = 5
  rotate_left
  · rw [if_neg c5] at H
    have c5b0 : (a0_0 == 5) = false := beq_eq_false_iff_ne.mpr c5
    have c5b1 : (a0_0 != 5) = true := bne_iff_ne.mpr c5
    obtain rfl := Option.some.inj H
    go_enter Try.func113, Try.ntmps113
    go_wp2_with (first | ((with_reducible refine zBx 1 59 #[.int .i64 a0_0, .int .i64 a0_1, .int .i64 a0_2, .int .i64 a0_3, .int .i64 a0_4] ?_); intro gb260 hg w8 hbox hb; have BK260 := zM hbox; have GW260 := zM (zW hg (below_size zB0)); have GE260 := zM (zW hg (below_size zB0)); replace HB := zM (below_step zB0 hb); clear hb hbox hg; have hcz9 := zc_5 (w := w8) BK260.1))
    go_ret
    exact ⟨zE, zB0⟩
  rw [if_pos c5] at H
  have c5b0 : (a0_0 == 5) = true := beq_iff_eq.mpr c5
  have c5b1 : (a0_0 != 5) = false := bne_eq_false_iff_eq.mpr c5
  clear c5
  obtain rfl := Option.some.inj H
  go_enter Try.func113, Try.ntmps113
  go_wp2_with (first | ((with_reducible refine zBx 1 59 #[.int .i64 a0_0, .int .i64 a0_1, .int .i64 a0_2, .int .i64 a0_3, .int .i64 a0_4] ?_); intro gb260 hg w6 hbox hb; have BK260 := zM hbox; have GW260 := zM (zW hg (below_size zB0)); have GE260 := zM (zW hg (below_size zB0)); replace HB := zM (below_step zB0 hb); clear hb hbox hg; have hcz7 := zc_5 (w := w6) BK260.1))
  go_ret
  exact ⟨zE, zB0⟩

/-! ### impl_address: function 114 -/
def impl_address.f (a0 : Int) : Option (Int) := some (Int.tmod (wrap64 ((Int.tmod a0 24) + 24)) 24)
theorem impl_address.calls (a0 : Int) (r : Int) (w : World) (h : impl_address.f a0 = some r) :
    Calls Try.prog 114 #[.int .i64 a0] w fun e w' => e = .returned (.int .i64 r) ∧ Drawn0 w w' := by
  unfold impl_address.f at h
  have H := h
  clear h
  obtain rfl := Option.some.inj H
  go_enter Try.func114, Try.ntmps114
  go_wp2
  go_ret
  exact ⟨zJJ, zDD⟩

end Go.Proofs.Ytnjdepmlpdjghaa.PFnAllEnds
