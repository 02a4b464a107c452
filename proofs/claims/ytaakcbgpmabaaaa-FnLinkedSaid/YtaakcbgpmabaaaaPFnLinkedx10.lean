-- made by wip/tools/myprint.py out of the seat's translation
import Derived.Test.YtaakcbgpmabaaaaPFnLinkedx0
import Derived.Test.YtaakcbgpmabaaaaPFnLinkedx2
import Derived.Test.YtaakcbgpmabaaaaPFnLinkedx9
namespace Go.Proofs.Ytaakcbgpmabaaaa.PFnLinked
open Go.RowKit Go.Proofs.YtaakcbgpmabaaaaW.PrintWords Go.Proofs.YtaakcbgpmabaaaaW.PrintLast Go.Proofs.YtaakcbgpmabaaaaW.PrintMore
attribute [local go_sem] max2_int min2_int max_two min_two max_three min_three max_four min_four   -- for this text's walks alone
set_option linter.unusedVariables false
set_option linter.unusedSimpArgs false
set_option maxHeartbeats 8000000
set_option maxRecDepth 100000

/-! ### spec_InsOk: function 66 -/
def spec_InsOk.f (a0_0 : Int) (a0_1 : Int) (a0_2 : Int) (a0_3 : Int) (a0_4 : Int) : Option (Bool) := (spec_l8Has.f a0_0).bind fun t368 => ((spec_l1In.f a0_0 1 10).bind fun t369 => (if t369 = true then ((spec_l8Field.f a0_1 3 ((Go.bits .and .i64 t368 1) != 0)).bind fun t370 => (if t370 = true then ((spec_l8Field.f a0_2 3 ((Go.bits .and .i64 t368 2) != 0)).bind fun t371 => (if t371 = true then ((spec_l8Field.f a0_3 3 ((Go.bits .and .i64 t368 4) != 0)).bind fun t372 => (if t372 = true then ((spec_l8Field.f a0_4 63 ((Go.bits .and .i64 t368 8) != 0)).bind fun t373 => (some t373)) else (some false))) else (some false))) else (some false))) else (some false)))
theorem spec_InsOk.calls (a0_0 : Int) (a0_1 : Int) (a0_2 : Int) (a0_3 : Int) (a0_4 : Int) (r : Bool) (w : World) (h : spec_InsOk.f a0_0 a0_1 a0_2 a0_3 a0_4 = some r) :
  Calls Try.prog 66 #[.agg #[.int .i64 a0_0, .int .i64 a0_1, .int .i64 a0_2, .int .i64 a0_3, .int .i64 a0_4]] w fun e w' => e = .returned (.bool r) ∧ Below w.heap.size w w' := by
 have hu57 := Try.underlying57
 have HB := zM (Below.refl w.heap.size w)
 unfold spec_InsOk.f at h
 have H := h
 clear h
 replace H := zO H
 obtain ⟨t368, A2, H⟩ := H
 replace H := zO H
 obtain ⟨t369, A3, H⟩ := H
 by_cases c4 : t369 = true
 rotate_left
 ·replace c4 := Bool.eq_false_iff.mpr c4
  subst c4
  rw [if_neg zF] at H
  obtain rfl := Option.some.inj H
  go_enter Try.func66, Try.ntmps66
  go_wp2_with (first | ((with_reducible refine zBx 1 57 #[.int .i64 a0_0, .int .i64 a0_1, .int .i64 a0_2, .int .i64 a0_3, .int .i64 a0_4] ?_); intro gb367 hg w28 hbox hb; have BK367 := zM hbox; have GW367 := zM (zW hg (below_size zB0)); have GE367 := zM (zW hg (below_size zB0)); replace HB := zM (below_step zB0 hb); clear hb hbox hg; have hcz29 := zc_5 (w := w28) BK367.1) | ((with_reducible refine zG Try.func100 6 #[.int .i64 a0_0] ?_); (with_reducible refine (spec_l8Has.calls a0_0 t368 _ A2.1).mono ?_); rintro e w30 ⟨rfl, hb⟩; refine ⟨_, rfl, ?_⟩; replace BK367 := zM (zb BK367.1 hb); replace HB := zM (below_step zB0 hb); clear hb; have hcz31 := zc_5 (w := w30) BK367.1) | ((with_reducible refine zG Try.func46 9 #[.int .i64 a0_0, .int .i64 1, .int .i64 10] ?_); (with_reducible refine (spec_l1In.calls a0_0 1 10 false _ A3.1).mono ?_); rintro e w' ⟨rfl, ⟨nd, rfl⟩⟩; refine ⟨_, rfl, ?_⟩))
  go_ret
  exact ⟨zE, zB0⟩
 subst c4
 rw [if_pos rfl] at H
 replace H := zO H
 obtain ⟨t370, A5, H⟩ := H
 by_cases c6 : t370 = true
 rotate_left
 ·replace c6 := Bool.eq_false_iff.mpr c6
  subst c6
  rw [if_neg zF] at H
  obtain rfl := Option.some.inj H
  go_enter Try.func66, Try.ntmps66
  go_wp2_with (first | ((with_reducible refine zBx 1 57 #[.int .i64 a0_0, .int .i64 a0_1, .int .i64 a0_2, .int .i64 a0_3, .int .i64 a0_4] ?_); intro gb367 hg w24 hbox hb; have BK367 := zM hbox; have GW367 := zM (zW hg (below_size zB0)); have GE367 := zM (zW hg (below_size zB0)); replace HB := zM (below_step zB0 hb); clear hb hbox hg; have hcz25 := zc_5 (w := w24) BK367.1) | ((with_reducible refine zG Try.func100 6 #[.int .i64 a0_0] ?_); (with_reducible refine (spec_l8Has.calls a0_0 t368 _ A2.1).mono ?_); rintro e w26 ⟨rfl, hb⟩; refine ⟨_, rfl, ?_⟩; replace BK367 := zM (zb BK367.1 hb); replace HB := zM (below_step zB0 hb); clear hb; have hcz27 := zc_5 (w := w26) BK367.1) | ((with_reducible refine zG Try.func46 9 #[.int .i64 a0_0, .int .i64 1, .int .i64 10] ?_); (with_reducible refine (spec_l1In.calls a0_0 1 10 true _ A3.1).mono ?_); rintro e w' ⟨rfl, ⟨nd, rfl⟩⟩; refine ⟨_, rfl, ?_⟩) | (go_at_call 101; (with_reducible refine (spec_l8Field.calls a0_1 3 ((Go.bits .and .i64 t368 1) != 0) false _ A5.1).mono ?_); rintro e w' ⟨rfl, ⟨nd, rfl⟩⟩))
  go_ret
  exact ⟨zE, zB0⟩
 subst c6
 rw [if_pos rfl] at H
 replace H := zO H
 obtain ⟨t371, A7, H⟩ := H
 by_cases c8 : t371 = true
 rotate_left
 ·replace c8 := Bool.eq_false_iff.mpr c8
  subst c8
  rw [if_neg zF] at H
  obtain rfl := Option.some.inj H
  go_enter Try.func66, Try.ntmps66
  go_wp2_with (first | ((with_reducible refine zBx 1 57 #[.int .i64 a0_0, .int .i64 a0_1, .int .i64 a0_2, .int .i64 a0_3, .int .i64 a0_4] ?_); intro gb367 hg w20 hbox hb; have BK367 := zM hbox; have GW367 := zM (zW hg (below_size zB0)); have GE367 := zM (zW hg (below_size zB0)); replace HB := zM (below_step zB0 hb); clear hb hbox hg; have hcz21 := zc_5 (w := w20) BK367.1) | ((with_reducible refine zG Try.func100 6 #[.int .i64 a0_0] ?_); (with_reducible refine (spec_l8Has.calls a0_0 t368 _ A2.1).mono ?_); rintro e w22 ⟨rfl, hb⟩; refine ⟨_, rfl, ?_⟩; replace BK367 := zM (zb BK367.1 hb); replace HB := zM (below_step zB0 hb); clear hb; have hcz23 := zc_5 (w := w22) BK367.1) | ((with_reducible refine zG Try.func46 9 #[.int .i64 a0_0, .int .i64 1, .int .i64 10] ?_); (with_reducible refine (spec_l1In.calls a0_0 1 10 true _ A3.1).mono ?_); rintro e w' ⟨rfl, ⟨nd, rfl⟩⟩; refine ⟨_, rfl, ?_⟩) | (go_at_call 101; (with_reducible refine (spec_l8Field.calls a0_1 3 ((Go.bits .and .i64 t368 1) != 0) true _ A5.1).mono ?_); rintro e w' ⟨rfl, ⟨nd, rfl⟩⟩) | (go_at_call 101; (with_reducible refine (spec_l8Field.calls a0_2 3 ((Go.bits .and .i64 t368 2) != 0) false _ A7.1).mono ?_); rintro e w' ⟨rfl, ⟨nd, rfl⟩⟩))
  go_ret
  exact ⟨zE, zB0⟩
 subst c8
 rw [if_pos rfl] at H
 replace H := zO H
 obtain ⟨t372, A9, H⟩ := H
 by_cases c10 : t372 = true
 rotate_left
 ·replace c10 := Bool.eq_false_iff.mpr c10
  subst c10
  rw [if_neg zF] at H
  obtain rfl := Option.some.inj H
  go_enter Try.func66, Try.ntmps66
  go_wp2_with (first | ((with_reducible refine zBx 1 57 #[.int .i64 a0_0, .int .i64 a0_1, .int .i64 a0_2, .int .i64 a0_3, .int .i64 a0_4] ?_); intro gb367 hg w16 hbox hb; have BK367 := zM hbox; have GW367 := zM (zW hg (below_size zB0)); have GE367 := zM (zW hg (below_size zB0)); replace HB := zM (below_step zB0 hb); clear hb hbox hg; have hcz17 := zc_5 (w := w16) BK367.1) | ((with_reducible refine zG Try.func100 6 #[.int .i64 a0_0] ?_); (with_reducible refine (spec_l8Has.calls a0_0 t368 _ A2.1).mono ?_); rintro e w18 ⟨rfl, hb⟩; refine ⟨_, rfl, ?_⟩; replace BK367 := zM (zb BK367.1 hb); replace HB := zM (below_step zB0 hb); clear hb; have hcz19 := zc_5 (w := w18) BK367.1) | ((with_reducible refine zG Try.func46 9 #[.int .i64 a0_0, .int .i64 1, .int .i64 10] ?_); (with_reducible refine (spec_l1In.calls a0_0 1 10 true _ A3.1).mono ?_); rintro e w' ⟨rfl, ⟨nd, rfl⟩⟩; refine ⟨_, rfl, ?_⟩) | (go_at_call 101; (with_reducible refine (spec_l8Field.calls a0_1 3 ((Go.bits .and .i64 t368 1) != 0) true _ A5.1).mono ?_); rintro e w' ⟨rfl, ⟨nd, rfl⟩⟩) | (go_at_call 101; (with_reducible refine (spec_l8Field.calls a0_2 3 ((Go.bits .and .i64 t368 2) != 0) true _ A7.1).mono ?_); rintro e w' ⟨rfl, ⟨nd, rfl⟩⟩) | (go_at_call 101; (with_reducible refine (spec_l8Field.calls a0_3 3 ((Go.bits .and .i64 t368 4) != 0) false _ A9.1).mono ?_); rintro e w' ⟨rfl, ⟨nd, rfl⟩⟩))
  go_ret
  exact ⟨zE, zB0⟩
 subst c10
 rw [if_pos rfl] at H
 replace H := zO H
 obtain ⟨t373, A11, H⟩ := H
 obtain rfl := Option.some.inj H
 go_enter Try.func66, Try.ntmps66
 go_wp2_with (first | ((with_reducible refine zBx 1 57 #[.int .i64 a0_0, .int .i64 a0_1, .int .i64 a0_2, .int .i64 a0_3, .int .i64 a0_4] ?_); intro gb367 hg w12 hbox hb; have BK367 := zM hbox; have GW367 := zM (zW hg (below_size zB0)); have GE367 := zM (zW hg (below_size zB0)); replace HB := zM (below_step zB0 hb); clear hb hbox hg; have hcz13 := zc_5 (w := w12) BK367.1) | ((with_reducible refine zG Try.func100 6 #[.int .i64 a0_0] ?_); (with_reducible refine (spec_l8Has.calls a0_0 t368 _ A2.1).mono ?_); rintro e w14 ⟨rfl, hb⟩; refine ⟨_, rfl, ?_⟩; replace BK367 := zM (zb BK367.1 hb); replace HB := zM (below_step zB0 hb); clear hb; have hcz15 := zc_5 (w := w14) BK367.1) | ((with_reducible refine zG Try.func46 9 #[.int .i64 a0_0, .int .i64 1, .int .i64 10] ?_); (with_reducible refine (spec_l1In.calls a0_0 1 10 true _ A3.1).mono ?_); rintro e w' ⟨rfl, ⟨nd, rfl⟩⟩; refine ⟨_, rfl, ?_⟩) | (go_at_call 101; (with_reducible refine (spec_l8Field.calls a0_1 3 ((Go.bits .and .i64 t368 1) != 0) true _ A5.1).mono ?_); rintro e w' ⟨rfl, ⟨nd, rfl⟩⟩) | (go_at_call 101; (with_reducible refine (spec_l8Field.calls a0_2 3 ((Go.bits .and .i64 t368 2) != 0) true _ A7.1).mono ?_); rintro e w' ⟨rfl, ⟨nd, rfl⟩⟩) | (go_at_call 101; (with_reducible refine (spec_l8Field.calls a0_3 3 ((Go.bits .and .i64 t368 4) != 0) true _ A9.1).mono ?_); rintro e w' ⟨rfl, ⟨nd, rfl⟩⟩) | (go_at_call 101; (with_reducible refine (spec_l8Field.calls a0_4 63 ((Go.bits .and .i64 t368 8) != 0) t373 _ A11.1).mono ?_); rintro e w' ⟨rfl, ⟨nd, rfl⟩⟩))
 go_ret
 exact ⟨zE, zB0⟩

/-! ### spec_l27Name: function 67 -/
def spec_l27Name.l0 : Nat → ByteArray → Int → Option (Bool)
 | 0, _, _ => none
 | k + 1, x0, x3 => if x3 < (x0.size : Int) then (if 0 ≤ x3 then (if (bt x0 x3) < 97 then (some false) else (if (bt x0 x3) > 122 then (some false) else (spec_l27Name.l0 k x0 (wrap64 (x3 + 1))))) else (none)) else ((spec_l1In.f (x0.size : Int) 1 8).bind fun t374 => (some t374))
def spec_l27Name.f (k : Nat) (a0 : ByteArray) : Option (Bool) := spec_l27Name.l0 k a0 0
theorem spec_l27Name.mono_l : ∀ k, (∀ y0 y1, LeO (spec_l27Name.l0 k y0 y1) (spec_l27Name.l0 (k + 1) y0 y1))
 | 0 => fun _ _ r h => by simp [spec_l27Name.l0] at h
 | k + 1 => by
  have ih0 := spec_l27Name.mono_l k
  ·intros
   unfold spec_l27Name.l0
   exact zL
theorem spec_l27Name.mono : ∀ a0 k, LeO (spec_l27Name.f k a0) (spec_l27Name.f (k + 1) a0) := by
 intro a0 k
 have ih0 := spec_l27Name.mono_l k
 unfold spec_l27Name.f
 exact zL
theorem spec_l27Name.calls (k : Nat) (a0 : ByteArray) (r : Bool) (w : World) (h : spec_l27Name.f k a0 = some r) :
  Calls Try.prog 67 #[.string a0] w fun e w' => e = .returned (.bool r) ∧ Drawn0 w w' := by
 unfold spec_l27Name.f at h
 have H := h
 clear h
 have H' := zM H
 clear H
 go_enter Try.func67, Try.ntmps67
 go_wp2
 go_loopg [3] k (fun kq v3 w' => ∃ (x3_1 : Int), v3 = .int .i64 x3_1 ∧ Aside0 (spec_l27Name.l0 kq a0 x3_1 = some r) ∧ Aside0 (kq ≤ k) ∧ Drawn0 w w')
 case atStart => exact ⟨(0), zJJ, H', ⟨Nat.le_refl _⟩, zDD⟩
 case round =>
  clear H'
  obtain ⟨x3_1, rfl, HA, HK1, ⟨m1, rfl⟩⟩ := hrel
  cases gk with
  | zero => exact absurd HA.1 (by simp [spec_l27Name.l0])
  | succ k1 =>
   have H := HA.1
   clear HA
   simp only [spec_l27Name.l0] at H
   by_cases c2 : x3_1 < (a0.size : Int)
   rotate_left
   ·rw [if_neg c2] at H
    have c2b0 := decide_eq_false c2
    clear c2
    replace H := zO H
    obtain ⟨t374, A8, H⟩ := H
    obtain rfl := Option.some.inj H
    go_wp2_with (first | ((with_reducible refine zG Try.func46 22 #[.int .i64 (a0.size : Int), .int .i64 1, .int .i64 8] ?_); (with_reducible refine (spec_l1In.calls (a0.size : Int) 1 8 t374 _ A8.1).mono ?_); rintro e w' ⟨rfl, ⟨nd, rfl⟩⟩; refine ⟨_, rfl, ?_⟩))
    go_ret
    exact ⟨zJJ, zDD⟩
   rw [if_pos c2] at H
   have c2b0 := decide_eq_true c2
   clear c2
   replace H := zIt H
   obtain ⟨c3b0, H⟩ := H
   by_cases c5 : (bt a0 x3_1) < 97
   ·rw [if_pos c5] at H
    have c5b0 := decide_eq_true c5
    clear c5
    obtain rfl := Option.some.inj H
    have p4 : 0 ≤ (x3_1 : Int) := zA
    have q4 : x3_1 < (a0.size : Int) := zA
    have hx4 := bt_at a0 x3_1
    replace p4 := eq_true p4
    replace q4 := eq_true q4
    go_wp2
    go_ret
    exact ⟨zJJ, zDD⟩
   rw [if_neg c5] at H
   have c5b0 := decide_eq_false c5
   clear c5
   by_cases c7 : (bt a0 x3_1) > 122
   ·rw [if_pos c7] at H
    have c7b0 := decide_eq_true c7
    clear c7
    obtain rfl := Option.some.inj H
    have p4 : 0 ≤ (x3_1 : Int) := zA
    have q4 : x3_1 < (a0.size : Int) := zA
    have hx4 := bt_at a0 x3_1
    replace p4 := eq_true p4
    replace q4 := eq_true q4
    have p6 : 0 ≤ (x3_1 : Int) := zA
    have q6 : x3_1 < (a0.size : Int) := zA
    have hx6 := bt_at a0 x3_1
    replace p6 := eq_true p6
    replace q6 := eq_true q6
    go_wp2
    go_ret
    exact ⟨zJJ, zDD⟩
   rw [if_neg c7] at H
   have c7b0 := decide_eq_false c7
   clear c7
   have H' := zM H
   clear H
   have p4 : 0 ≤ (x3_1 : Int) := zA
   have q4 : x3_1 < (a0.size : Int) := zA
   have hx4 := bt_at a0 x3_1
   replace p4 := eq_true p4
   replace q4 := eq_true q4
   have p6 : 0 ≤ (x3_1 : Int) := zA
   have q6 : x3_1 < (a0.size : Int) := zA
   have hx6 := bt_at a0 x3_1
   replace p6 := eq_true p6
   replace q6 := eq_true q6
   go_wp2
   go_roundg k1
   case measure => have := HK1.1; omega
   case rel => exact ⟨(wrap64 (x3_1 + 1)), zJJ, H', ⟨by have := HK1.1; omega⟩, zDD⟩

/-! ### spec_PartOk: function 27 -/
mutual
def spec_PartOk.l0 : Nat → Int → ByteArray → List (S57) → List (S61) → Option (Bool)
 | 0, _, _, _, _ => none
 | k + 1, x3, x376000, x376001, x376002 => if x3 < (x376001.length : Int) then (if 0 ≤ x3 then ((spec_InsOk.f ((rd_T57 x376001 x3).f0) ((rd_T57 x376001 x3).f1) ((rd_T57 x376001 x3).f2) ((rd_T57 x376001 x3).f3) ((rd_T57 x376001 x3).f4)).bind fun t377 => (if t377 = true then (spec_PartOk.l0 k (wrap64 (x3 + 1)) x376000 x376001 x376002) else (some false))) else (none)) else ((spec_l27Name.f k x376000).bind fun t378 => (if t378 = true then ((spec_l1In.f (x376001.length : Int) 1 24).bind fun t379 => (if t379 = true then (spec_PartOk.j1 k (decide ((x376002.length : Int) > 24)) x376000 x376001 x376002) else (spec_PartOk.j1 k true x376000 x376001 x376002))) else (spec_PartOk.j1 k true x376000 x376001 x376002)))
def spec_PartOk.j1 : Nat → Bool → ByteArray → List (S57) → List (S61) → Option (Bool)
 | 0, _, _, _, _ => none
 | k + 1, x36, x376000, x376001, x376002 => if x36 = true then (some false) else (spec_PartOk.l1 k 0 x376000 x376001 x376002)
def spec_PartOk.l1 : Nat → Int → ByteArray → List (S57) → List (S61) → Option (Bool)
 | 0, _, _, _, _ => none
 | k + 1, x4, x376000, x376001, x376002 => if x4 < (x376002.length : Int) then (if 0 ≤ x4 then ((spec_l1In.f ((rd_T61 x376002 x4).f0) 0 (wrap64 ((x376001.length : Int) - 1))).bind fun t382 => (if t382 = true then (if 0 ≤ ((rd_T61 x376002 x4).f0) then (if ((rd_T61 x376002 x4).f0) < (x376001.length : Int) then ((spec_l27Goes.f ((rd_T57 x376001 ((rd_T61 x376002 x4).f0)).f0) ((rd_T57 x376001 ((rd_T61 x376002 x4).f0)).f1) ((rd_T57 x376001 ((rd_T61 x376002 x4).f0)).f2) ((rd_T57 x376001 ((rd_T61 x376002 x4).f0)).f3) ((rd_T57 x376001 ((rd_T61 x376002 x4).f0)).f4)).bind fun t384 => (if t384 = true then ((spec_l27Name.f k ((rd_T61 x376002 x4).f1)).bind fun t385 => (if t385 = true then ((spec_l27Ref.f k x376000 x376001 x376002 ((rd_T61 x376002 x4).f0)).bind fun t386 => (if t386 = x4 then (spec_PartOk.l1 k (wrap64 (x4 + 1)) x376000 x376001 x376002) else (some false))) else (some false))) else (some false))) else (none)) else (none)) else (some false))) else (none)) else (some true)
end
def spec_PartOk.f (k : Nat) (a0_0 : ByteArray) (l0_1 : List (S57)) (l0_2 : List (S61)) : Option (Bool) := spec_PartOk.l0 k 0 a0_0 l0_1 l0_2
theorem spec_PartOk.mono_l : ∀ k, (∀ y0 y1 y2 y3, LeO (spec_PartOk.l0 k y0 y1 y2 y3) (spec_PartOk.l0 (k + 1) y0 y1 y2 y3)) ∧ (∀ y0 y1 y2 y3, LeO (spec_PartOk.j1 k y0 y1 y2 y3) (spec_PartOk.j1 (k + 1) y0 y1 y2 y3)) ∧ (∀ y0 y1 y2 y3, LeO (spec_PartOk.l1 k y0 y1 y2 y3) (spec_PartOk.l1 (k + 1) y0 y1 y2 y3))
 | 0 => ⟨fun _ _ _ _ r h => by simp [spec_PartOk.l0] at h, fun _ _ _ _ r h => by simp [spec_PartOk.j1] at h, fun _ _ _ _ r h => by simp [spec_PartOk.l1] at h⟩
 | k + 1 => by
  obtain ⟨ih0, ih1, ih2⟩ := spec_PartOk.mono_l k
  refine ⟨?_, ?_, ?_⟩
  ·intros
   unfold spec_PartOk.l0
   have mo0 := @spec_l27Name.mono
   have mo1 := @spec_l27Ref.mono
   exact zL
  ·intros
   unfold spec_PartOk.j1
   have mo0 := @spec_l27Name.mono
   have mo1 := @spec_l27Ref.mono
   exact zL
  ·intros
   unfold spec_PartOk.l1
   have mo0 := @spec_l27Name.mono
   have mo1 := @spec_l27Ref.mono
   exact zL
theorem spec_PartOk.mono : ∀ a0 a1 a2 k, LeO (spec_PartOk.f k a0 a1 a2) (spec_PartOk.f (k + 1) a0 a1 a2) := by
 intro a0 a1 a2 k
 obtain ⟨ih0, ih1, ih2⟩ := spec_PartOk.mono_l k
 unfold spec_PartOk.f
 have mo0 := @spec_l27Name.mono
 have mo1 := @spec_l27Ref.mono
 exact zL
theorem spec_PartOk.calls (k : Nat) (a0_0 : ByteArray) (A0_1 : Option Addr) (c0_1 : Nat) (l0_1 : List (S57)) (A0_2 : Option Addr) (c0_2 : Nat) (l0_2 : List (S61)) (r : Bool) (w : World) (hr0_1 : Kd.C k57 w A0_1 l0_1.length l0_1) (hc0_1 : l0_1.length ≤ c0_1) (hr0_2 : Kd.C k61 w A0_2 l0_2.length l0_2) (hc0_2 : l0_2.length ≤ c0_2) (h : spec_PartOk.f k a0_0 l0_1 l0_2 = some r) :
  Calls Try.prog 27 #[.agg #[.string a0_0, .slice A0_1 l0_1.length c0_1, .slice A0_2 l0_2.length c0_2]] w fun e w' => e = .returned (.bool r) ∧ Below w.heap.size w w' := by
 have hu49 := Try.underlying49
 have hu57 := Try.underlying57
 have hu61 := Try.underlying61
 have HR0_1 := zM hr0_1
 have HC0_1 := zM hc0_1
 clear hr0_1 hc0_1
 have HR0_2 := zM hr0_2
 have HC0_2 := zM hc0_2
 clear hr0_2 hc0_2
 have HB := zM (Below.refl w.heap.size w)
 unfold spec_PartOk.f at h
 have H := h
 clear h
 have H' := zM H
 clear H
 go_enter Try.func27, Try.ntmps27
 go_wp2_with (first | ((with_reducible refine gate_dst (N := 1) rfl ?_); (try (refine gate_guard (by rfl) ?_; dsimp only)); (with_reducible refine zBx 1 49 #[.string a0_0, .slice A0_1 l0_1.length c0_1, .slice A0_2 l0_2.length c0_2] ?_); intro gb375 hg w2 hbox hb; have BK375 := zM hbox; have GW375 := zM (zW hg (below_size zB0)); have GE375 := zM (zW hg (below_size zB0)); replace HB := zM (below_step zB0 hb); clear hb hbox hg))
 go_loopg [3] k (fun kq v3 w' => ∃ (x3_1 : Int), v3 = .int .i64 x3_1 ∧ Aside0 (spec_PartOk.l0 kq x3_1 a0_0 l0_1 l0_2 = some r) ∧ Aside0 (kq ≤ k) ∧ Aside0 (w'.heap[gb375]? = some (.cells #[.string a0_0, (.slice A0_1 l0_1.length c0_1), (.slice A0_2 l0_2.length c0_2)] 49 (0, 0))) ∧ Aside0 (Below w.heap.size w w'))
 case atStart => exact ⟨(0), zJJ, H', ⟨Nat.le_refl _⟩, ⟨zK BK375.1⟩, ⟨zB0⟩⟩
 case round =>
  clear H'
  obtain ⟨x3_1, rfl, HA, HK1, BK375, HB⟩ := hrel
  cases gk with
  | zero => exact absurd HA.1 (by simp [spec_PartOk.l0])
  | succ k1 =>
   have H := HA.1
   clear HA
   simp only [spec_PartOk.l0] at H
   by_cases c3 : x3_1 < (l0_1.length : Int)
   ·rw [if_pos c3] at H
    have c3b0 := decide_eq_true c3
    clear c3
    replace H := zIt H
    obtain ⟨c4b0, H⟩ := H
    replace H := zO H
    obtain ⟨t377, A5, H⟩ := H
    by_cases c6 : t377 = true
    rotate_left
    ·replace c6 := Bool.eq_false_iff.mpr c6
     subst c6
     rw [if_neg zF] at H
     obtain rfl := Option.some.inj H
     have hcz9 := zc_3 (w := wr) BK375.1
     obtain ⟨p376, q376, ad376, e376, hx376_0, hx376_1, hx376_2, hx376_3, hx376_4⟩ := zRd (at_T57 HR0_1.1 x3_1)
     cases e376
     replace hx376_0 := zHx HB.1 hx376_0
     replace hx376_1 := zHx HB.1 hx376_1
     replace hx376_2 := zHx HB.1 hx376_2
     replace hx376_3 := zHx HB.1 hx376_3
     replace hx376_4 := zHx HB.1 hx376_4
     go_wp2_with (first | ((with_reducible refine zG Try.func66 18 #[.agg #[.int .i64 ((rd_T57 l0_1 x3_1).f0), .int .i64 ((rd_T57 l0_1 x3_1).f1), .int .i64 ((rd_T57 l0_1 x3_1).f2), .int .i64 ((rd_T57 l0_1 x3_1).f3), .int .i64 ((rd_T57 l0_1 x3_1).f4)]] ?_); (with_reducible refine (spec_InsOk.calls ((rd_T57 l0_1 x3_1).f0) ((rd_T57 l0_1 x3_1).f1) ((rd_T57 l0_1 x3_1).f2) ((rd_T57 l0_1 x3_1).f3) ((rd_T57 l0_1 x3_1).f4) false _ A5.1).mono ?_); rintro e w10 ⟨rfl, hb⟩; refine ⟨_, rfl, ?_⟩; replace BK375 := zM (zb BK375.1 hb); replace HB := zM (below_step zB0 hb); clear hb))
     go_ret
     exact ⟨zE, zB0⟩
    subst c6
    rw [if_pos rfl] at H
    have H' := zM H
    clear H
    have hcz7 := zc_3 (w := wr) BK375.1
    obtain ⟨p376, q376, ad376, e376, hx376_0, hx376_1, hx376_2, hx376_3, hx376_4⟩ := zRd (at_T57 HR0_1.1 x3_1)
    cases e376
    replace hx376_0 := zHx HB.1 hx376_0
    replace hx376_1 := zHx HB.1 hx376_1
    replace hx376_2 := zHx HB.1 hx376_2
    replace hx376_3 := zHx HB.1 hx376_3
    replace hx376_4 := zHx HB.1 hx376_4
    go_wp2_with (first | ((with_reducible refine zG Try.func66 18 #[.agg #[.int .i64 ((rd_T57 l0_1 x3_1).f0), .int .i64 ((rd_T57 l0_1 x3_1).f1), .int .i64 ((rd_T57 l0_1 x3_1).f2), .int .i64 ((rd_T57 l0_1 x3_1).f3), .int .i64 ((rd_T57 l0_1 x3_1).f4)]] ?_); (with_reducible refine (spec_InsOk.calls ((rd_T57 l0_1 x3_1).f0) ((rd_T57 l0_1 x3_1).f1) ((rd_T57 l0_1 x3_1).f2) ((rd_T57 l0_1 x3_1).f3) ((rd_T57 l0_1 x3_1).f4) true _ A5.1).mono ?_); rintro e w8 ⟨rfl, hb⟩; refine ⟨_, rfl, ?_⟩; replace BK375 := zM (zb BK375.1 hb); replace HB := zM (below_step zB0 hb); clear hb))
    go_roundg k1
    case measure => have := HK1.1; omega
    case rel => exact ⟨(wrap64 (x3_1 + 1)), zJJ, H', ⟨by have := HK1.1; omega⟩, ⟨zK BK375.1⟩, ⟨zB0⟩⟩
   rw [if_neg c3] at H
   have c3b0 := decide_eq_false c3
   clear c3
   have HC11 := zM H
   clear H
   have hcz12 := zc_3 (w := wr) BK375.1
   go_upto_region 6 with (fail)
   go_cut [36] (fun v36 wc => ∃ (kq : Nat) (x36_10 : Bool), v36 = .bool x36_10 ∧ Aside0 (spec_PartOk.j1 kq x36_10 a0_0 l0_1 l0_2 = some r) ∧ Aside0 (kq ≤ k1) ∧ Aside0 (wc.heap[gb375]? = some (.cells #[.string a0_0, (.slice A0_1 l0_1.length c0_1), (.slice A0_2 l0_2.length c0_2)] 49 (0, 0))) ∧ Aside0 (Below w.heap.size w wc))
   case first =>
    have H := HC11.1
    clear HC11
    replace H := zO H
    obtain ⟨t378, A13, H⟩ := H
    by_cases c14 : t378 = true
    rotate_left
    ·replace c14 := Bool.eq_false_iff.mpr c14
     subst c14
     rw [if_neg zF] at H
     have H' := zM H
     clear H
     have hcz19 := zc_3 (w := wr) BK375.1
     go_wp2_with (first | ((with_reducible refine zG Try.func67 22 #[.string a0_0] ?_); (with_reducible refine (spec_l27Name.calls k1 a0_0 false _ A13.1).mono ?_); rintro e w' ⟨rfl, ⟨nd, rfl⟩⟩; refine ⟨_, rfl, ?_⟩))
     go_meet
     case rel => exact ⟨_, (true), zJJ, H', ⟨by have := HK1.1; first | omega | exact Nat.le_refl _⟩, ⟨zK BK375.1⟩, ⟨zB0⟩⟩
    subst c14
    rw [if_pos rfl] at H
    replace H := zO H
    obtain ⟨t379, A15, H⟩ := H
    by_cases c16 : t379 = true
    ·subst c16
     rw [if_pos rfl] at H
     have H' := zM H
     clear H
     have hcz17 := zc_3 (w := wr) BK375.1
     go_wp2_with (first | ((with_reducible refine zG Try.func67 22 #[.string a0_0] ?_); (with_reducible refine (spec_l27Name.calls k1 a0_0 true _ A13.1).mono ?_); rintro e w' ⟨rfl, ⟨nd, rfl⟩⟩; refine ⟨_, rfl, ?_⟩) | (go_at_call 46; (with_reducible refine (spec_l1In.calls (l0_1.length : Int) 1 24 true _ A15.1).mono ?_); rintro e w' ⟨rfl, ⟨nd, rfl⟩⟩))
     go_meet
     case rel => exact ⟨_, (decide ((l0_2.length : Int) > 24)), zJJ, H', ⟨by have := HK1.1; first | omega | exact Nat.le_refl _⟩, ⟨zK BK375.1⟩, ⟨zB0⟩⟩
    replace c16 := Bool.eq_false_iff.mpr c16
    subst c16
    rw [if_neg zF] at H
    have H' := zM H
    clear H
    have hcz18 := zc_3 (w := wr) BK375.1
    go_wp2_with (first | ((with_reducible refine zG Try.func67 22 #[.string a0_0] ?_); (with_reducible refine (spec_l27Name.calls k1 a0_0 true _ A13.1).mono ?_); rintro e w' ⟨rfl, ⟨nd, rfl⟩⟩; refine ⟨_, rfl, ?_⟩) | (go_at_call 46; (with_reducible refine (spec_l1In.calls (l0_1.length : Int) 1 24 false _ A15.1).mono ?_); rintro e w' ⟨rfl, ⟨nd, rfl⟩⟩))
    go_meet
    case rel => exact ⟨_, (true), zJJ, H', ⟨by have := HK1.1; first | omega | exact Nat.le_refl _⟩, ⟨zK BK375.1⟩, ⟨zB0⟩⟩
   case rest =>
    clear HC11
    obtain ⟨kq, x36_10, rfl, HA, HJ10, BK375, HB⟩ := hcut
    cases kq with
    | zero => exact absurd HA.1 (by simp [spec_PartOk.j1])
    | succ kj10 =>
     have H := HA.1
     clear HA
     simp only [spec_PartOk.j1] at H
     by_cases c20 : x36_10 = true
     ·subst c20
      rw [if_pos rfl] at H
      obtain rfl := Option.some.inj H
      go_wp2
      go_ret
      exact ⟨zE, zB0⟩
     replace c20 := Bool.eq_false_iff.mpr c20
     subst c20
     rw [if_neg zF] at H
     have H' := zM H
     clear H
     go_wp2
     go_loopg [4] kj10 (fun kq v4 w' => ∃ (x4_3 : Int), v4 = .int .i64 x4_3 ∧ Aside0 (spec_PartOk.l1 kq x4_3 a0_0 l0_1 l0_2 = some r) ∧ Aside0 (kq ≤ kj10) ∧ Aside0 (w'.heap[gb375]? = some (.cells #[.string a0_0, (.slice A0_1 l0_1.length c0_1), (.slice A0_2 l0_2.length c0_2)] 49 (0, 0))) ∧ Aside0 (Below w.heap.size w w'))
     case atStart => exact ⟨(0), zJJ, H', ⟨Nat.le_refl _⟩, ⟨zK BK375.1⟩, ⟨zB0⟩⟩
     case round =>
      clear H'
      obtain ⟨x4_3, rfl, HA, HK3, BK375, HB⟩ := hrel
      cases gk with
      | zero => exact absurd HA.1 (by simp [spec_PartOk.l1])
      | succ k3 =>
       have H := HA.1
       clear HA
       simp only [spec_PartOk.l1] at H
       by_cases c21 : x4_3 < (l0_2.length : Int)
       rotate_left
       ·rw [if_neg c21] at H
        have c21b0 := decide_eq_false c21
        clear c21
        obtain rfl := Option.some.inj H
        have hcz69 := zc_3 (w := wr) BK375.1
        go_wp2
        go_ret
        exact ⟨zE, zB0⟩
       rw [if_pos c21] at H
       have c21b0 := decide_eq_true c21
       clear c21
       replace H := zIt H
       obtain ⟨c22b0, H⟩ := H
       replace H := zO H
       obtain ⟨t382, A23, H⟩ := H
       by_cases c24 : t382 = true
       rotate_left
       ·replace c24 := Bool.eq_false_iff.mpr c24
        subst c24
        rw [if_neg zF] at H
        obtain rfl := Option.some.inj H
        have hcz64 := zc_3 (w := wr) BK375.1
        obtain ⟨p380, q380, ad380, e380, hx380_0, hx380_1⟩ := zRd (at_T61 HR0_2.1 x4_3)
        cases e380
        replace hx380_0 := zHx HB.1 hx380_0
        replace hx380_1 := zHx HB.1 hx380_1
        go_wp2_with (first | ((with_reducible refine gate_dst (N := 5) rfl ?_); (try (refine gate_guard (by rfl) ?_; dsimp only)); (with_reducible refine zBx 5 61 #[.int .i64 0, .string (⟨#[]⟩ : ByteArray)] ?_); intro gb381 hg w65 hbox hb; have BK381 := zM hbox; have GW381 := zM (zW hg (below_size zB0)); have GE381 := zM (zW hg (below_size zB0)); replace HB := zM (below_step zB0 hb); have NB375_381 := zM ((zn BK375.1 hg : gb375 ≠ gb381)); have NB381_375 := zM ((zm BK375.1 hg : gb381 ≠ gb375)); replace BK375 := zM (zb BK375.1 hb); clear hb hbox hg; have hnb66 := NB381_375.1; have hnc66 := NB375_381.1; have hcz67 := zc_2 (w := w65) BK381.1; have hcz68 := zc_3 (w := w65) BK375.1) | ((with_reducible refine zG Try.func46 55 #[.int .i64 ((rd_T61 l0_2 x4_3).f0), .int .i64 0, .int .i64 (wrap64 ((l0_1.length : Int) - 1))] ?_); (with_reducible refine (spec_l1In.calls ((rd_T61 l0_2 x4_3).f0) 0 (wrap64 ((l0_1.length : Int) - 1)) false _ A23.1).mono ?_); rintro e w' ⟨rfl, ⟨nd, rfl⟩⟩; refine ⟨_, rfl, ?_⟩))
        go_ret
        exact ⟨zE, zB0⟩
       subst c24
       rw [if_pos rfl] at H
       replace H := zIt H
       obtain ⟨c25b0, H⟩ := H
       replace H := zIt H
       obtain ⟨c26b0, H⟩ := H
       replace H := zO H
       obtain ⟨t384, A27, H⟩ := H
       by_cases c28 : t384 = true
       rotate_left
       ·replace c28 := Bool.eq_false_iff.mpr c28
        subst c28
        rw [if_neg zF] at H
        obtain rfl := Option.some.inj H
        have hcz58 := zc_3 (w := wr) BK375.1
        obtain ⟨p380, q380, ad380, e380, hx380_0, hx380_1⟩ := zRd (at_T61 HR0_2.1 x4_3)
        cases e380
        replace hx380_0 := zHx HB.1 hx380_0
        replace hx380_1 := zHx HB.1 hx380_1
        go_wp2_with (first | ((with_reducible refine gate_dst (N := 5) rfl ?_); (try (refine gate_guard (by rfl) ?_; dsimp only)); (with_reducible refine zBx 5 61 #[.int .i64 0, .string (⟨#[]⟩ : ByteArray)] ?_); intro gb381 hg w59 hbox hb; have BK381 := zM hbox; have GW381 := zM (zW hg (below_size zB0)); have GE381 := zM (zW hg (below_size zB0)); replace HB := zM (below_step zB0 hb); have NB375_381 := zM ((zn BK375.1 hg : gb375 ≠ gb381)); have NB381_375 := zM ((zm BK375.1 hg : gb381 ≠ gb375)); replace BK375 := zM (zb BK375.1 hb); clear hb hbox hg; have hnb60 := NB381_375.1; have hnc60 := NB375_381.1; have hcz61 := zc_2 (w := w59) BK381.1; have hcz62 := zc_3 (w := w59) BK375.1) | ((with_reducible refine zG Try.func46 55 #[.int .i64 ((rd_T61 l0_2 x4_3).f0), .int .i64 0, .int .i64 (wrap64 ((l0_1.length : Int) - 1))] ?_); (with_reducible refine (spec_l1In.calls ((rd_T61 l0_2 x4_3).f0) 0 (wrap64 ((l0_1.length : Int) - 1)) true _ A23.1).mono ?_); rintro e w' ⟨rfl, ⟨nd, rfl⟩⟩; refine ⟨_, rfl, ?_⟩; have p383 : 0 ≤ (((rd_T61 l0_2 x4_3).f0) : Int) := zA; have q383 : ((rd_T61 l0_2 x4_3).f0) < (l0_1.length : Int) := zA; obtain ⟨ad383, e383, hx383_0, hx383_1, hx383_2, hx383_3, hx383_4⟩ := at_T57 HR0_1.1 ((rd_T61 l0_2 x4_3).f0) p383 q383; cases e383; have hn383_0 : ad383.block ≠ gb381 := Nat.ne_of_lt (Nat.lt_of_lt_of_le (by have := World.block_lt_of_cell? _ _ hx383_0; first | rwa [add_block] at this | exact this) GW381.1); have hn383_1 : ad383.block ≠ gb381 := Nat.ne_of_lt (Nat.lt_of_lt_of_le (by have := World.block_lt_of_cell? _ _ hx383_0; first | rwa [add_block] at this | exact this) GW381.1); replace hx383_0 := zHx HB.1 hx383_0; replace hx383_1 := zHx HB.1 hx383_1; replace hx383_2 := zHx HB.1 hx383_2; replace hx383_3 := zHx HB.1 hx383_3; replace hx383_4 := zHx HB.1 hx383_4; replace hx383_0 := (cell_far (p := ⟨gb381, 0, none⟩) (by first | (rw [add_block]; exact hn383_0) | (show (Addr.add _ _).block ≠ _; rw [add_block]; exact hn383_0) | exact hn383_0) (.int .i64 ((rd_T61 l0_2 x4_3).f0))).trans hx383_0; replace hx383_1 := (cell_far (p := ⟨gb381, 0, none⟩) (by first | (rw [add_block]; exact hn383_0) | (show (Addr.add _ _).block ≠ _; rw [add_block]; exact hn383_0) | exact hn383_0) (.int .i64 ((rd_T61 l0_2 x4_3).f0))).trans hx383_1; replace hx383_2 := (cell_far (p := ⟨gb381, 0, none⟩) (by first | (rw [add_block]; exact hn383_0) | (show (Addr.add _ _).block ≠ _; rw [add_block]; exact hn383_0) | exact hn383_0) (.int .i64 ((rd_T61 l0_2 x4_3).f0))).trans hx383_2; replace hx383_3 := (cell_far (p := ⟨gb381, 0, none⟩) (by first | (rw [add_block]; exact hn383_0) | (show (Addr.add _ _).block ≠ _; rw [add_block]; exact hn383_0) | exact hn383_0) (.int .i64 ((rd_T61 l0_2 x4_3).f0))).trans hx383_3; replace hx383_4 := (cell_far (p := ⟨gb381, 0, none⟩) (by first | (rw [add_block]; exact hn383_0) | (show (Addr.add _ _).block ≠ _; rw [add_block]; exact hn383_0) | exact hn383_0) (.int .i64 ((rd_T61 l0_2 x4_3).f0))).trans hx383_4; replace hx383_0 := (cell_far (p := ⟨gb381, 1, none⟩) (by first | (rw [add_block]; exact hn383_1) | (show (Addr.add _ _).block ≠ _; rw [add_block]; exact hn383_1) | exact hn383_1) (.string ((rd_T61 l0_2 x4_3).f1))).trans hx383_0; replace hx383_1 := (cell_far (p := ⟨gb381, 1, none⟩) (by first | (rw [add_block]; exact hn383_1) | (show (Addr.add _ _).block ≠ _; rw [add_block]; exact hn383_1) | exact hn383_1) (.string ((rd_T61 l0_2 x4_3).f1))).trans hx383_1; replace hx383_2 := (cell_far (p := ⟨gb381, 1, none⟩) (by first | (rw [add_block]; exact hn383_1) | (show (Addr.add _ _).block ≠ _; rw [add_block]; exact hn383_1) | exact hn383_1) (.string ((rd_T61 l0_2 x4_3).f1))).trans hx383_2; replace hx383_3 := (cell_far (p := ⟨gb381, 1, none⟩) (by first | (rw [add_block]; exact hn383_1) | (show (Addr.add _ _).block ≠ _; rw [add_block]; exact hn383_1) | exact hn383_1) (.string ((rd_T61 l0_2 x4_3).f1))).trans hx383_3; replace hx383_4 := (cell_far (p := ⟨gb381, 1, none⟩) (by first | (rw [add_block]; exact hn383_1) | (show (Addr.add _ _).block ≠ _; rw [add_block]; exact hn383_1) | exact hn383_1) (.string ((rd_T61 l0_2 x4_3).f1))).trans hx383_4; clear hn383_0; clear hn383_1; replace p383 := eq_true p383; replace q383 := eq_true q383) | (go_at_call 68; (with_reducible refine (spec_l27Goes.calls ((rd_T57 l0_1 ((rd_T61 l0_2 x4_3).f0)).f0) ((rd_T57 l0_1 ((rd_T61 l0_2 x4_3).f0)).f1) ((rd_T57 l0_1 ((rd_T61 l0_2 x4_3).f0)).f2) ((rd_T57 l0_1 ((rd_T61 l0_2 x4_3).f0)).f3) ((rd_T57 l0_1 ((rd_T61 l0_2 x4_3).f0)).f4) false _ A27.1).mono ?_); rintro e w63 ⟨rfl, hb⟩; replace BK375 := zM (zf BK375.1 hb); replace BK381 := zM (blk_below (g := gb381) (o := .cells #[.int .i64 ((rd_T61 l0_2 x4_3).f0), .string ((rd_T61 l0_2 x4_3).f1)] 61 (0, 0)) (by exact zp2 (zK BK381.1)) hb); replace HB := zM (below_step zB0 hb); clear hb))
        go_ret
        exact ⟨zE, zB0⟩
       subst c28
       rw [if_pos rfl] at H
       replace H := zO H
       obtain ⟨t385, A29, H⟩ := H
       by_cases c30 : t385 = true
       rotate_left
       ·replace c30 := Bool.eq_false_iff.mpr c30
        subst c30
        rw [if_neg zF] at H
        obtain rfl := Option.some.inj H
        have hcz51 := zc_3 (w := wr) BK375.1
        obtain ⟨p380, q380, ad380, e380, hx380_0, hx380_1⟩ := zRd (at_T61 HR0_2.1 x4_3)
        cases e380
        replace hx380_0 := zHx HB.1 hx380_0
        replace hx380_1 := zHx HB.1 hx380_1
        go_wp2_with (first | ((with_reducible refine gate_dst (N := 5) rfl ?_); (try (refine gate_guard (by rfl) ?_; dsimp only)); (with_reducible refine zBx 5 61 #[.int .i64 0, .string (⟨#[]⟩ : ByteArray)] ?_); intro gb381 hg w52 hbox hb; have BK381 := zM hbox; have GW381 := zM (zW hg (below_size zB0)); have GE381 := zM (zW hg (below_size zB0)); replace HB := zM (below_step zB0 hb); have NB375_381 := zM ((zn BK375.1 hg : gb375 ≠ gb381)); have NB381_375 := zM ((zm BK375.1 hg : gb381 ≠ gb375)); replace BK375 := zM (zb BK375.1 hb); clear hb hbox hg; have hnb53 := NB381_375.1; have hnc53 := NB375_381.1; have hcz54 := zc_2 (w := w52) BK381.1; have hcz55 := zc_3 (w := w52) BK375.1) | ((with_reducible refine zG Try.func46 55 #[.int .i64 ((rd_T61 l0_2 x4_3).f0), .int .i64 0, .int .i64 (wrap64 ((l0_1.length : Int) - 1))] ?_); (with_reducible refine (spec_l1In.calls ((rd_T61 l0_2 x4_3).f0) 0 (wrap64 ((l0_1.length : Int) - 1)) true _ A23.1).mono ?_); rintro e w' ⟨rfl, ⟨nd, rfl⟩⟩; refine ⟨_, rfl, ?_⟩; have p383 : 0 ≤ (((rd_T61 l0_2 x4_3).f0) : Int) := zA; have q383 : ((rd_T61 l0_2 x4_3).f0) < (l0_1.length : Int) := zA; obtain ⟨ad383, e383, hx383_0, hx383_1, hx383_2, hx383_3, hx383_4⟩ := at_T57 HR0_1.1 ((rd_T61 l0_2 x4_3).f0) p383 q383; cases e383; have hn383_0 : ad383.block ≠ gb381 := Nat.ne_of_lt (Nat.lt_of_lt_of_le (by have := World.block_lt_of_cell? _ _ hx383_0; first | rwa [add_block] at this | exact this) GW381.1); have hn383_1 : ad383.block ≠ gb381 := Nat.ne_of_lt (Nat.lt_of_lt_of_le (by have := World.block_lt_of_cell? _ _ hx383_0; first | rwa [add_block] at this | exact this) GW381.1); replace hx383_0 := zHx HB.1 hx383_0; replace hx383_1 := zHx HB.1 hx383_1; replace hx383_2 := zHx HB.1 hx383_2; replace hx383_3 := zHx HB.1 hx383_3; replace hx383_4 := zHx HB.1 hx383_4; replace hx383_0 := (cell_far (p := ⟨gb381, 0, none⟩) (by first | (rw [add_block]; exact hn383_0) | (show (Addr.add _ _).block ≠ _; rw [add_block]; exact hn383_0) | exact hn383_0) (.int .i64 ((rd_T61 l0_2 x4_3).f0))).trans hx383_0; replace hx383_1 := (cell_far (p := ⟨gb381, 0, none⟩) (by first | (rw [add_block]; exact hn383_0) | (show (Addr.add _ _).block ≠ _; rw [add_block]; exact hn383_0) | exact hn383_0) (.int .i64 ((rd_T61 l0_2 x4_3).f0))).trans hx383_1; replace hx383_2 := (cell_far (p := ⟨gb381, 0, none⟩) (by first | (rw [add_block]; exact hn383_0) | (show (Addr.add _ _).block ≠ _; rw [add_block]; exact hn383_0) | exact hn383_0) (.int .i64 ((rd_T61 l0_2 x4_3).f0))).trans hx383_2; replace hx383_3 := (cell_far (p := ⟨gb381, 0, none⟩) (by first | (rw [add_block]; exact hn383_0) | (show (Addr.add _ _).block ≠ _; rw [add_block]; exact hn383_0) | exact hn383_0) (.int .i64 ((rd_T61 l0_2 x4_3).f0))).trans hx383_3; replace hx383_4 := (cell_far (p := ⟨gb381, 0, none⟩) (by first | (rw [add_block]; exact hn383_0) | (show (Addr.add _ _).block ≠ _; rw [add_block]; exact hn383_0) | exact hn383_0) (.int .i64 ((rd_T61 l0_2 x4_3).f0))).trans hx383_4; replace hx383_0 := (cell_far (p := ⟨gb381, 1, none⟩) (by first | (rw [add_block]; exact hn383_1) | (show (Addr.add _ _).block ≠ _; rw [add_block]; exact hn383_1) | exact hn383_1) (.string ((rd_T61 l0_2 x4_3).f1))).trans hx383_0; replace hx383_1 := (cell_far (p := ⟨gb381, 1, none⟩) (by first | (rw [add_block]; exact hn383_1) | (show (Addr.add _ _).block ≠ _; rw [add_block]; exact hn383_1) | exact hn383_1) (.string ((rd_T61 l0_2 x4_3).f1))).trans hx383_1; replace hx383_2 := (cell_far (p := ⟨gb381, 1, none⟩) (by first | (rw [add_block]; exact hn383_1) | (show (Addr.add _ _).block ≠ _; rw [add_block]; exact hn383_1) | exact hn383_1) (.string ((rd_T61 l0_2 x4_3).f1))).trans hx383_2; replace hx383_3 := (cell_far (p := ⟨gb381, 1, none⟩) (by first | (rw [add_block]; exact hn383_1) | (show (Addr.add _ _).block ≠ _; rw [add_block]; exact hn383_1) | exact hn383_1) (.string ((rd_T61 l0_2 x4_3).f1))).trans hx383_3; replace hx383_4 := (cell_far (p := ⟨gb381, 1, none⟩) (by first | (rw [add_block]; exact hn383_1) | (show (Addr.add _ _).block ≠ _; rw [add_block]; exact hn383_1) | exact hn383_1) (.string ((rd_T61 l0_2 x4_3).f1))).trans hx383_4; clear hn383_0; clear hn383_1; replace p383 := eq_true p383; replace q383 := eq_true q383) | (go_at_call 68; (with_reducible refine (spec_l27Goes.calls ((rd_T57 l0_1 ((rd_T61 l0_2 x4_3).f0)).f0) ((rd_T57 l0_1 ((rd_T61 l0_2 x4_3).f0)).f1) ((rd_T57 l0_1 ((rd_T61 l0_2 x4_3).f0)).f2) ((rd_T57 l0_1 ((rd_T61 l0_2 x4_3).f0)).f3) ((rd_T57 l0_1 ((rd_T61 l0_2 x4_3).f0)).f4) true _ A27.1).mono ?_); rintro e w56 ⟨rfl, hb⟩; replace BK375 := zM (zf BK375.1 hb); replace BK381 := zM (blk_below (g := gb381) (o := .cells #[.int .i64 ((rd_T61 l0_2 x4_3).f0), .string ((rd_T61 l0_2 x4_3).f1)] 61 (0, 0)) (by exact zp2 (zK BK381.1)) hb); replace HB := zM (below_step zB0 hb); clear hb; have hcz57 := zc_2 (w := w56) BK381.1) | (go_at_call 67; (with_reducible refine (spec_l27Name.calls k3 ((rd_T61 l0_2 x4_3).f1) false _ A29.1).mono ?_); rintro e w' ⟨rfl, ⟨nd, rfl⟩⟩))
        go_ret
        exact ⟨zE, zB0⟩
       subst c30
       rw [if_pos rfl] at H
       replace H := zO H
       obtain ⟨t386, A31, H⟩ := H
       by_cases c32 : t386 = x4_3
       rotate_left
       ·rw [if_neg c32] at H
        have c32b0 : (t386 == x4_3) = false := beq_eq_false_iff_ne.mpr c32
        have c32b1 : (t386 != x4_3) = true := bne_iff_ne.mpr c32
        obtain rfl := Option.some.inj H
        have hcz42 := zc_3 (w := wr) BK375.1
        obtain ⟨p380, q380, ad380, e380, hx380_0, hx380_1⟩ := zRd (at_T61 HR0_2.1 x4_3)
        cases e380
        replace hx380_0 := zHx HB.1 hx380_0
        replace hx380_1 := zHx HB.1 hx380_1
        go_wp2_with (first | ((with_reducible refine gate_dst (N := 5) rfl ?_); (try (refine gate_guard (by rfl) ?_; dsimp only)); (with_reducible refine zBx 5 61 #[.int .i64 0, .string (⟨#[]⟩ : ByteArray)] ?_); intro gb381 hg w43 hbox hb; have BK381 := zM hbox; have GW381 := zM (zW hg (below_size zB0)); have GE381 := zM (zW hg (below_size zB0)); replace HB := zM (below_step zB0 hb); have NB375_381 := zM ((zn BK375.1 hg : gb375 ≠ gb381)); have NB381_375 := zM ((zm BK375.1 hg : gb381 ≠ gb375)); replace BK375 := zM (zb BK375.1 hb); clear hb hbox hg; have hnb44 := NB381_375.1; have hnc44 := NB375_381.1; have hcz45 := zc_2 (w := w43) BK381.1; have hcz46 := zc_3 (w := w43) BK375.1) | ((with_reducible refine zG Try.func46 55 #[.int .i64 ((rd_T61 l0_2 x4_3).f0), .int .i64 0, .int .i64 (wrap64 ((l0_1.length : Int) - 1))] ?_); (with_reducible refine (spec_l1In.calls ((rd_T61 l0_2 x4_3).f0) 0 (wrap64 ((l0_1.length : Int) - 1)) true _ A23.1).mono ?_); rintro e w' ⟨rfl, ⟨nd, rfl⟩⟩; refine ⟨_, rfl, ?_⟩; have p383 : 0 ≤ (((rd_T61 l0_2 x4_3).f0) : Int) := zA; have q383 : ((rd_T61 l0_2 x4_3).f0) < (l0_1.length : Int) := zA; obtain ⟨ad383, e383, hx383_0, hx383_1, hx383_2, hx383_3, hx383_4⟩ := at_T57 HR0_1.1 ((rd_T61 l0_2 x4_3).f0) p383 q383; cases e383; have hn383_0 : ad383.block ≠ gb381 := Nat.ne_of_lt (Nat.lt_of_lt_of_le (by have := World.block_lt_of_cell? _ _ hx383_0; first | rwa [add_block] at this | exact this) GW381.1); have hn383_1 : ad383.block ≠ gb381 := Nat.ne_of_lt (Nat.lt_of_lt_of_le (by have := World.block_lt_of_cell? _ _ hx383_0; first | rwa [add_block] at this | exact this) GW381.1); replace hx383_0 := zHx HB.1 hx383_0; replace hx383_1 := zHx HB.1 hx383_1; replace hx383_2 := zHx HB.1 hx383_2; replace hx383_3 := zHx HB.1 hx383_3; replace hx383_4 := zHx HB.1 hx383_4; replace hx383_0 := (cell_far (p := ⟨gb381, 0, none⟩) (by first | (rw [add_block]; exact hn383_0) | (show (Addr.add _ _).block ≠ _; rw [add_block]; exact hn383_0) | exact hn383_0) (.int .i64 ((rd_T61 l0_2 x4_3).f0))).trans hx383_0; replace hx383_1 := (cell_far (p := ⟨gb381, 0, none⟩) (by first | (rw [add_block]; exact hn383_0) | (show (Addr.add _ _).block ≠ _; rw [add_block]; exact hn383_0) | exact hn383_0) (.int .i64 ((rd_T61 l0_2 x4_3).f0))).trans hx383_1; replace hx383_2 := (cell_far (p := ⟨gb381, 0, none⟩) (by first | (rw [add_block]; exact hn383_0) | (show (Addr.add _ _).block ≠ _; rw [add_block]; exact hn383_0) | exact hn383_0) (.int .i64 ((rd_T61 l0_2 x4_3).f0))).trans hx383_2; replace hx383_3 := (cell_far (p := ⟨gb381, 0, none⟩) (by first | (rw [add_block]; exact hn383_0) | (show (Addr.add _ _).block ≠ _; rw [add_block]; exact hn383_0) | exact hn383_0) (.int .i64 ((rd_T61 l0_2 x4_3).f0))).trans hx383_3; replace hx383_4 := (cell_far (p := ⟨gb381, 0, none⟩) (by first | (rw [add_block]; exact hn383_0) | (show (Addr.add _ _).block ≠ _; rw [add_block]; exact hn383_0) | exact hn383_0) (.int .i64 ((rd_T61 l0_2 x4_3).f0))).trans hx383_4; replace hx383_0 := (cell_far (p := ⟨gb381, 1, none⟩) (by first | (rw [add_block]; exact hn383_1) | (show (Addr.add _ _).block ≠ _; rw [add_block]; exact hn383_1) | exact hn383_1) (.string ((rd_T61 l0_2 x4_3).f1))).trans hx383_0; replace hx383_1 := (cell_far (p := ⟨gb381, 1, none⟩) (by first | (rw [add_block]; exact hn383_1) | (show (Addr.add _ _).block ≠ _; rw [add_block]; exact hn383_1) | exact hn383_1) (.string ((rd_T61 l0_2 x4_3).f1))).trans hx383_1; replace hx383_2 := (cell_far (p := ⟨gb381, 1, none⟩) (by first | (rw [add_block]; exact hn383_1) | (show (Addr.add _ _).block ≠ _; rw [add_block]; exact hn383_1) | exact hn383_1) (.string ((rd_T61 l0_2 x4_3).f1))).trans hx383_2; replace hx383_3 := (cell_far (p := ⟨gb381, 1, none⟩) (by first | (rw [add_block]; exact hn383_1) | (show (Addr.add _ _).block ≠ _; rw [add_block]; exact hn383_1) | exact hn383_1) (.string ((rd_T61 l0_2 x4_3).f1))).trans hx383_3; replace hx383_4 := (cell_far (p := ⟨gb381, 1, none⟩) (by first | (rw [add_block]; exact hn383_1) | (show (Addr.add _ _).block ≠ _; rw [add_block]; exact hn383_1) | exact hn383_1) (.string ((rd_T61 l0_2 x4_3).f1))).trans hx383_4; clear hn383_0; clear hn383_1; replace p383 := eq_true p383; replace q383 := eq_true q383) | (go_at_call 68; (with_reducible refine (spec_l27Goes.calls ((rd_T57 l0_1 ((rd_T61 l0_2 x4_3).f0)).f0) ((rd_T57 l0_1 ((rd_T61 l0_2 x4_3).f0)).f1) ((rd_T57 l0_1 ((rd_T61 l0_2 x4_3).f0)).f2) ((rd_T57 l0_1 ((rd_T61 l0_2 x4_3).f0)).f3) ((rd_T57 l0_1 ((rd_T61 l0_2 x4_3).f0)).f4) true _ A27.1).mono ?_); rintro e w47 ⟨rfl, hb⟩; replace BK375 := zM (zf BK375.1 hb); replace BK381 := zM (blk_below (g := gb381) (o := .cells #[.int .i64 ((rd_T61 l0_2 x4_3).f0), .string ((rd_T61 l0_2 x4_3).f1)] 61 (0, 0)) (by exact zp2 (zK BK381.1)) hb); replace HB := zM (below_step zB0 hb); clear hb; have hcz48 := zc_2 (w := w47) BK381.1) | (go_at_call 67; (with_reducible refine (spec_l27Name.calls k3 ((rd_T61 l0_2 x4_3).f1) true _ A29.1).mono ?_); rintro e w' ⟨rfl, ⟨nd, rfl⟩⟩; have hcz49 := zc_3 (w := w47) BK375.1) | (go_at_call 56; (with_reducible refine (spec_l27Ref.calls k3 a0_0 _ _ l0_1 _ _ l0_2 ((rd_T61 l0_2 x4_3).f0) t386 _ ?side1 ?side2 ?side3 ?side4 A31.1).mono ?_); (case side1 => repeat (first | exact (Kd.C_below HR0_1.1 zB0) | (with_reducible refine Kd.C_alloc ?_ _) | (with_reducible refine Kd.C_drewN ?_ _) | (with_reducible refine Kd.C_drew ?_))); (case side2 => exact HC0_1.1); (case side3 => repeat (first | exact (Kd.C_below HR0_2.1 zB0) | (with_reducible refine Kd.C_alloc ?_ _) | (with_reducible refine Kd.C_drewN ?_ _) | (with_reducible refine Kd.C_drew ?_))); (case side4 => exact HC0_2.1); rintro e w50 ⟨rfl, hb⟩; replace BK375 := zM (zb BK375.1 hb); replace BK381 := zM (zb BK381.1 hb); replace HB := zM (below_step zB0 hb); clear hb))
        go_ret
        exact ⟨zE, zB0⟩
       rw [if_pos c32] at H
       have c32b0 : (t386 == x4_3) = true := beq_iff_eq.mpr c32
       have c32b1 : (t386 != x4_3) = false := bne_eq_false_iff_eq.mpr c32
       clear c32
       have H' := zM H
       clear H
       have hcz33 := zc_3 (w := wr) BK375.1
       obtain ⟨p380, q380, ad380, e380, hx380_0, hx380_1⟩ := zRd (at_T61 HR0_2.1 x4_3)
       cases e380
       replace hx380_0 := zHx HB.1 hx380_0
       replace hx380_1 := zHx HB.1 hx380_1
       go_wp2_with (first | ((with_reducible refine gate_dst (N := 5) rfl ?_); (try (refine gate_guard (by rfl) ?_; dsimp only)); (with_reducible refine zBx 5 61 #[.int .i64 0, .string (⟨#[]⟩ : ByteArray)] ?_); intro gb381 hg w34 hbox hb; have BK381 := zM hbox; have GW381 := zM (zW hg (below_size zB0)); have GE381 := zM (zW hg (below_size zB0)); replace HB := zM (below_step zB0 hb); have NB375_381 := zM ((zn BK375.1 hg : gb375 ≠ gb381)); have NB381_375 := zM ((zm BK375.1 hg : gb381 ≠ gb375)); replace BK375 := zM (zb BK375.1 hb); clear hb hbox hg; have hnb35 := NB381_375.1; have hnc35 := NB375_381.1; have hcz36 := zc_2 (w := w34) BK381.1; have hcz37 := zc_3 (w := w34) BK375.1) | ((with_reducible refine zG Try.func46 55 #[.int .i64 ((rd_T61 l0_2 x4_3).f0), .int .i64 0, .int .i64 (wrap64 ((l0_1.length : Int) - 1))] ?_); (with_reducible refine (spec_l1In.calls ((rd_T61 l0_2 x4_3).f0) 0 (wrap64 ((l0_1.length : Int) - 1)) true _ A23.1).mono ?_); rintro e w' ⟨rfl, ⟨nd, rfl⟩⟩; refine ⟨_, rfl, ?_⟩; have p383 : 0 ≤ (((rd_T61 l0_2 x4_3).f0) : Int) := zA; have q383 : ((rd_T61 l0_2 x4_3).f0) < (l0_1.length : Int) := zA; obtain ⟨ad383, e383, hx383_0, hx383_1, hx383_2, hx383_3, hx383_4⟩ := at_T57 HR0_1.1 ((rd_T61 l0_2 x4_3).f0) p383 q383; cases e383; have hn383_0 : ad383.block ≠ gb381 := Nat.ne_of_lt (Nat.lt_of_lt_of_le (by have := World.block_lt_of_cell? _ _ hx383_0; first | rwa [add_block] at this | exact this) GW381.1); have hn383_1 : ad383.block ≠ gb381 := Nat.ne_of_lt (Nat.lt_of_lt_of_le (by have := World.block_lt_of_cell? _ _ hx383_0; first | rwa [add_block] at this | exact this) GW381.1); replace hx383_0 := zHx HB.1 hx383_0; replace hx383_1 := zHx HB.1 hx383_1; replace hx383_2 := zHx HB.1 hx383_2; replace hx383_3 := zHx HB.1 hx383_3; replace hx383_4 := zHx HB.1 hx383_4; replace hx383_0 := (cell_far (p := ⟨gb381, 0, none⟩) (by first | (rw [add_block]; exact hn383_0) | (show (Addr.add _ _).block ≠ _; rw [add_block]; exact hn383_0) | exact hn383_0) (.int .i64 ((rd_T61 l0_2 x4_3).f0))).trans hx383_0; replace hx383_1 := (cell_far (p := ⟨gb381, 0, none⟩) (by first | (rw [add_block]; exact hn383_0) | (show (Addr.add _ _).block ≠ _; rw [add_block]; exact hn383_0) | exact hn383_0) (.int .i64 ((rd_T61 l0_2 x4_3).f0))).trans hx383_1; replace hx383_2 := (cell_far (p := ⟨gb381, 0, none⟩) (by first | (rw [add_block]; exact hn383_0) | (show (Addr.add _ _).block ≠ _; rw [add_block]; exact hn383_0) | exact hn383_0) (.int .i64 ((rd_T61 l0_2 x4_3).f0))).trans hx383_2; replace hx383_3 := (cell_far (p := ⟨gb381, 0, none⟩) (by first | (rw [add_block]; exact hn383_0) | (show (Addr.add _ _).block ≠ _; rw [add_block]; exact hn383_0) | exact hn383_0) (.int .i64 ((rd_T61 l0_2 x4_3).f0))).trans hx383_3; replace hx383_4 := (cell_far (p := ⟨gb381, 0, none⟩) (by first | (rw [add_block]; exact hn383_0) | (show (Addr.add _ _).block ≠ _; rw [add_block]; exact hn383_0) | exact hn383_0) (.int .i64 ((rd_T61 l0_2 x4_3).f0))).trans hx383_4; replace hx383_0 := (cell_far (p := ⟨gb381, 1, none⟩) (by first | (rw [add_block]; exact hn383_1) | (show (Addr.add _ _).block ≠ _; rw [add_block]; exact hn383_1) | exact hn383_1) (.string ((rd_T61 l0_2 x4_3).f1))).trans hx383_0; replace hx383_1 := (cell_far (p := ⟨gb381, 1, none⟩) (by first | (rw [add_block]; exact hn383_1) | (show (Addr.add _ _).block ≠ _; rw [add_block]; exact hn383_1) | exact hn383_1) (.string ((rd_T61 l0_2 x4_3).f1))).trans hx383_1; replace hx383_2 := (cell_far (p := ⟨gb381, 1, none⟩) (by first | (rw [add_block]; exact hn383_1) | (show (Addr.add _ _).block ≠ _; rw [add_block]; exact hn383_1) | exact hn383_1) (.string ((rd_T61 l0_2 x4_3).f1))).trans hx383_2; replace hx383_3 := (cell_far (p := ⟨gb381, 1, none⟩) (by first | (rw [add_block]; exact hn383_1) | (show (Addr.add _ _).block ≠ _; rw [add_block]; exact hn383_1) | exact hn383_1) (.string ((rd_T61 l0_2 x4_3).f1))).trans hx383_3; replace hx383_4 := (cell_far (p := ⟨gb381, 1, none⟩) (by first | (rw [add_block]; exact hn383_1) | (show (Addr.add _ _).block ≠ _; rw [add_block]; exact hn383_1) | exact hn383_1) (.string ((rd_T61 l0_2 x4_3).f1))).trans hx383_4; clear hn383_0; clear hn383_1; replace p383 := eq_true p383; replace q383 := eq_true q383) | (go_at_call 68; (with_reducible refine (spec_l27Goes.calls ((rd_T57 l0_1 ((rd_T61 l0_2 x4_3).f0)).f0) ((rd_T57 l0_1 ((rd_T61 l0_2 x4_3).f0)).f1) ((rd_T57 l0_1 ((rd_T61 l0_2 x4_3).f0)).f2) ((rd_T57 l0_1 ((rd_T61 l0_2 x4_3).f0)).f3) ((rd_T57 l0_1 ((rd_T61 l0_2 x4_3).f0)).f4) true _ A27.1).mono ?_); rintro e w38 ⟨rfl, hb⟩; replace BK375 := zM (zf BK375.1 hb); replace BK381 := zM (blk_below (g := gb381) (o := .cells #[.int .i64 ((rd_T61 l0_2 x4_3).f0), .string ((rd_T61 l0_2 x4_3).f1)] 61 (0, 0)) (by exact zp2 (zK BK381.1)) hb); replace HB := zM (below_step zB0 hb); clear hb; have hcz39 := zc_2 (w := w38) BK381.1) | (go_at_call 67; (with_reducible refine (spec_l27Name.calls k3 ((rd_T61 l0_2 x4_3).f1) true _ A29.1).mono ?_); rintro e w' ⟨rfl, ⟨nd, rfl⟩⟩; have hcz40 := zc_3 (w := w38) BK375.1) | (go_at_call 56; (with_reducible refine (spec_l27Ref.calls k3 a0_0 _ _ l0_1 _ _ l0_2 ((rd_T61 l0_2 x4_3).f0) t386 _ ?side1 ?side2 ?side3 ?side4 A31.1).mono ?_); (case side1 => repeat (first | exact (Kd.C_below HR0_1.1 zB0) | (with_reducible refine Kd.C_alloc ?_ _) | (with_reducible refine Kd.C_drewN ?_ _) | (with_reducible refine Kd.C_drew ?_))); (case side2 => exact HC0_1.1); (case side3 => repeat (first | exact (Kd.C_below HR0_2.1 zB0) | (with_reducible refine Kd.C_alloc ?_ _) | (with_reducible refine Kd.C_drewN ?_ _) | (with_reducible refine Kd.C_drew ?_))); (case side4 => exact HC0_2.1); rintro e w41 ⟨rfl, hb⟩; replace BK375 := zM (zb BK375.1 hb); replace BK381 := zM (zb BK381.1 hb); replace HB := zM (below_step zB0 hb); clear hb))
       go_roundg k3
       case measure => have := HK1.1; have := HJ10.1; have := HK3.1; omega
       case rel => exact ⟨(wrap64 (x4_3 + 1)), zJJ, H', ⟨by have := HK1.1; have := HJ10.1; have := HK3.1; omega⟩, ⟨zK BK375.1⟩, ⟨zB0⟩⟩

end Go.Proofs.Ytaakcbgpmabaaaa.PFnLinked
