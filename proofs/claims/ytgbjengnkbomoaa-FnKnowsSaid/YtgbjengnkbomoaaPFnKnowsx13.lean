-- made by wip/tools/myprint.py out of the seat's translation
import Derived.Test.YtgbjengnkbomoaaPFnKnowsx0
import Derived.Test.YtgbjengnkbomoaaPFnKnowsx1
import Derived.Test.YtgbjengnkbomoaaPFnKnowsx2
import Derived.Test.YtgbjengnkbomoaaPFnKnowsx4
import Derived.Test.YtgbjengnkbomoaaPFnKnowsx12
namespace Go.Proofs.Ytgbjengnkbomoaa.PFnKnows
open Go.RowKit Go.Proofs.YtgbjengnkbomoaaW.PrintWords Go.Proofs.YtgbjengnkbomoaaW.PrintLast Go.Proofs.YtgbjengnkbomoaaW.PrintMore
attribute [local go_sem] max2_int min2_int max_two min_two max_three min_three max_four min_four   -- for this text's walks alone
set_option linter.unusedVariables false
set_option linter.unusedSimpArgs false
set_option maxHeartbeats 8000000
set_option maxRecDepth 100000

/-! ### impl_knows: function 43 -/
def impl_knows.f (k : Nat) (l0 : List (List Int)) (a1 : Int) (a2 : Int) : Option (Bool) := if a1 < a2 then ((impl_from.f a1 0 (wrap64 ((l0.length : Int) - 1))).bind fun t701 => (if t701 = true then ((impl_from.f a2 0 (wrap64 ((l0.length : Int) - 1))).bind fun t702 => (if t702 = true then (if 0 ≤ a1 then (if a1 < (l0.length : Int) then (if 0 ≤ a2 then (if a2 < (l0.length : Int) then ((impl_ClockWithin.f k (rd_L3 l0 a1) (rd_L3 l0 a2)).bind fun t705 => (some t705)) else (none)) else (none)) else (none)) else (none)) else (some false))) else (some false))) else (some false)
theorem impl_knows.mono : ∀ a0 a1 a2 k, LeO (impl_knows.f k a0 a1 a2) (impl_knows.f (k + 1) a0 a1 a2) := by
 intro a0 a1 a2 k
 unfold impl_knows.f
 have mo0 := @impl_ClockWithin.mono
 exact zL
theorem impl_knows.calls (k : Nat) (A0 : Option Addr) (c0 : Nat) (l0 : List (List Int)) (a1 : Int) (a2 : Int) (r : Bool) (w : World) (hr0 : Kd.C (Kd.slice 3 (Kd.int .i64)) w A0 l0.length l0) (hc0 : l0.length ≤ c0) (h : impl_knows.f k l0 a1 a2 = some r) :
  Calls Try.prog 43 #[.slice A0 l0.length c0, .int .i64 a1, .int .i64 a2] w fun e w' => e = .returned (.bool r) ∧ Drawn0 w w' := by
 have HR0 := zM hr0
 clear hr0 hc0
 unfold impl_knows.f at h
 have H := h
 clear h
 by_cases c4 : a1 < a2
 rotate_left
 ·rw [if_neg c4] at H
  have c4b0 := decide_eq_false c4
  clear c4
  obtain rfl := Option.some.inj H
  go_enter Try.func43, Try.ntmps43
  go_wp2
  repeat (go_quiet (fail); try go_wp2)
  go_ret
  exact ⟨zJJ, zDD⟩
 rw [if_pos c4] at H
 have c4b0 := decide_eq_true c4
 clear c4
 replace H := zO H
 obtain ⟨t701, A5, H⟩ := H
 by_cases c6 : t701 = true
 rotate_left
 ·replace c6 := Bool.eq_false_iff.mpr c6
  subst c6
  rw [if_neg zF] at H
  obtain rfl := Option.some.inj H
  go_enter Try.func43, Try.ntmps43
  go_wp2_with (first | fail)
  repeat (go_quiet (first | (go_at_call 31; (with_reducible refine (impl_from.calls a1 0 (wrap64 ((l0.length : Int) - 1)) false _ A5.1).mono ?_); rintro e w' ⟨rfl, ⟨nd, rfl⟩⟩; (try first | exact ⟨rfl, _, World.drewN_drewN _ _ _⟩ | exact ⟨rfl, _, Eq.trans (World.drewN_drewN _ _ _) (congrArg (World.drewN _) (Nat.add_assoc _ _ _))⟩))); try go_wp2_with (first | fail))
  go_ret
  exact ⟨zJJ, zDD⟩
 subst c6
 rw [if_pos rfl] at H
 replace H := zO H
 obtain ⟨t702, A7, H⟩ := H
 by_cases c8 : t702 = true
 rotate_left
 ·replace c8 := Bool.eq_false_iff.mpr c8
  subst c8
  rw [if_neg zF] at H
  obtain rfl := Option.some.inj H
  go_enter Try.func43, Try.ntmps43
  go_wp2_with (first | fail)
  repeat (go_quiet (first | (go_at_call 31; (with_reducible refine (impl_from.calls a1 0 (wrap64 ((l0.length : Int) - 1)) true _ A5.1).mono ?_); rintro e w' ⟨rfl, ⟨nd, rfl⟩⟩; (try first | exact ⟨rfl, _, World.drewN_drewN _ _ _⟩ | exact ⟨rfl, _, Eq.trans (World.drewN_drewN _ _ _) (congrArg (World.drewN _) (Nat.add_assoc _ _ _))⟩)) | (go_at_call 31; (with_reducible refine (impl_from.calls a2 0 (wrap64 ((l0.length : Int) - 1)) false _ A7.1).mono ?_); rintro e w' ⟨rfl, ⟨nd, rfl⟩⟩; (try first | exact ⟨rfl, _, World.drewN_drewN _ _ _⟩ | exact ⟨rfl, _, Eq.trans (World.drewN_drewN _ _ _) (congrArg (World.drewN _) (Nat.add_assoc _ _ _))⟩))); try go_wp2_with (first | fail))
  go_ret
  exact ⟨zJJ, zDD⟩
 subst c8
 rw [if_pos rfl] at H
 replace H := zIt H
 obtain ⟨c9b0, H⟩ := H
 replace H := zIt H
 obtain ⟨c10b0, H⟩ := H
 replace H := zIt H
 obtain ⟨c11b0, H⟩ := H
 replace H := zIt H
 obtain ⟨c12b0, H⟩ := H
 replace H := zO H
 obtain ⟨t705, A13, H⟩ := H
 obtain rfl := Option.some.inj H
 go_enter Try.func43, Try.ntmps43
 have p703 : 0 ≤ (a1 : Int) := zA
 have q703 : a1 < (l0.length : Int) := zA
 obtain ⟨ad703, A703_0, c703_0, e703, hx703_0, hl703_0, hi703_0⟩ := at_L3 HR0.1 a1 p703 q703
 cases e703
 have HR703_0 := zM hi703_0
 have HC703_0 := zM hl703_0
 clear hi703_0 hl703_0
 replace p703 := eq_true p703
 replace q703 := eq_true q703
 have p704 : 0 ≤ (a2 : Int) := zA
 have q704 : a2 < (l0.length : Int) := zA
 obtain ⟨ad704, A704_0, c704_0, e704, hx704_0, hl704_0, hi704_0⟩ := at_L3 HR0.1 a2 p704 q704
 obtain rfl : ad703 = ad704 := (by injection e704)
 have HR704_0 := zM hi704_0
 have HC704_0 := zM hl704_0
 clear hi704_0 hl704_0
 replace p704 := eq_true p704
 replace q704 := eq_true q704
 go_wp2_with (first | fail)
 repeat (go_quiet (first | (go_at_call 31; (with_reducible refine (impl_from.calls a1 0 (wrap64 ((l0.length : Int) - 1)) true _ A5.1).mono ?_); rintro e w' ⟨rfl, ⟨nd, rfl⟩⟩; (try first | exact ⟨rfl, _, World.drewN_drewN _ _ _⟩ | exact ⟨rfl, _, Eq.trans (World.drewN_drewN _ _ _) (congrArg (World.drewN _) (Nat.add_assoc _ _ _))⟩)) | (go_at_call 31; (with_reducible refine (impl_from.calls a2 0 (wrap64 ((l0.length : Int) - 1)) true _ A7.1).mono ?_); rintro e w' ⟨rfl, ⟨nd, rfl⟩⟩; (try first | exact ⟨rfl, _, World.drewN_drewN _ _ _⟩ | exact ⟨rfl, _, Eq.trans (World.drewN_drewN _ _ _) (congrArg (World.drewN _) (Nat.add_assoc _ _ _))⟩)) | (go_at_call 65; (with_reducible refine (impl_ClockWithin.calls k _ _ (rd_L3 l0 a1) _ _ (rd_L3 l0 a2) t705 _ ?side1 ?side2 ?side3 ?side4 A13.1).mono ?_); (case side1 => exact zC HR703_0.1); (case side2 => exact HC703_0.1); (case side3 => exact zC HR704_0.1); (case side4 => exact HC704_0.1); rintro e w' ⟨rfl, ⟨nd, rfl⟩⟩; (try first | exact ⟨rfl, _, World.drewN_drewN _ _ _⟩ | exact ⟨rfl, _, Eq.trans (World.drewN_drewN _ _ _) (congrArg (World.drewN _) (Nat.add_assoc _ _ _))⟩))); try go_wp2_with (first | fail))
 go_ret
 exact ⟨zJJ, zDD⟩

/-! ### impl_Knows: function 16 -/
def impl_Knows.f (k : Nat) (a0 : Int) (l1 : List (S31)) (a2 : Int) (a3 : Int) : Option (Bool) := (impl_Clocks.f k a0 l1).bind fun t706 => ((impl_knows.f k t706 a2 a3).bind fun t709 => (some t709))
theorem impl_Knows.mono : ∀ a0 a1 a2 a3 k, LeO (impl_Knows.f k a0 a1 a2 a3) (impl_Knows.f (k + 1) a0 a1 a2 a3) := by
 intro a0 a1 a2 a3 k
 unfold impl_Knows.f
 have mo0 := @impl_Clocks.mono
 have mo1 := @impl_knows.mono
 exact zL
theorem impl_Knows.calls (k : Nat) (a0 : Int) (A1 : Option Addr) (c1 : Nat) (l1 : List (S31)) (a2 : Int) (a3 : Int) (r : Bool) (w : World) (hr1 : Kd.C k31 w A1 l1.length l1) (hc1 : l1.length ≤ c1) (h : impl_Knows.f k a0 l1 a2 a3 = some r) :
  Calls Try.prog 16 #[.int .i64 a0, .slice A1 l1.length c1, .int .i64 a2, .int .i64 a3] w fun e w' => e = .returned (.bool r) ∧ Below w.heap.size w w' := by
 have HR1 := zM hr1
 have HC1 := zM hc1
 clear hr1 hc1
 have HB := zM (Below.refl w.heap.size w)
 unfold impl_Knows.f at h
 have H := h
 clear h
 replace H := zO H
 obtain ⟨t706, A5, H⟩ := H
 replace H := zO H
 obtain ⟨t709, A6, H⟩ := H
 obtain rfl := Option.some.inj H
 go_enter Try.func16, Try.ntmps16
 go_wp2_with (first | ((with_reducible refine zG Try.func12 11 #[.int .i64 a0, .slice A1 l1.length c1] ?_); (with_reducible refine (impl_Clocks.calls k a0 _ _ l1 t706 _ ?side1 ?side2 A5.1).mono ?_); (case side1 => exact zC HR1.1); (case side2 => exact HC1.1); rintro e w7 ⟨v707, rfl, ho0, hb⟩; refine ⟨_, rfl, ?_⟩; have HO708 := zM (Kd.S_lower ho0 (below_size zB1)); replace HB := zM (below_step zB1 hb); clear hb ho0; obtain ⟨Ao8, co8, eo8⟩ := Kd.S_slice HO708.1; subst eo8) | ((with_reducible refine zG Try.func43 14 #[.slice Ao8 t706.length co8, .int .i64 a2, .int .i64 a3] ?_); (with_reducible refine (impl_knows.calls k _ _ t706 a2 a3 t709 _ ?side1 ?side2 A6.1).mono ?_); (case side1 => exact zC (Kd.S_reads' HO708.1).2.2); (case side2 => exact (Kd.S_reads' HO708.1).2.1); rintro e w' ⟨rfl, ⟨nd, rfl⟩⟩; refine ⟨_, rfl, ?_⟩))
 go_ret
 exact ⟨zE, zB1⟩

/-! ### spec_ClockWithin: function 45 -/
mutual
def spec_ClockWithin.l0 : Nat → List Int → List Int → Int → Option (Bool)
 | 0, _, _, _ => none
 | k + 1, x0, x1, x5 => if x5 < (x0.length : Int) then (spec_ClockWithin.j1 k x0 x1 x5 (decide (x5 < (x1.length : Int)))) else (spec_ClockWithin.j1 k x0 x1 x5 false)
def spec_ClockWithin.j1 : Nat → List Int → List Int → Int → Bool → Option (Bool)
 | 0, _, _, _, _ => none
 | k + 1, x0, x1, x5, x15 => if x15 = true then (if 0 ≤ x5 then (if x5 < (x0.length : Int) then (if x5 < (x1.length : Int) then (if (rd x0 x5) > (rd x1 x5) then (some false) else (spec_ClockWithin.l0 k x0 x1 (wrap64 (x5 + 1)))) else (none)) else (none)) else (none)) else (some ((x0.length : Int) == (x1.length : Int)))
end
def spec_ClockWithin.f (k : Nat) (l0 : List Int) (l1 : List Int) : Option (Bool) := spec_ClockWithin.l0 k l0 l1 0
theorem spec_ClockWithin.mono_l : ∀ k, (∀ y0 y1 y2, LeO (spec_ClockWithin.l0 k y0 y1 y2) (spec_ClockWithin.l0 (k + 1) y0 y1 y2)) ∧ (∀ y0 y1 y2 y3, LeO (spec_ClockWithin.j1 k y0 y1 y2 y3) (spec_ClockWithin.j1 (k + 1) y0 y1 y2 y3))
 | 0 => ⟨fun _ _ _ r h => by simp [spec_ClockWithin.l0] at h, fun _ _ _ _ r h => by simp [spec_ClockWithin.j1] at h⟩
 | k + 1 => by
  obtain ⟨ih0, ih1⟩ := spec_ClockWithin.mono_l k
  refine ⟨?_, ?_⟩
  ·intros
   unfold spec_ClockWithin.l0
   exact zL
  ·intros
   unfold spec_ClockWithin.j1
   exact zL
theorem spec_ClockWithin.mono : ∀ a0 a1 k, LeO (spec_ClockWithin.f k a0 a1) (spec_ClockWithin.f (k + 1) a0 a1) := by
 intro a0 a1 k
 obtain ⟨ih0, ih1⟩ := spec_ClockWithin.mono_l k
 unfold spec_ClockWithin.f
 exact zL
theorem spec_ClockWithin.calls (k : Nat) (A0 : Option Addr) (c0 : Nat) (l0 : List Int) (A1 : Option Addr) (c1 : Nat) (l1 : List Int) (r : Bool) (w : World) (hr0 : Kd.C (Kd.int .i64) w A0 l0.length l0) (hc0 : l0.length ≤ c0) (hr1 : Kd.C (Kd.int .i64) w A1 l1.length l1) (hc1 : l1.length ≤ c1) (h : spec_ClockWithin.f k l0 l1 = some r) :
  Calls Try.prog 45 #[.slice A0 l0.length c0, .slice A1 l1.length c1] w fun e w' => e = .returned (.bool r) ∧ Drawn0 w w' := by
 have HR0 := zM hr0
 clear hr0 hc0
 have HR1 := zM hr1
 clear hr1 hc1
 unfold spec_ClockWithin.f at h
 have H := h
 clear h
 have H' := zM H
 clear H
 go_enter Try.func45, Try.ntmps45
 go_wp2
 repeat (go_quiet (fail); try go_wp2)
 go_loopg [5] k (fun kq v5 w' => ∃ (x5_1 : Int), v5 = .int .i64 x5_1 ∧ Aside0 (spec_ClockWithin.l0 kq l0 l1 x5_1 = some r) ∧ Aside0 (kq ≤ k) ∧ Drawn0 w w')
 case atStart => exact ⟨(0), zJJ, H', ⟨Nat.le_refl _⟩, zDD⟩
 case round =>
  clear H'
  try clear c1
  try clear p2
  obtain ⟨x5_1, rfl, HA, HK1, ⟨m1, rfl⟩⟩ := hrel
  cases gk with
  | zero => exact absurd HA.1 (by simp [spec_ClockWithin.l0])
  | succ k1 =>
   have H := HA.1
   clear HA
   simp only [spec_ClockWithin.l0] at H
   have HC3 := zM H
   clear H
   go_upto_region 2 with (fail)
   repeat (go_quiet (fail); go_upto_region 2 with (fail))
   go_cut [15] (fun v15 wc => ∃ (kq : Nat) (x15_2 : Bool), v15 = .bool x15_2 ∧ Aside0 (spec_ClockWithin.j1 kq l0 l1 x5_1 x15_2 = some r) ∧ Aside0 (kq ≤ k1) ∧ Drawn0 w wc)
   case first =>
    have H := HC3.1
    clear HC3
    by_cases c4 : x5_1 < (l0.length : Int)
    rotate_left
    ·rw [if_neg c4] at H
     have c4b0 := decide_eq_false c4
     clear c4
     (first | rw [c4b0] | (simp only [i64_w, i32_w]; rw [c4b0]) | skip)
     have H' := zM H
     clear H
     go_wp2
     repeat (go_quiet (fail); try go_wp2)
     go_meet
     case rel => exact ⟨_, (false), zJJ, H', ⟨by have := HK1.1; first | omega | exact Nat.le_refl _⟩, zDD⟩
    rw [if_pos c4] at H
    have c4b0 := decide_eq_true c4
    clear c4
    (first | rw [c4b0] | (simp only [i64_w, i32_w]; rw [c4b0]) | skip)
    have H' := zM H
    clear H
    go_wp2
    repeat (go_quiet (fail); try go_wp2)
    go_meet
    case rel => exact ⟨_, (decide (x5_1 < (l1.length : Int))), zJJ, H', ⟨by have := HK1.1; first | omega | exact Nat.le_refl _⟩, zDD⟩
   case rest =>
    clear HC3
    try clear c1
    try clear p2
    try clear c4
    try clear c4b0
    try clear p2
    obtain ⟨kq, x15_2, rfl, HA, HJ2, ⟨mc2, rfl⟩⟩ := hcut
    cases kq with
    | zero => exact absurd HA.1 (by simp [spec_ClockWithin.j1])
    | succ kj2 =>
     have H := HA.1
     clear HA
     simp only [spec_ClockWithin.j1] at H
     by_cases c5 : x15_2 = true
     rotate_left
     ·replace c5 := Bool.eq_false_iff.mpr c5
      subst c5
      rw [if_neg zF] at H
      obtain rfl := Option.some.inj H
      go_wp2
      repeat (go_quiet (fail); try go_wp2)
      go_ret
      exact ⟨zJJ, zDD⟩
     subst c5
     rw [if_pos rfl] at H
     replace H := zIt H
     obtain ⟨c6b0, H⟩ := H
     replace H := zIt H
     obtain ⟨c7b0, H⟩ := H
     replace H := zIt H
     obtain ⟨c8b0, H⟩ := H
     by_cases c9 : (rd l0 x5_1) > (rd l1 x5_1)
     ·rw [if_pos c9] at H
      have c9b0 := decide_eq_true c9
      clear c9
      obtain rfl := Option.some.inj H
      have p710 : 0 ≤ (x5_1 : Int) := zA
      have q710 : x5_1 < (l0.length : Int) := zA
      obtain ⟨ad710, e710, hx710_0⟩ := Kd.at_int HR0.1 x5_1 p710 q710
      cases e710
      replace p710 := eq_true p710
      replace q710 := eq_true q710
      have p711 : 0 ≤ (x5_1 : Int) := zA
      have q711 : x5_1 < (l1.length : Int) := zA
      obtain ⟨ad711, e711, hx711_0⟩ := Kd.at_int HR1.1 x5_1 p711 q711
      cases e711
      replace p711 := eq_true p711
      replace q711 := eq_true q711
      go_wp2
      repeat (go_quiet (fail); try go_wp2)
      go_ret
      exact ⟨zJJ, zDD⟩
     rw [if_neg c9] at H
     have c9b0 := decide_eq_false c9
     clear c9
     have H' := zM H
     clear H
     have p710 : 0 ≤ (x5_1 : Int) := zA
     have q710 : x5_1 < (l0.length : Int) := zA
     obtain ⟨ad710, e710, hx710_0⟩ := Kd.at_int HR0.1 x5_1 p710 q710
     cases e710
     replace p710 := eq_true p710
     replace q710 := eq_true q710
     have p711 : 0 ≤ (x5_1 : Int) := zA
     have q711 : x5_1 < (l1.length : Int) := zA
     obtain ⟨ad711, e711, hx711_0⟩ := Kd.at_int HR1.1 x5_1 p711 q711
     cases e711
     replace p711 := eq_true p711
     replace q711 := eq_true q711
     go_wp2
     repeat (go_quiet (fail); try go_wp2)
     go_roundg kj2
     case measure => have := HK1.1; have := HJ2.1; omega
     case rel => exact ⟨(wrap64 (x5_1 + 1)), zJJ, H', ⟨by have := HK1.1; have := HJ2.1; omega⟩, zDD⟩

/-! ### spec_Knows: function 17 -/
def spec_Knows.f (k : Nat) (a0 : Int) (l1 : List (S31)) (a2 : Int) (a3 : Int) : Option (Bool) := (spec_Clocks.f k a0 l1).bind fun t712 => ((spec_l1In.f a2 0 (wrap64 (a3 - 1))).bind fun t715 => (if t715 = true then (if a3 < (t712.length : Int) then (if a3 > 0 then (if 0 ≤ a2 then (if a2 < (t712.length : Int) then (if 0 ≤ a3 then ((spec_ClockWithin.f k (rd_L3 t712 a2) (rd_L3 t712 a3)).bind fun t718 => (some t718)) else (none)) else (none)) else (none)) else (some false)) else (some false)) else (some false)))
theorem spec_Knows.mono : ∀ a0 a1 a2 a3 k, LeO (spec_Knows.f k a0 a1 a2 a3) (spec_Knows.f (k + 1) a0 a1 a2 a3) := by
 intro a0 a1 a2 a3 k
 unfold spec_Knows.f
 have mo0 := @spec_ClockWithin.mono
 have mo1 := @spec_Clocks.mono
 exact zL
theorem spec_Knows.calls (k : Nat) (a0 : Int) (A1 : Option Addr) (c1 : Nat) (l1 : List (S31)) (a2 : Int) (a3 : Int) (r : Bool) (w : World) (hr1 : Kd.C k31 w A1 l1.length l1) (hc1 : l1.length ≤ c1) (h : spec_Knows.f k a0 l1 a2 a3 = some r) :
  Calls Try.prog 17 #[.int .i64 a0, .slice A1 l1.length c1, .int .i64 a2, .int .i64 a3] w fun e w' => e = .returned (.bool r) ∧ Below w.heap.size w w' := by
 have HR1 := zM hr1
 have HC1 := zM hc1
 clear hr1 hc1
 have HB := zM (Below.refl w.heap.size w)
 unfold spec_Knows.f at h
 have H := h
 clear h
 replace H := zO H
 obtain ⟨t712, A5, H⟩ := H
 replace H := zO H
 obtain ⟨t715, A6, H⟩ := H
 by_cases c7 : t715 = true
 rotate_left
 ·replace c7 := Bool.eq_false_iff.mpr c7
  subst c7
  rw [if_neg zF] at H
  obtain rfl := Option.some.inj H
  go_enter Try.func17, Try.ntmps17
  go_wp2_with (first | (go_at_call 13; (with_reducible refine (spec_Clocks.calls k a0 _ _ l1 t712 _ ?side1 ?side2 A5.1).mono ?_); (case side1 => exact zC HR1.1); (case side2 => exact HC1.1); rintro e w20 ⟨v713, rfl, ho0, hb⟩; have n1_ := zM (below_step zB1 hb); clear HB; have HB := n1_; clear n1_; try clear n0_; clear hb ho0))
  repeat (go_quiet (first | (go_at_call 44; (with_reducible refine (spec_l1In.calls a2 0 (wrap64 (a3 - 1)) false _ A6.1).mono ?_); rintro e w' ⟨rfl, ⟨nd, rfl⟩⟩; (try first | exact ⟨rfl, _, World.drewN_drewN _ _ _⟩ | exact ⟨rfl, _, Eq.trans (World.drewN_drewN _ _ _) (congrArg (World.drewN _) (Nat.add_assoc _ _ _))⟩))); try go_wp2_with (first | fail))
  go_ret
  exact ⟨zE, zB1⟩
 subst c7
 rw [if_pos rfl] at H
 by_cases c8 : a3 < (t712.length : Int)
 rotate_left
 ·rw [if_neg c8] at H
  have c8b0 := decide_eq_false c8
  clear c8
  obtain rfl := Option.some.inj H
  go_enter Try.func17, Try.ntmps17
  go_wp2_with (first | (go_at_call 13; (with_reducible refine (spec_Clocks.calls k a0 _ _ l1 t712 _ ?side1 ?side2 A5.1).mono ?_); (case side1 => exact zC HR1.1); (case side2 => exact HC1.1); rintro e w18 ⟨v713, rfl, ho0, hb⟩; have n0_ := zM (Kd.S_lower ho0 (below_size zB1)); have n1_ := zM (below_step zB1 hb); clear HB; have HO714 := n0_; have HB := n1_; clear n1_; try clear n0_; clear hb ho0; obtain ⟨Ao19, co19, eo19⟩ := Kd.S_slice HO714.1; subst eo19))
  repeat (go_quiet (first | (go_at_call 44; (with_reducible refine (spec_l1In.calls a2 0 (wrap64 (a3 - 1)) true _ A6.1).mono ?_); rintro e w' ⟨rfl, ⟨nd, rfl⟩⟩; (try first | exact ⟨rfl, _, World.drewN_drewN _ _ _⟩ | exact ⟨rfl, _, Eq.trans (World.drewN_drewN _ _ _) (congrArg (World.drewN _) (Nat.add_assoc _ _ _))⟩))); try go_wp2_with (first | fail))
  go_ret
  exact ⟨zE, zB1⟩
 rw [if_pos c8] at H
 have c8b0 := decide_eq_true c8
 clear c8
 by_cases c9 : a3 > 0
 rotate_left
 ·rw [if_neg c9] at H
  have c9b0 := decide_eq_false c9
  clear c9
  obtain rfl := Option.some.inj H
  go_enter Try.func17, Try.ntmps17
  go_wp2_with (first | (go_at_call 13; (with_reducible refine (spec_Clocks.calls k a0 _ _ l1 t712 _ ?side1 ?side2 A5.1).mono ?_); (case side1 => exact zC HR1.1); (case side2 => exact HC1.1); rintro e w16 ⟨v713, rfl, ho0, hb⟩; have n0_ := zM (Kd.S_lower ho0 (below_size zB1)); have n1_ := zM (below_step zB1 hb); clear HB; have HO714 := n0_; have HB := n1_; clear n1_; try clear n0_; clear hb ho0; obtain ⟨Ao17, co17, eo17⟩ := Kd.S_slice HO714.1; subst eo17))
  repeat (go_quiet (first | (go_at_call 44; (with_reducible refine (spec_l1In.calls a2 0 (wrap64 (a3 - 1)) true _ A6.1).mono ?_); rintro e w' ⟨rfl, ⟨nd, rfl⟩⟩; (try first | exact ⟨rfl, _, World.drewN_drewN _ _ _⟩ | exact ⟨rfl, _, Eq.trans (World.drewN_drewN _ _ _) (congrArg (World.drewN _) (Nat.add_assoc _ _ _))⟩))); try go_wp2_with (first | fail))
  go_ret
  exact ⟨zE, zB1⟩
 rw [if_pos c9] at H
 have c9b0 := decide_eq_true c9
 clear c9
 replace H := zIt H
 obtain ⟨c10b0, H⟩ := H
 replace H := zIt H
 obtain ⟨c11b0, H⟩ := H
 replace H := zIt H
 obtain ⟨c12b0, H⟩ := H
 replace H := zO H
 obtain ⟨t718, A13, H⟩ := H
 obtain rfl := Option.some.inj H
 go_enter Try.func17, Try.ntmps17
 go_wp2_with (first | (go_at_call 13; (with_reducible refine (spec_Clocks.calls k a0 _ _ l1 t712 _ ?side1 ?side2 A5.1).mono ?_); (case side1 => exact zC HR1.1); (case side2 => exact HC1.1); rintro e w14 ⟨v713, rfl, ho0, hb⟩; have n0_ := zM (Kd.S_lower ho0 (below_size zB1)); have n1_ := zM (below_step zB1 hb); clear HB; have HO714 := n0_; have HB := n1_; clear n1_; try clear n0_; clear hb ho0; obtain ⟨Ao15, co15, eo15⟩ := Kd.S_slice HO714.1; subst eo15; have p716 : 0 ≤ (a2 : Int) := zA; have q716 : a2 < (t712.length : Int) := zA; obtain ⟨ad716, A716_0, c716_0, e716, hx716_0, hl716_0, hi716_0⟩ := at_L3 (Kd.S_reads' HO714.1).2.2 a2 p716 q716; cases e716; obtain ⟨ce716, hce716, hMe716, hcc716⟩ := Kd.S_get HO714.1 [] a2 p716 (by first | exact q716 | exact zA | (have e_ := (Kd.S_reads' HO714.1).1; omega)); obtain ⟨ve716_0, rfl, ge716_0⟩ := hMe716; have hv716_0 := hcc716 0 _ rfl; rw [Nat.add_zero, show ((Kd.slice 3 (Kd.int .i64))).sz = 1 from rfl, Nat.mul_one] at hv716_0; replace hv716_0 := Option.some.inj (hv716_0.symm.trans hx716_0); rw [hv716_0] at ge716_0; clear hv716_0 ge716_0; clear hcc716 hce716; have HR716_0 := zM hi716_0; have HC716_0 := zM hl716_0; clear hi716_0 hl716_0; replace p716 := eq_true p716; replace q716 := eq_true q716; have p717 : 0 ≤ (a3 : Int) := zA; have q717 : a3 < (t712.length : Int) := zA; obtain ⟨ad717, A717_0, c717_0, e717, hx717_0, hl717_0, hi717_0⟩ := at_L3 (Kd.S_reads' HO714.1).2.2 a3 p717 q717; obtain rfl : ad716 = ad717 := (by injection e717); obtain ⟨ce717, hce717, hMe717, hcc717⟩ := Kd.S_get HO714.1 [] a3 p717 (by first | exact q717 | exact zA | (have e_ := (Kd.S_reads' HO714.1).1; omega)); obtain ⟨ve717_0, rfl, ge717_0⟩ := hMe717; have hv717_0 := hcc717 0 _ rfl; rw [Nat.add_zero, show ((Kd.slice 3 (Kd.int .i64))).sz = 1 from rfl, Nat.mul_one] at hv717_0; replace hv717_0 := Option.some.inj (hv717_0.symm.trans hx717_0); rw [hv717_0] at ge717_0; clear hv717_0 ge717_0; clear hcc717 hce717; have HR717_0 := zM hi717_0; have HC717_0 := zM hl717_0; clear hi717_0 hl717_0; replace p717 := eq_true p717; replace q717 := eq_true q717))
 repeat (go_quiet (first | (go_at_call 44; (with_reducible refine (spec_l1In.calls a2 0 (wrap64 (a3 - 1)) true _ A6.1).mono ?_); rintro e w' ⟨rfl, ⟨nd, rfl⟩⟩; (try first | exact ⟨rfl, _, World.drewN_drewN _ _ _⟩ | exact ⟨rfl, _, Eq.trans (World.drewN_drewN _ _ _) (congrArg (World.drewN _) (Nat.add_assoc _ _ _))⟩)) | (go_at_call 45; (with_reducible refine (spec_ClockWithin.calls k _ _ (rd_L3 t712 a2) _ _ (rd_L3 t712 a3) t718 _ ?side1 ?side2 ?side3 ?side4 A13.1).mono ?_); (case side1 => exact zC HR716_0.1); (case side2 => exact HC716_0.1); (case side3 => exact zC HR717_0.1); (case side4 => exact HC717_0.1); rintro e w' ⟨rfl, ⟨nd, rfl⟩⟩; (try first | exact ⟨rfl, _, World.drewN_drewN _ _ _⟩ | exact ⟨rfl, _, Eq.trans (World.drewN_drewN _ _ _) (congrArg (World.drewN _) (Nat.add_assoc _ _ _))⟩))); try go_wp2_with (first | fail))
 go_ret
 exact ⟨zE, zB1⟩

end Go.Proofs.Ytgbjengnkbomoaa.PFnKnows
