-- made by wip/tools/myprint.py out of the seat's translation
import Derived.Test.YtgbjengnkbomoaaPFnRacesx0
import Derived.Test.YtgbjengnkbomoaaPFnRacesx2
import Derived.Test.YtgbjengnkbomoaaPFnRacesx3
namespace Go.Proofs.Ytgbjengnkbomoaa.PFnRaces
open Go.RowKit Go.Proofs.YtgbjengnkbomoaaW.PrintWords Go.Proofs.YtgbjengnkbomoaaW.PrintLast Go.Proofs.YtgbjengnkbomoaaW.PrintMore
attribute [local go_sem] max2_int min2_int max_two min_two max_three min_three max_four min_four   -- for this text's walks alone
set_option linter.unusedVariables false
set_option linter.unusedSimpArgs false
set_option maxHeartbeats 8000000
set_option maxRecDepth 100000

/-! ### impl_knows: function 43 -/
def impl_knows.f (k : Nat) (l0 : List (List Int)) (a1 : Int) (a2 : Int) : Option (Bool) := if a1 < a2 then ((impl_from.f a1 0 (wrap64 ((l0.length : Int) - 1))).bind fun t155 => (if t155 = true then ((impl_from.f a2 0 (wrap64 ((l0.length : Int) - 1))).bind fun t156 => (if t156 = true then (if 0 ≤ a1 then (if a1 < (l0.length : Int) then (if 0 ≤ a2 then (if a2 < (l0.length : Int) then ((impl_ClockWithin.f k (rd_L3 l0 a1) (rd_L3 l0 a2)).bind fun t159 => (some t159)) else (none)) else (none)) else (none)) else (none)) else (some false))) else (some false))) else (some false)
theorem impl_knows.mono : ∀ a0 a1 a2 k, LeO (impl_knows.f k a0 a1 a2) (impl_knows.f (k + 1) a0 a1 a2) := by
 intro a0 a1 a2 k
 unfold impl_knows.f
 have mo0 := @impl_ClockWithin.mono
 exact zL
theorem impl_knows.calls (k : Nat) (A0 : Option Addr) (c0 : Nat) (l0 : List (List Int)) (a1 : Int) (a2 : Int) (r : Bool) (w : World) (hr0 : Kd.C (Kd.slice 3 (Kd.int .i64)) w A0 l0.length l0) (hc0 : l0.length ≤ c0) (h : impl_knows.f k l0 a1 a2 = some r) :
  Calls Try.prog 43 #[.slice A0 l0.length c0, .int .i64 a1, .int .i64 a2] w fun e w' => e = .returned (.bool r) ∧ Drawn0 w w' := by
 have HR0 := zM hr0
 have HC0 := zM hc0
 clear hr0 hc0
 unfold impl_knows.f at h
 have H := h
 clear h
 by_cases c4 : a1 < a2
 rotate_left
 ·rw [if_neg c4] at H
  have c4b0 := decide_eq_false c4
  clear c4
  obtain rfl := Option.some.inj H
  go_enter Try.func43, Try.ntmps43
  go_wp2
  repeat (go_quiet (fail); try go_wp2)
  go_ret
  exact ⟨zJJ, zDD⟩
 rw [if_pos c4] at H
 have c4b0 := decide_eq_true c4
 clear c4
 replace H := zO H
 obtain ⟨t155, A5, H⟩ := H
 by_cases c6 : t155 = true
 rotate_left
 ·replace c6 := Bool.eq_false_iff.mpr c6
  subst c6
  rw [if_neg zF] at H
  obtain rfl := Option.some.inj H
  go_enter Try.func43, Try.ntmps43
  go_wp2_with (first | (go_at_call 31; (with_reducible refine (impl_from.calls a1 0 (wrap64 ((l0.length : Int) - 1)) false _ A5.1).mono ?_); rintro e w' ⟨rfl, ⟨nd, rfl⟩⟩; (try first | exact ⟨rfl, _, World.drewN_drewN _ _ _⟩ | exact ⟨rfl, _, Eq.trans (World.drewN_drewN _ _ _) (congrArg (World.drewN _) (Nat.add_assoc _ _ _))⟩)))
  repeat (go_quiet (first | (go_at_call 31; (with_reducible refine (impl_from.calls a1 0 (wrap64 ((l0.length : Int) - 1)) false _ A5.1).mono ?_); rintro e w' ⟨rfl, ⟨nd, rfl⟩⟩; (try first | exact ⟨rfl, _, World.drewN_drewN _ _ _⟩ | exact ⟨rfl, _, Eq.trans (World.drewN_drewN _ _ _) (congrArg (World.drewN _) (Nat.add_assoc _ _ _))⟩))); try go_wp2_with (first | (go_at_call 31; (with_reducible refine (impl_from.calls a1 0 (wrap64 ((l0.length : Int) - 1)) false _ A5.1).mono ?_); rintro e w' ⟨rfl, ⟨nd, rfl⟩⟩; (try first | exact ⟨rfl, _, World.drewN_drewN _ _ _⟩ | exact ⟨rfl, _, Eq.trans (World.drewN_drewN _ _ _) (congrArg (World.drewN _) (Nat.add_assoc _ _ _))⟩))))
  go_ret
  exact ⟨zJJ, zDD⟩
 subst c6
 rw [if_pos rfl] at H
 replace H := zO H
 obtain ⟨t156, A7, H⟩ := H
 by_cases c8 : t156 = true
 rotate_left
 ·replace c8 := Bool.eq_false_iff.mpr c8
  subst c8
  rw [if_neg zF] at H
  obtain rfl := Option.some.inj H
  go_enter Try.func43, Try.ntmps43
  go_wp2_with (first | (go_at_call 31; (with_reducible refine (impl_from.calls a1 0 (wrap64 ((l0.length : Int) - 1)) true _ A5.1).mono ?_); rintro e w' ⟨rfl, ⟨nd, rfl⟩⟩; (try first | exact ⟨rfl, _, World.drewN_drewN _ _ _⟩ | exact ⟨rfl, _, Eq.trans (World.drewN_drewN _ _ _) (congrArg (World.drewN _) (Nat.add_assoc _ _ _))⟩)) | (go_at_call 31; (with_reducible refine (impl_from.calls a2 0 (wrap64 ((l0.length : Int) - 1)) false _ A7.1).mono ?_); rintro e w' ⟨rfl, ⟨nd, rfl⟩⟩; (try first | exact ⟨rfl, _, World.drewN_drewN _ _ _⟩ | exact ⟨rfl, _, Eq.trans (World.drewN_drewN _ _ _) (congrArg (World.drewN _) (Nat.add_assoc _ _ _))⟩)))
  repeat (go_quiet (first | (go_at_call 31; (with_reducible refine (impl_from.calls a1 0 (wrap64 ((l0.length : Int) - 1)) true _ A5.1).mono ?_); rintro e w' ⟨rfl, ⟨nd, rfl⟩⟩; (try first | exact ⟨rfl, _, World.drewN_drewN _ _ _⟩ | exact ⟨rfl, _, Eq.trans (World.drewN_drewN _ _ _) (congrArg (World.drewN _) (Nat.add_assoc _ _ _))⟩)) | (go_at_call 31; (with_reducible refine (impl_from.calls a2 0 (wrap64 ((l0.length : Int) - 1)) false _ A7.1).mono ?_); rintro e w' ⟨rfl, ⟨nd, rfl⟩⟩; (try first | exact ⟨rfl, _, World.drewN_drewN _ _ _⟩ | exact ⟨rfl, _, Eq.trans (World.drewN_drewN _ _ _) (congrArg (World.drewN _) (Nat.add_assoc _ _ _))⟩))); try go_wp2_with (first | (go_at_call 31; (with_reducible refine (impl_from.calls a1 0 (wrap64 ((l0.length : Int) - 1)) true _ A5.1).mono ?_); rintro e w' ⟨rfl, ⟨nd, rfl⟩⟩; (try first | exact ⟨rfl, _, World.drewN_drewN _ _ _⟩ | exact ⟨rfl, _, Eq.trans (World.drewN_drewN _ _ _) (congrArg (World.drewN _) (Nat.add_assoc _ _ _))⟩)) | (go_at_call 31; (with_reducible refine (impl_from.calls a2 0 (wrap64 ((l0.length : Int) - 1)) false _ A7.1).mono ?_); rintro e w' ⟨rfl, ⟨nd, rfl⟩⟩; (try first | exact ⟨rfl, _, World.drewN_drewN _ _ _⟩ | exact ⟨rfl, _, Eq.trans (World.drewN_drewN _ _ _) (congrArg (World.drewN _) (Nat.add_assoc _ _ _))⟩))))
  go_ret
  exact ⟨zJJ, zDD⟩
 subst c8
 rw [if_pos rfl] at H
 replace H := zIt H
 obtain ⟨c9b0, H⟩ := H
 replace H := zIt H
 obtain ⟨c10b0, H⟩ := H
 replace H := zIt H
 obtain ⟨c11b0, H⟩ := H
 replace H := zIt H
 obtain ⟨c12b0, H⟩ := H
 replace H := zO H
 obtain ⟨t159, A13, H⟩ := H
 obtain rfl := Option.some.inj H
 go_enter Try.func43, Try.ntmps43
 obtain ⟨p157, q157, ad157, A157_0, c157_0, e157, hx157_0, hl157_0, hi157_0⟩ := zRd (at_L3 HR0.1 a1)
 cases e157
 have HR157_0 := zM hi157_0
 have HC157_0 := zM hl157_0
 clear hi157_0 hl157_0
 obtain ⟨p158, q158, ad158, A158_0, c158_0, e158, hx158_0, hl158_0, hi158_0⟩ := zRd (at_L3 HR0.1 a2)
 obtain rfl : ad157 = ad158 := (by injection e158)
 have HR158_0 := zM hi158_0
 have HC158_0 := zM hl158_0
 clear hi158_0 hl158_0
 go_wp2_with (first | (go_at_call 31; (with_reducible refine (impl_from.calls a1 0 (wrap64 ((l0.length : Int) - 1)) true _ A5.1).mono ?_); rintro e w' ⟨rfl, ⟨nd, rfl⟩⟩; (try first | exact ⟨rfl, _, World.drewN_drewN _ _ _⟩ | exact ⟨rfl, _, Eq.trans (World.drewN_drewN _ _ _) (congrArg (World.drewN _) (Nat.add_assoc _ _ _))⟩)) | (go_at_call 31; (with_reducible refine (impl_from.calls a2 0 (wrap64 ((l0.length : Int) - 1)) true _ A7.1).mono ?_); rintro e w' ⟨rfl, ⟨nd, rfl⟩⟩; (try first | exact ⟨rfl, _, World.drewN_drewN _ _ _⟩ | exact ⟨rfl, _, Eq.trans (World.drewN_drewN _ _ _) (congrArg (World.drewN _) (Nat.add_assoc _ _ _))⟩)) | (go_at_call 65; (with_reducible refine (impl_ClockWithin.calls k _ _ (rd_L3 l0 a1) _ _ (rd_L3 l0 a2) t159 _ ?side1 ?side2 ?side3 ?side4 A13.1).mono ?_); (case side1 => exact zC HR157_0.1); (case side2 => exact HC157_0.1); (case side3 => exact zC HR158_0.1); (case side4 => exact HC158_0.1); rintro e w' ⟨rfl, ⟨nd, rfl⟩⟩; (try first | exact ⟨rfl, _, World.drewN_drewN _ _ _⟩ | exact ⟨rfl, _, Eq.trans (World.drewN_drewN _ _ _) (congrArg (World.drewN _) (Nat.add_assoc _ _ _))⟩)))
 repeat (go_quiet (first | (go_at_call 31; (with_reducible refine (impl_from.calls a1 0 (wrap64 ((l0.length : Int) - 1)) true _ A5.1).mono ?_); rintro e w' ⟨rfl, ⟨nd, rfl⟩⟩; (try first | exact ⟨rfl, _, World.drewN_drewN _ _ _⟩ | exact ⟨rfl, _, Eq.trans (World.drewN_drewN _ _ _) (congrArg (World.drewN _) (Nat.add_assoc _ _ _))⟩)) | (go_at_call 31; (with_reducible refine (impl_from.calls a2 0 (wrap64 ((l0.length : Int) - 1)) true _ A7.1).mono ?_); rintro e w' ⟨rfl, ⟨nd, rfl⟩⟩; (try first | exact ⟨rfl, _, World.drewN_drewN _ _ _⟩ | exact ⟨rfl, _, Eq.trans (World.drewN_drewN _ _ _) (congrArg (World.drewN _) (Nat.add_assoc _ _ _))⟩)) | (go_at_call 65; (with_reducible refine (impl_ClockWithin.calls k _ _ (rd_L3 l0 a1) _ _ (rd_L3 l0 a2) t159 _ ?side1 ?side2 ?side3 ?side4 A13.1).mono ?_); (case side1 => exact zC HR157_0.1); (case side2 => exact HC157_0.1); (case side3 => exact zC HR158_0.1); (case side4 => exact HC158_0.1); rintro e w' ⟨rfl, ⟨nd, rfl⟩⟩; (try first | exact ⟨rfl, _, World.drewN_drewN _ _ _⟩ | exact ⟨rfl, _, Eq.trans (World.drewN_drewN _ _ _) (congrArg (World.drewN _) (Nat.add_assoc _ _ _))⟩))); try go_wp2_with (first | (go_at_call 31; (with_reducible refine (impl_from.calls a1 0 (wrap64 ((l0.length : Int) - 1)) true _ A5.1).mono ?_); rintro e w' ⟨rfl, ⟨nd, rfl⟩⟩; (try first | exact ⟨rfl, _, World.drewN_drewN _ _ _⟩ | exact ⟨rfl, _, Eq.trans (World.drewN_drewN _ _ _) (congrArg (World.drewN _) (Nat.add_assoc _ _ _))⟩)) | (go_at_call 31; (with_reducible refine (impl_from.calls a2 0 (wrap64 ((l0.length : Int) - 1)) true _ A7.1).mono ?_); rintro e w' ⟨rfl, ⟨nd, rfl⟩⟩; (try first | exact ⟨rfl, _, World.drewN_drewN _ _ _⟩ | exact ⟨rfl, _, Eq.trans (World.drewN_drewN _ _ _) (congrArg (World.drewN _) (Nat.add_assoc _ _ _))⟩)) | (go_at_call 65; (with_reducible refine (impl_ClockWithin.calls k _ _ (rd_L3 l0 a1) _ _ (rd_L3 l0 a2) t159 _ ?side1 ?side2 ?side3 ?side4 A13.1).mono ?_); (case side1 => exact zC HR157_0.1); (case side2 => exact HC157_0.1); (case side3 => exact zC HR158_0.1); (case side4 => exact HC158_0.1); rintro e w' ⟨rfl, ⟨nd, rfl⟩⟩; (try first | exact ⟨rfl, _, World.drewN_drewN _ _ _⟩ | exact ⟨rfl, _, Eq.trans (World.drewN_drewN _ _ _) (congrArg (World.drewN _) (Nat.add_assoc _ _ _))⟩))))
 go_ret
 exact ⟨zJJ, zDD⟩

/-! ### impl_Knows: function 16 -/
def impl_Knows.f (k : Nat) (a0 : Int) (l1 : List (S31)) (a2 : Int) (a3 : Int) : Option (Bool) := (impl_Clocks.f k a0 l1).bind fun t160 => ((impl_knows.f k t160 a2 a3).bind fun t163 => (some t163))
theorem impl_Knows.mono : ∀ a0 a1 a2 a3 k, LeO (impl_Knows.f k a0 a1 a2 a3) (impl_Knows.f (k + 1) a0 a1 a2 a3) := by
 intro a0 a1 a2 a3 k
 unfold impl_Knows.f
 have mo0 := @impl_Clocks.mono
 have mo1 := @impl_knows.mono
 exact zL
theorem impl_Knows.calls (k : Nat) (a0 : Int) (A1 : Option Addr) (c1 : Nat) (l1 : List (S31)) (a2 : Int) (a3 : Int) (r : Bool) (w : World) (hr1 : Kd.C k31 w A1 l1.length l1) (hc1 : l1.length ≤ c1) (h : impl_Knows.f k a0 l1 a2 a3 = some r) :
  Calls Try.prog 16 #[.int .i64 a0, .slice A1 l1.length c1, .int .i64 a2, .int .i64 a3] w fun e w' => e = .returned (.bool r) ∧ Below w.heap.size w w' := by
 have HR1 := zM hr1
 have HC1 := zM hc1
 clear hr1 hc1
 have HB := zM (Below.refl w.heap.size w)
 unfold impl_Knows.f at h
 have H := h
 clear h
 replace H := zO H
 obtain ⟨t160, A5, H⟩ := H
 replace H := zO H
 obtain ⟨t163, A6, H⟩ := H
 obtain rfl := Option.some.inj H
 go_enter Try.func16, Try.ntmps16
 go_wp2_with (first | ((with_reducible refine zG Try.func12 11 #[.int .i64 a0, .slice A1 l1.length c1] ?_); (with_reducible refine (impl_Clocks.calls k a0 _ _ l1 t160 _ ?side1 ?side2 A5.1).mono ?_); (case side1 => exact zC HR1.1); (case side2 => exact HC1.1); rintro e w7 ⟨v161, rfl, ho0, hb⟩; refine ⟨_, rfl, ?_⟩; have HO162 := zM (Kd.S_lower ho0 (below_size zB1)); replace HB := zM (below_step zB1 hb); clear hb ho0; obtain ⟨Ao8, co8, eo8⟩ := Kd.S_slice HO162.1; subst eo8) | ((with_reducible refine zG Try.func43 14 #[.slice Ao8 t160.length co8, .int .i64 a2, .int .i64 a3] ?_); (with_reducible refine (impl_knows.calls k _ _ t160 a2 a3 t163 _ ?side1 ?side2 A6.1).mono ?_); (case side1 => exact zC (Kd.S_reads' HO162.1).2.2); (case side2 => exact (Kd.S_reads' HO162.1).2.1); rintro e w' ⟨rfl, ⟨nd, rfl⟩⟩; refine ⟨_, rfl, ?_⟩))
 go_ret
 exact ⟨zE, zB1⟩

/-! ### spec_l1In: function 44 -/
def spec_l1In.f (a0 : Int) (a1 : Int) (a2 : Int) : Option (Bool) := if a0 ≥ a1 then (some (decide (a0 ≤ a2))) else (some false)
theorem spec_l1In.calls (a0 : Int) (a1 : Int) (a2 : Int) (r : Bool) (w : World) (h : spec_l1In.f a0 a1 a2 = some r) :
  Calls Try.prog 44 #[.int .i64 a0, .int .i64 a1, .int .i64 a2] w fun e w' => e = .returned (.bool r) ∧ Drawn0 w w' := by
 unfold spec_l1In.f at h
 have H := h
 clear h
 by_cases c4 : a0 ≥ a1
 ·rw [if_pos c4] at H
  have c4b0 := decide_eq_true c4
  clear c4
  obtain rfl := Option.some.inj H
  go_enter Try.func44, Try.ntmps44
  go_wp2
  go_ret
  exact ⟨zJJ, zDD⟩
 rw [if_neg c4] at H
 have c4b0 := decide_eq_false c4
 clear c4
 obtain rfl := Option.some.inj H
 go_enter Try.func44, Try.ntmps44
 go_wp2
 go_ret
 exact ⟨zJJ, zDD⟩

/-! ### spec_l1Words: function 75 -/
def spec_l1Words.l0 : Nat → List Int → Int → Int → Option (Bool)
 | 0, _, _, _ => none
 | k + 1, x0, x1, x5 => if x5 < (x0.length : Int) then (if 0 ≤ x5 then ((spec_l1In.f (rd x0 x5) 0 65535).bind fun t165 => (if t165 = true then (spec_l1Words.l0 k x0 x1 (wrap64 (x5 + 1))) else (some false))) else (none)) else (some ((x0.length : Int) == x1))
def spec_l1Words.f (k : Nat) (l0 : List Int) (a1 : Int) : Option (Bool) := spec_l1Words.l0 k l0 a1 0
theorem spec_l1Words.mono_l : ∀ k, (∀ y0 y1 y2, LeO (spec_l1Words.l0 k y0 y1 y2) (spec_l1Words.l0 (k + 1) y0 y1 y2))
 | 0 => fun _ _ _ r h => by simp [spec_l1Words.l0] at h
 | k + 1 => by
  have ih0 := spec_l1Words.mono_l k
  ·intros
   unfold spec_l1Words.l0
   exact zL
theorem spec_l1Words.mono : ∀ a0 a1 k, LeO (spec_l1Words.f k a0 a1) (spec_l1Words.f (k + 1) a0 a1) := by
 intro a0 a1 k
 have ih0 := spec_l1Words.mono_l k
 unfold spec_l1Words.f
 exact zL
theorem spec_l1Words.calls (k : Nat) (A0 : Option Addr) (c0 : Nat) (l0 : List Int) (a1 : Int) (r : Bool) (w : World) (hr0 : Kd.C (Kd.int .i64) w A0 l0.length l0) (hc0 : l0.length ≤ c0) (h : spec_l1Words.f k l0 a1 = some r) :
  Calls Try.prog 75 #[.slice A0 l0.length c0, .int .i64 a1] w fun e w' => e = .returned (.bool r) ∧ Drawn0 w w' := by
 have HR0 := zM hr0
 have HC0 := zM hc0
 clear hr0 hc0
 unfold spec_l1Words.f at h
 have H := h
 clear h
 have H' := zM H
 clear H
 go_enter Try.func75, Try.ntmps75
 go_wp2
 go_loopg [5] k (fun kq v5 w' => ∃ (x5_1 : Int), v5 = .int .i64 x5_1 ∧ Aside0 (spec_l1Words.l0 kq l0 a1 x5_1 = some r) ∧ Aside0 (kq ≤ k) ∧ Drawn0 w w')
 case atStart => exact ⟨(0), zJJ, H', ⟨Nat.le_refl _⟩, zDD⟩
 case round =>
  clear H'
  obtain ⟨x5_1, rfl, HA, HK1, ⟨m1, rfl⟩⟩ := hrel
  cases gk with
  | zero => exact absurd HA.1 (by simp [spec_l1Words.l0])
  | succ k1 =>
   have H := HA.1
   clear HA
   simp only [spec_l1Words.l0] at H
   by_cases c3 : x5_1 < (l0.length : Int)
   rotate_left
   ·rw [if_neg c3] at H
    have c3b0 := decide_eq_false c3
    clear c3
    obtain rfl := Option.some.inj H
    go_wp2
    go_ret
    exact ⟨zJJ, zDD⟩
   rw [if_pos c3] at H
   have c3b0 := decide_eq_true c3
   clear c3
   replace H := zIt H
   obtain ⟨c4b0, H⟩ := H
   replace H := zO H
   obtain ⟨t165, A5, H⟩ := H
   by_cases c6 : t165 = true
   rotate_left
   ·replace c6 := Bool.eq_false_iff.mpr c6
    subst c6
    rw [if_neg zF] at H
    obtain rfl := Option.some.inj H
    obtain ⟨p164, q164, ad164, e164, hx164_0⟩ := zRd (Kd.at_int HR0.1 x5_1)
    cases e164
    go_wp2_with (first | ((with_reducible refine zG Try.func44 16 #[.int .i64 (rd l0 x5_1), .int .i64 0, .int .i64 65535] ?_); (with_reducible refine (spec_l1In.calls (rd l0 x5_1) 0 65535 false _ A5.1).mono ?_); rintro e w' ⟨rfl, ⟨nd, rfl⟩⟩; refine ⟨_, rfl, ?_⟩))
    go_ret
    exact ⟨zJJ, zDD⟩
   subst c6
   rw [if_pos rfl] at H
   have H' := zM H
   clear H
   obtain ⟨p164, q164, ad164, e164, hx164_0⟩ := zRd (Kd.at_int HR0.1 x5_1)
   cases e164
   go_wp2_with (first | ((with_reducible refine zG Try.func44 16 #[.int .i64 (rd l0 x5_1), .int .i64 0, .int .i64 65535] ?_); (with_reducible refine (spec_l1In.calls (rd l0 x5_1) 0 65535 true _ A5.1).mono ?_); rintro e w' ⟨rfl, ⟨nd, rfl⟩⟩; refine ⟨_, rfl, ?_⟩))
   go_roundg k1
   case measure => have := HK1.1; omega
   case rel => exact ⟨(wrap64 (x5_1 + 1)), zJJ, H', ⟨by have := HK1.1; omega⟩, zDD⟩

/-! ### spec_HartOk: function 76 -/
def spec_HartOk.f (k : Nat) (l0_0 : List Int) (a0_1 : Int) (a0_2 : Int) : Option (Bool) := (spec_l1Words.f k l0_0 4).bind fun t167 => (if t167 = true then ((spec_l1In.f a0_1 0 23).bind fun t168 => (if t168 = true then ((spec_l1In.f a0_2 0 2).bind fun t169 => (some t169)) else (some false))) else (some false))
theorem spec_HartOk.mono : ∀ a0 a1 a2 k, LeO (spec_HartOk.f k a0 a1 a2) (spec_HartOk.f (k + 1) a0 a1 a2) := by
 intro a0 a1 a2 k
 unfold spec_HartOk.f
 have mo0 := @spec_l1Words.mono
 exact zL
theorem spec_HartOk.calls (k : Nat) (A0_0 : Option Addr) (c0_0 : Nat) (l0_0 : List Int) (a0_1 : Int) (a0_2 : Int) (r : Bool) (w : World) (hr0_0 : Kd.C (Kd.int .i64) w A0_0 l0_0.length l0_0) (hc0_0 : l0_0.length ≤ c0_0) (h : spec_HartOk.f k l0_0 a0_1 a0_2 = some r) :
  Calls Try.prog 76 #[.agg #[.slice A0_0 l0_0.length c0_0, .int .i64 a0_1, .int .i64 a0_2]] w fun e w' => e = .returned (.bool r) ∧ Below w.heap.size w w' := by
 have hu49 := Try.underlying49
 have HR0_0 := zM hr0_0
 have HC0_0 := zM hc0_0
 clear hr0_0 hc0_0
 have HB := zM (Below.refl w.heap.size w)
 unfold spec_HartOk.f at h
 have H := h
 clear h
 replace H := zO H
 obtain ⟨t167, A2, H⟩ := H
 by_cases c3 : t167 = true
 rotate_left
 ·replace c3 := Bool.eq_false_iff.mpr c3
  subst c3
  rw [if_neg zF] at H
  obtain rfl := Option.some.inj H
  go_enter Try.func76, Try.ntmps76
  go_wp2_with (first | ((with_reducible refine zBx 1 49 #[.slice A0_0 l0_0.length c0_0, .int .i64 a0_1, .int .i64 a0_2] ?_); intro gb166 hg w11 hbox hb; have BK166 := zM hbox; have GW166 := zM (zW hg (below_size zB1)); have GE166 := zM (zW hg (below_size zB1)); replace HB := zM (below_step zB1 hb); clear hb hbox hg; have hcz12 := zc_3 (w := w11) BK166.1) | ((with_reducible refine zG Try.func75 5 #[.slice A0_0 l0_0.length c0_0, .int .i64 4] ?_); (with_reducible refine (spec_l1Words.calls k _ _ l0_0 4 false _ ?side1 ?side2 A2.1).mono ?_); (case side1 => exact zC (Kd.C_below HR0_0.1 HB.1)); (case side2 => exact HC0_0.1); rintro e w' ⟨rfl, ⟨nd, rfl⟩⟩; refine ⟨_, rfl, ?_⟩))
  go_ret
  exact ⟨zE, zB1⟩
 subst c3
 rw [if_pos rfl] at H
 replace H := zO H
 obtain ⟨t168, A4, H⟩ := H
 by_cases c5 : t168 = true
 rotate_left
 ·replace c5 := Bool.eq_false_iff.mpr c5
  subst c5
  rw [if_neg zF] at H
  obtain rfl := Option.some.inj H
  go_enter Try.func76, Try.ntmps76
  go_wp2_with (first | ((with_reducible refine zBx 1 49 #[.slice A0_0 l0_0.length c0_0, .int .i64 a0_1, .int .i64 a0_2] ?_); intro gb166 hg w9 hbox hb; have BK166 := zM hbox; have GW166 := zM (zW hg (below_size zB1)); have GE166 := zM (zW hg (below_size zB1)); replace HB := zM (below_step zB1 hb); clear hb hbox hg; have hcz10 := zc_3 (w := w9) BK166.1) | ((with_reducible refine zG Try.func75 5 #[.slice A0_0 l0_0.length c0_0, .int .i64 4] ?_); (with_reducible refine (spec_l1Words.calls k _ _ l0_0 4 true _ ?side1 ?side2 A2.1).mono ?_); (case side1 => exact zC (Kd.C_below HR0_0.1 HB.1)); (case side2 => exact HC0_0.1); rintro e w' ⟨rfl, ⟨nd, rfl⟩⟩; refine ⟨_, rfl, ?_⟩) | (go_at_call 44; (with_reducible refine (spec_l1In.calls a0_1 0 23 false _ A4.1).mono ?_); rintro e w' ⟨rfl, ⟨nd, rfl⟩⟩))
  go_ret
  exact ⟨zE, zB1⟩
 subst c5
 rw [if_pos rfl] at H
 replace H := zO H
 obtain ⟨t169, A6, H⟩ := H
 obtain rfl := Option.some.inj H
 go_enter Try.func76, Try.ntmps76
 go_wp2_with (first | ((with_reducible refine zBx 1 49 #[.slice A0_0 l0_0.length c0_0, .int .i64 a0_1, .int .i64 a0_2] ?_); intro gb166 hg w7 hbox hb; have BK166 := zM hbox; have GW166 := zM (zW hg (below_size zB1)); have GE166 := zM (zW hg (below_size zB1)); replace HB := zM (below_step zB1 hb); clear hb hbox hg; have hcz8 := zc_3 (w := w7) BK166.1) | ((with_reducible refine zG Try.func75 5 #[.slice A0_0 l0_0.length c0_0, .int .i64 4] ?_); (with_reducible refine (spec_l1Words.calls k _ _ l0_0 4 true _ ?side1 ?side2 A2.1).mono ?_); (case side1 => exact zC (Kd.C_below HR0_0.1 HB.1)); (case side2 => exact HC0_0.1); rintro e w' ⟨rfl, ⟨nd, rfl⟩⟩; refine ⟨_, rfl, ?_⟩) | (go_at_call 44; (with_reducible refine (spec_l1In.calls a0_1 0 23 true _ A4.1).mono ?_); rintro e w' ⟨rfl, ⟨nd, rfl⟩⟩) | (go_at_call 44; (with_reducible refine (spec_l1In.calls a0_2 0 2 t169 _ A6.1).mono ?_); rintro e w' ⟨rfl, ⟨nd, rfl⟩⟩))
 go_ret
 exact ⟨zE, zB1⟩

/-! ### spec_l8Has: function 95 -/
def spec_l8Has.f (a0 : Int) : Option (Int) := (spec_l1In.f a0 1 10).bind fun t170 => (if t170 = true then ((some (([0, 9, 7, 11, 11, 14, 15, 10, 8, 0, 7] : List Int) : List Int)).bind fun y171 => (if 0 ≤ a0 then (if a0 < (y171.length : Int) then (some (rd y171 a0)) else (none)) else (none))) else (some 0))
theorem spec_l8Has.calls (a0 : Int) (r : Int) (w : World) (h : spec_l8Has.f a0 = some r) :
  Calls Try.prog 95 #[.int .i64 a0] w fun e w' => e = .returned (.int .i64 r) ∧ Below w.heap.size w w' := by
 have HB := zM (Below.refl w.heap.size w)
 unfold spec_l8Has.f at h
 have H := h
 clear h
 replace H := zO H
 obtain ⟨t170, A2, H⟩ := H
 by_cases c3 : t170 = true
 rotate_left
 ·replace c3 := Bool.eq_false_iff.mpr c3
  subst c3
  rw [if_neg zF] at H
  obtain rfl := Option.some.inj H
  go_enter Try.func95, Try.ntmps95
  go_wp2_with (first | ((with_reducible refine zG Try.func44 4 #[.int .i64 a0, .int .i64 1, .int .i64 10] ?_); (with_reducible refine (spec_l1In.calls a0 1 10 false _ A2.1).mono ?_); rintro e w' ⟨rfl, ⟨nd, rfl⟩⟩; refine ⟨_, rfl, ?_⟩))
  go_ret
  exact ⟨zE, zB1⟩
 subst c3
 rw [if_pos rfl] at H
 replace H := zY H
 obtain ⟨y171, Ny171, H⟩ := H
 replace H := zIt H
 obtain ⟨c4b0, H⟩ := H
 replace H := zIt H
 obtain ⟨c5b0, H⟩ := H
 obtain rfl := Option.some.inj H
 go_enter Try.func95, Try.ntmps95
 go_wp2_with (first | ((with_reducible refine zG Try.func44 4 #[.int .i64 a0, .int .i64 1, .int .i64 10] ?_); (with_reducible refine (spec_l1In.calls a0 1 10 true _ A2.1).mono ?_); rintro e w' ⟨rfl, ⟨nd, rfl⟩⟩; refine ⟨_, rfl, ?_⟩) | ((with_reducible refine gate_dst (N := 6) rfl ?_); refine Kd.R_lit (Kd.int .i64) _ 3 ?hg (N := 6) ?hd (xs := ([0, 9, 7, 11, 11, 14, 15, 10, 8, 0, 7] : List Int)) (inner := [.int .i64 0, .int .i64 9, .int .i64 7, .int .i64 11, .int .i64 11, .int .i64 14, .int .i64 15, .int .i64 10, .int .i64 8, .int .i64 0, .int .i64 7]) (ok := fun _ => True) (okp := fun _ => True) ?hr ?hp (fun _ hk => hk) trivial (Below.refl _ _) (Nat.le_refl _) (by simp) ?_; (case hd => rfl); (case hg => rfl); (case hr => exact zHH); (case hp => exact (Reps.one (show Kd.M (Kd.int .i64) _ _ _ 0 [.int .i64 0] from rfl) (Reps.one (show Kd.M (Kd.int .i64) _ _ _ 9 [.int .i64 9] from rfl) (Reps.one (show Kd.M (Kd.int .i64) _ _ _ 7 [.int .i64 7] from rfl) (Reps.one (show Kd.M (Kd.int .i64) _ _ _ 11 [.int .i64 11] from rfl) (Reps.one (show Kd.M (Kd.int .i64) _ _ _ 11 [.int .i64 11] from rfl) (Reps.one (show Kd.M (Kd.int .i64) _ _ _ 14 [.int .i64 14] from rfl) (Reps.one (show Kd.M (Kd.int .i64) _ _ _ 15 [.int .i64 15] from rfl) (Reps.one (show Kd.M (Kd.int .i64) _ _ _ 10 [.int .i64 10] from rfl) (Reps.one (show Kd.M (Kd.int .i64) _ _ _ 8 [.int .i64 8] from rfl) (Reps.one (show Kd.M (Kd.int .i64) _ _ _ 0 [.int .i64 0] from rfl) (Reps.one (show Kd.M (Kd.int .i64) _ _ _ 7 [.int .i64 7] from rfl) (Reps.none _ _))))))))))))); intro v172 w6 ho7 hb hg_ hnew_; clear hg_ hnew_; (first | rw [← Ny171.1] at ho7 | (simp only [Int.reduceToNat] at ho7; rw [← Ny171.1] at ho7)); have HO173 := zM (Kd.R_lower ho7 (below_size zB1)); replace HB := zM (below_step zB1 hb); clear hb ho7; obtain ⟨Ao8, co8, eo8⟩ := Kd.R_slice HO173.1; subst eo8; obtain ⟨p174, q174, ad174, e174, hx174_0⟩ := zRd (Kd.at_int (Kd.R_reads' HO173.1).2.2 a0); cases e174))
 go_ret
 exact ⟨zE, zB1⟩

/-! ### spec_l8Field: function 96 -/
def spec_l8Field.f (a0 : Int) (a1 : Int) (a2 : Bool) : Option (Bool) := (spec_l1In.f a0 0 a1).bind fun t175 => (if t175 = true then (if a2 = true then (some true) else (some (a0 == 0))) else (some false))
theorem spec_l8Field.calls (a0 : Int) (a1 : Int) (a2 : Bool) (r : Bool) (w : World) (h : spec_l8Field.f a0 a1 a2 = some r) :
  Calls Try.prog 96 #[.int .i64 a0, .int .i64 a1, .bool a2] w fun e w' => e = .returned (.bool r) ∧ Drawn0 w w' := by
 unfold spec_l8Field.f at h
 have H := h
 clear h
 replace H := zO H
 obtain ⟨t175, A4, H⟩ := H
 by_cases c5 : t175 = true
 rotate_left
 ·replace c5 := Bool.eq_false_iff.mpr c5
  subst c5
  rw [if_neg zF] at H
  obtain rfl := Option.some.inj H
  go_enter Try.func96, Try.ntmps96
  go_wp2_with (first | ((with_reducible refine zG Try.func44 9 #[.int .i64 a0, .int .i64 0, .int .i64 a1] ?_); (with_reducible refine (spec_l1In.calls a0 0 a1 false _ A4.1).mono ?_); rintro e w' ⟨rfl, ⟨nd, rfl⟩⟩; refine ⟨_, rfl, ?_⟩))
  go_ret
  exact ⟨zJJ, zDD⟩
 subst c5
 rw [if_pos rfl] at H
 by_cases c6 : a2 = true
 ·subst c6
  rw [if_pos rfl] at H
  obtain rfl := Option.some.inj H
  go_enter Try.func96, Try.ntmps96
  go_wp2_with (first | ((with_reducible refine zG Try.func44 9 #[.int .i64 a0, .int .i64 0, .int .i64 a1] ?_); (with_reducible refine (spec_l1In.calls a0 0 a1 true _ A4.1).mono ?_); rintro e w' ⟨rfl, ⟨nd, rfl⟩⟩; refine ⟨_, rfl, ?_⟩))
  go_ret
  exact ⟨zJJ, zDD⟩
 replace c6 := Bool.eq_false_iff.mpr c6
 subst c6
 rw [if_neg zF] at H
 obtain rfl := Option.some.inj H
 go_enter Try.func96, Try.ntmps96
 go_wp2_with (first | ((with_reducible refine zG Try.func44 9 #[.int .i64 a0, .int .i64 0, .int .i64 a1] ?_); (with_reducible refine (spec_l1In.calls a0 0 a1 true _ A4.1).mono ?_); rintro e w' ⟨rfl, ⟨nd, rfl⟩⟩; refine ⟨_, rfl, ?_⟩))
 go_ret
 exact ⟨zJJ, zDD⟩

/-! ### spec_InsOk: function 88 -/
def spec_InsOk.f (a0_0 : Int) (a0_1 : Int) (a0_2 : Int) (a0_3 : Int) (a0_4 : Int) : Option (Bool) := (spec_l8Has.f a0_0).bind fun t177 => ((spec_l1In.f a0_0 1 10).bind fun t178 => (if t178 = true then ((spec_l8Field.f a0_1 3 ((Go.bits .and .i64 t177 1) != 0)).bind fun t179 => (if t179 = true then ((spec_l8Field.f a0_2 3 ((Go.bits .and .i64 t177 2) != 0)).bind fun t180 => (if t180 = true then ((spec_l8Field.f a0_3 3 ((Go.bits .and .i64 t177 4) != 0)).bind fun t181 => (if t181 = true then ((spec_l8Field.f a0_4 63 ((Go.bits .and .i64 t177 8) != 0)).bind fun t182 => (some t182)) else (some false))) else (some false))) else (some false))) else (some false)))
theorem spec_InsOk.calls (a0_0 : Int) (a0_1 : Int) (a0_2 : Int) (a0_3 : Int) (a0_4 : Int) (r : Bool) (w : World) (h : spec_InsOk.f a0_0 a0_1 a0_2 a0_3 a0_4 = some r) :
  Calls Try.prog 88 #[.agg #[.int .i64 a0_0, .int .i64 a0_1, .int .i64 a0_2, .int .i64 a0_3, .int .i64 a0_4]] w fun e w' => e = .returned (.bool r) ∧ Below w.heap.size w w' := by
 have hu71 := Try.underlying71
 have HB := zM (Below.refl w.heap.size w)
 unfold spec_InsOk.f at h
 have H := h
 clear h
 replace H := zO H
 obtain ⟨t177, A2, H⟩ := H
 replace H := zO H
 obtain ⟨t178, A3, H⟩ := H
 by_cases c4 : t178 = true
 rotate_left
 ·replace c4 := Bool.eq_false_iff.mpr c4
  subst c4
  rw [if_neg zF] at H
  obtain rfl := Option.some.inj H
  go_enter Try.func88, Try.ntmps88
  go_wp2_with (first | ((with_reducible refine zBx 1 71 #[.int .i64 a0_0, .int .i64 a0_1, .int .i64 a0_2, .int .i64 a0_3, .int .i64 a0_4] ?_); intro gb176 hg w28 hbox hb; have BK176 := zM hbox; have GW176 := zM (zW hg (below_size zB1)); have GE176 := zM (zW hg (below_size zB1)); replace HB := zM (below_step zB1 hb); clear hb hbox hg; have hcz29 := zc_5 (w := w28) BK176.1) | ((with_reducible refine zG Try.func95 6 #[.int .i64 a0_0] ?_); (with_reducible refine (spec_l8Has.calls a0_0 t177 _ A2.1).mono ?_); rintro e w30 ⟨rfl, hb⟩; refine ⟨_, rfl, ?_⟩; replace BK176 := zM (zb BK176.1 hb); replace HB := zM (below_step zB1 hb); clear hb; have hcz31 := zc_5 (w := w30) BK176.1) | ((with_reducible refine zG Try.func44 9 #[.int .i64 a0_0, .int .i64 1, .int .i64 10] ?_); (with_reducible refine (spec_l1In.calls a0_0 1 10 false _ A3.1).mono ?_); rintro e w' ⟨rfl, ⟨nd, rfl⟩⟩; refine ⟨_, rfl, ?_⟩))
  go_ret
  exact ⟨zE, zB1⟩
 subst c4
 rw [if_pos rfl] at H
 replace H := zO H
 obtain ⟨t179, A5, H⟩ := H
 by_cases c6 : t179 = true
 rotate_left
 ·replace c6 := Bool.eq_false_iff.mpr c6
  subst c6
  rw [if_neg zF] at H
  obtain rfl := Option.some.inj H
  go_enter Try.func88, Try.ntmps88
  go_wp2_with (first | ((with_reducible refine zBx 1 71 #[.int .i64 a0_0, .int .i64 a0_1, .int .i64 a0_2, .int .i64 a0_3, .int .i64 a0_4] ?_); intro gb176 hg w24 hbox hb; have BK176 := zM hbox; have GW176 := zM (zW hg (below_size zB1)); have GE176 := zM (zW hg (below_size zB1)); replace HB := zM (below_step zB1 hb); clear hb hbox hg; have hcz25 := zc_5 (w := w24) BK176.1) | ((with_reducible refine zG Try.func95 6 #[.int .i64 a0_0] ?_); (with_reducible refine (spec_l8Has.calls a0_0 t177 _ A2.1).mono ?_); rintro e w26 ⟨rfl, hb⟩; refine ⟨_, rfl, ?_⟩; replace BK176 := zM (zb BK176.1 hb); replace HB := zM (below_step zB1 hb); clear hb; have hcz27 := zc_5 (w := w26) BK176.1) | ((with_reducible refine zG Try.func44 9 #[.int .i64 a0_0, .int .i64 1, .int .i64 10] ?_); (with_reducible refine (spec_l1In.calls a0_0 1 10 true _ A3.1).mono ?_); rintro e w' ⟨rfl, ⟨nd, rfl⟩⟩; refine ⟨_, rfl, ?_⟩) | (go_at_call 96; (with_reducible refine (spec_l8Field.calls a0_1 3 ((Go.bits .and .i64 t177 1) != 0) false _ A5.1).mono ?_); rintro e w' ⟨rfl, ⟨nd, rfl⟩⟩))
  go_ret
  exact ⟨zE, zB1⟩
 subst c6
 rw [if_pos rfl] at H
 replace H := zO H
 obtain ⟨t180, A7, H⟩ := H
 by_cases c8 : t180 = true
 rotate_left
 ·replace c8 := Bool.eq_false_iff.mpr c8
  subst c8
  rw [if_neg zF] at H
  obtain rfl := Option.some.inj H
  go_enter Try.func88, Try.ntmps88
  go_wp2_with (first | ((with_reducible refine zBx 1 71 #[.int .i64 a0_0, .int .i64 a0_1, .int .i64 a0_2, .int .i64 a0_3, .int .i64 a0_4] ?_); intro gb176 hg w20 hbox hb; have BK176 := zM hbox; have GW176 := zM (zW hg (below_size zB1)); have GE176 := zM (zW hg (below_size zB1)); replace HB := zM (below_step zB1 hb); clear hb hbox hg; have hcz21 := zc_5 (w := w20) BK176.1) | ((with_reducible refine zG Try.func95 6 #[.int .i64 a0_0] ?_); (with_reducible refine (spec_l8Has.calls a0_0 t177 _ A2.1).mono ?_); rintro e w22 ⟨rfl, hb⟩; refine ⟨_, rfl, ?_⟩; replace BK176 := zM (zb BK176.1 hb); replace HB := zM (below_step zB1 hb); clear hb; have hcz23 := zc_5 (w := w22) BK176.1) | ((with_reducible refine zG Try.func44 9 #[.int .i64 a0_0, .int .i64 1, .int .i64 10] ?_); (with_reducible refine (spec_l1In.calls a0_0 1 10 true _ A3.1).mono ?_); rintro e w' ⟨rfl, ⟨nd, rfl⟩⟩; refine ⟨_, rfl, ?_⟩) | (go_at_call 96; (with_reducible refine (spec_l8Field.calls a0_1 3 ((Go.bits .and .i64 t177 1) != 0) true _ A5.1).mono ?_); rintro e w' ⟨rfl, ⟨nd, rfl⟩⟩) | (go_at_call 96; (with_reducible refine (spec_l8Field.calls a0_2 3 ((Go.bits .and .i64 t177 2) != 0) false _ A7.1).mono ?_); rintro e w' ⟨rfl, ⟨nd, rfl⟩⟩))
  go_ret
  exact ⟨zE, zB1⟩
 subst c8
 rw [if_pos rfl] at H
 replace H := zO H
 obtain ⟨t181, A9, H⟩ := H
 by_cases c10 : t181 = true
 rotate_left
 ·replace c10 := Bool.eq_false_iff.mpr c10
  subst c10
  rw [if_neg zF] at H
  obtain rfl := Option.some.inj H
  go_enter Try.func88, Try.ntmps88
  go_wp2_with (first | ((with_reducible refine zBx 1 71 #[.int .i64 a0_0, .int .i64 a0_1, .int .i64 a0_2, .int .i64 a0_3, .int .i64 a0_4] ?_); intro gb176 hg w16 hbox hb; have BK176 := zM hbox; have GW176 := zM (zW hg (below_size zB1)); have GE176 := zM (zW hg (below_size zB1)); replace HB := zM (below_step zB1 hb); clear hb hbox hg; have hcz17 := zc_5 (w := w16) BK176.1) | ((with_reducible refine zG Try.func95 6 #[.int .i64 a0_0] ?_); (with_reducible refine (spec_l8Has.calls a0_0 t177 _ A2.1).mono ?_); rintro e w18 ⟨rfl, hb⟩; refine ⟨_, rfl, ?_⟩; replace BK176 := zM (zb BK176.1 hb); replace HB := zM (below_step zB1 hb); clear hb; have hcz19 := zc_5 (w := w18) BK176.1) | ((with_reducible refine zG Try.func44 9 #[.int .i64 a0_0, .int .i64 1, .int .i64 10] ?_); (with_reducible refine (spec_l1In.calls a0_0 1 10 true _ A3.1).mono ?_); rintro e w' ⟨rfl, ⟨nd, rfl⟩⟩; refine ⟨_, rfl, ?_⟩) | (go_at_call 96; (with_reducible refine (spec_l8Field.calls a0_1 3 ((Go.bits .and .i64 t177 1) != 0) true _ A5.1).mono ?_); rintro e w' ⟨rfl, ⟨nd, rfl⟩⟩) | (go_at_call 96; (with_reducible refine (spec_l8Field.calls a0_2 3 ((Go.bits .and .i64 t177 2) != 0) true _ A7.1).mono ?_); rintro e w' ⟨rfl, ⟨nd, rfl⟩⟩) | (go_at_call 96; (with_reducible refine (spec_l8Field.calls a0_3 3 ((Go.bits .and .i64 t177 4) != 0) false _ A9.1).mono ?_); rintro e w' ⟨rfl, ⟨nd, rfl⟩⟩))
  go_ret
  exact ⟨zE, zB1⟩
 subst c10
 rw [if_pos rfl] at H
 replace H := zO H
 obtain ⟨t182, A11, H⟩ := H
 obtain rfl := Option.some.inj H
 go_enter Try.func88, Try.ntmps88
 go_wp2_with (first | ((with_reducible refine zBx 1 71 #[.int .i64 a0_0, .int .i64 a0_1, .int .i64 a0_2, .int .i64 a0_3, .int .i64 a0_4] ?_); intro gb176 hg w12 hbox hb; have BK176 := zM hbox; have GW176 := zM (zW hg (below_size zB1)); have GE176 := zM (zW hg (below_size zB1)); replace HB := zM (below_step zB1 hb); clear hb hbox hg; have hcz13 := zc_5 (w := w12) BK176.1) | ((with_reducible refine zG Try.func95 6 #[.int .i64 a0_0] ?_); (with_reducible refine (spec_l8Has.calls a0_0 t177 _ A2.1).mono ?_); rintro e w14 ⟨rfl, hb⟩; refine ⟨_, rfl, ?_⟩; replace BK176 := zM (zb BK176.1 hb); replace HB := zM (below_step zB1 hb); clear hb; have hcz15 := zc_5 (w := w14) BK176.1) | ((with_reducible refine zG Try.func44 9 #[.int .i64 a0_0, .int .i64 1, .int .i64 10] ?_); (with_reducible refine (spec_l1In.calls a0_0 1 10 true _ A3.1).mono ?_); rintro e w' ⟨rfl, ⟨nd, rfl⟩⟩; refine ⟨_, rfl, ?_⟩) | (go_at_call 96; (with_reducible refine (spec_l8Field.calls a0_1 3 ((Go.bits .and .i64 t177 1) != 0) true _ A5.1).mono ?_); rintro e w' ⟨rfl, ⟨nd, rfl⟩⟩) | (go_at_call 96; (with_reducible refine (spec_l8Field.calls a0_2 3 ((Go.bits .and .i64 t177 2) != 0) true _ A7.1).mono ?_); rintro e w' ⟨rfl, ⟨nd, rfl⟩⟩) | (go_at_call 96; (with_reducible refine (spec_l8Field.calls a0_3 3 ((Go.bits .and .i64 t177 4) != 0) true _ A9.1).mono ?_); rintro e w' ⟨rfl, ⟨nd, rfl⟩⟩) | (go_at_call 96; (with_reducible refine (spec_l8Field.calls a0_4 63 ((Go.bits .and .i64 t177 8) != 0) t182 _ A11.1).mono ?_); rintro e w' ⟨rfl, ⟨nd, rfl⟩⟩))
 go_ret
 exact ⟨zE, zB1⟩

/-! ### spec_Decode: function 77 -/
def spec_Decode.f (a0 : Int) : Option (Int × Int × Int × Int × Int × Bool) := (spec_l1In.f a0 0 65535).bind fun t184 => (if t184 = true then ((spec_InsOk.f (Int.tmod a0 16) (Int.tmod (wrap64 (Int.tdiv a0 16)) 4) (Int.tmod (wrap64 (Int.tdiv a0 64)) 4) (Int.tmod (wrap64 (Int.tdiv a0 256)) 4) (wrap64 (Int.tdiv a0 1024))).bind fun t186 => (if t186 = true then (some (Int.tmod a0 16, Int.tmod (wrap64 (Int.tdiv a0 16)) 4, Int.tmod (wrap64 (Int.tdiv a0 64)) 4, Int.tmod (wrap64 (Int.tdiv a0 256)) 4, wrap64 (Int.tdiv a0 1024), true)) else (some (0, 0, 0, 0, 0, false)))) else (some (0, 0, 0, 0, 0, false)))
theorem spec_Decode.calls (a0 : Int) (r1 : Int) (r2 : Int) (r3 : Int) (r4 : Int) (r5 : Int) (r6 : Bool) (w : World) (h : spec_Decode.f a0 = some (r1, r2, r3, r4, r5, r6)) :
  Calls Try.prog 77 #[.int .i64 a0] w fun e w' => e = .returned (.tuple #[.agg #[.int .i64 r1, .int .i64 r2, .int .i64 r3, .int .i64 r4, .int .i64 r5], .bool r6]) ∧ Below w.heap.size w w' := by
 have hu71 := Try.underlying71
 have HB := zM (Below.refl w.heap.size w)
 unfold spec_Decode.f at h
 have H := h
 clear h
 replace H := zO H
 obtain ⟨t184, A2, H⟩ := H
 by_cases c3 : t184 = true
 rotate_left
 ·replace c3 := Bool.eq_false_iff.mpr c3
  subst c3
  rw [if_neg zF] at H
  simp only [Option.some.injEq, Prod.mk.injEq] at H
  obtain ⟨rfl, rfl, rfl, rfl, rfl, rfl⟩ := H
  go_enter Try.func77, Try.ntmps77
  go_wp2_with (first | ((with_reducible refine zBx 2 71 #[.int .i64 0, .int .i64 0, .int .i64 0, .int .i64 0, .int .i64 0] ?_); intro gb183 hg w19 hbox hb; have BK183 := zM hbox; have GW183 := zM (zW hg (below_size zB1)); have GE183 := zM (zW hg (below_size zB1)); replace HB := zM (below_step zB1 hb); clear hb hbox hg) | ((with_reducible refine zG Try.func44 6 #[.int .i64 a0, .int .i64 0, .int .i64 65535] ?_); (with_reducible refine (spec_l1In.calls a0 0 65535 false _ A2.1).mono ?_); rintro e w' ⟨rfl, ⟨nd, rfl⟩⟩; refine ⟨_, rfl, ?_⟩; (try (rw [drewN_self w19]; generalize hq_ : World.drewN w19 _ = w19; have n0_ : Aside0 (w19.heap[gb183]? = some (.cells #[.int .i64 0, .int .i64 0, .int .i64 0, .int .i64 0, .int .i64 0] 71 (0, 0))) := ⟨by rw [← hq_]; exact (zK BK183.1)⟩; have n1_ : Aside0 (Below w.heap.size w w19) := ⟨by rw [← hq_]; exact zB1⟩; clear BK183 HB hq_; have BK183 := n0_; have HB := n1_; clear n0_ n1_)); have hcz20 := zc_5 (w := w19) BK183.1))
  refine bodyPost_ret (results_ct rfl _ _ gb183 71 #[.int .i64 0, .int .i64 0, .int .i64 0, .int .i64 0, .int .i64 0] (0, 0) _ rfl (by exact zp5 (zK BK183.1)) Try.underlying71 rfl (by kernel_rfl)) rfl ?_
  exact ⟨zE, zB1⟩
 subst c3
 rw [if_pos rfl] at H
 replace H := zO H
 obtain ⟨t186, A4, H⟩ := H
 by_cases c5 : t186 = true
 rotate_left
 ·replace c5 := Bool.eq_false_iff.mpr c5
  subst c5
  rw [if_neg zF] at H
  simp only [Option.some.injEq, Prod.mk.injEq] at H
  obtain ⟨rfl, rfl, rfl, rfl, rfl, rfl⟩ := H
  go_enter Try.func77, Try.ntmps77
  go_wp2_with (first | ((with_reducible refine zBx 2 71 #[.int .i64 0, .int .i64 0, .int .i64 0, .int .i64 0, .int .i64 0] ?_); intro gb183 hg w13 hbox hb; have BK183 := zM hbox; have GW183 := zM (zW hg (below_size zB1)); have GE183 := zM (zW hg (below_size zB1)); replace HB := zM (below_step zB1 hb); clear hb hbox hg) | ((with_reducible refine zG Try.func44 6 #[.int .i64 a0, .int .i64 0, .int .i64 65535] ?_); (with_reducible refine (spec_l1In.calls a0 0 65535 true _ A2.1).mono ?_); rintro e w' ⟨rfl, ⟨nd, rfl⟩⟩; refine ⟨_, rfl, ?_⟩; (try (rw [drewN_self w13]; generalize hq_ : World.drewN w13 _ = w13; have n0_ : Aside0 (w13.heap[gb183]? = some (.cells #[.int .i64 0, .int .i64 0, .int .i64 0, .int .i64 0, .int .i64 0] 71 (0, 0))) := ⟨by rw [← hq_]; exact (zK BK183.1)⟩; have n1_ : Aside0 (Below w.heap.size w w13) := ⟨by rw [← hq_]; exact zB1⟩; clear BK183 HB hq_; have BK183 := n0_; have HB := n1_; clear n0_ n1_))) | ((with_reducible refine zBx 4 71 #[.int .i64 0, .int .i64 0, .int .i64 0, .int .i64 0, .int .i64 0] ?_); intro gb185 hg w14 hbox hb; have BK185 := zM hbox; have GW185 := zM (zW hg (below_size zB1)); have GE185 := zM (zW hg (below_size zB1)); replace HB := zM (below_step zB1 hb); have NB183_185 := zM ((zn BK183.1 hg : gb183 ≠ gb185)); have NB185_183 := zM ((zm BK183.1 hg : gb185 ≠ gb183)); replace BK183 := zM (zb BK183.1 hb); clear hb hbox hg; have hnb15 := NB185_183.1; have hnc15 := NB183_185.1; have hcz16 := zc_5 (w := w14) BK185.1) | ((with_reducible refine zG Try.func88 24 #[.agg #[.int .i64 (Int.tmod a0 16), .int .i64 (Int.tmod (wrap64 (Int.tdiv a0 16)) 4), .int .i64 (Int.tmod (wrap64 (Int.tdiv a0 64)) 4), .int .i64 (Int.tmod (wrap64 (Int.tdiv a0 256)) 4), .int .i64 (wrap64 (Int.tdiv a0 1024))]] ?_); (with_reducible refine (spec_InsOk.calls (Int.tmod a0 16) (Int.tmod (wrap64 (Int.tdiv a0 16)) 4) (Int.tmod (wrap64 (Int.tdiv a0 64)) 4) (Int.tmod (wrap64 (Int.tdiv a0 256)) 4) (wrap64 (Int.tdiv a0 1024)) false _ A4.1).mono ?_); rintro e w17 ⟨rfl, hb⟩; refine ⟨_, rfl, ?_⟩; replace BK183 := zM (zf BK183.1 hb); replace BK185 := zM (blk_below (g := gb185) (o := .cells #[.int .i64 (Int.tmod a0 16), .int .i64 (Int.tmod (wrap64 (Int.tdiv a0 16)) 4), .int .i64 (Int.tmod (wrap64 (Int.tdiv a0 64)) 4), .int .i64 (Int.tmod (wrap64 (Int.tdiv a0 256)) 4), .int .i64 (wrap64 (Int.tdiv a0 1024))] 71 (0, 0)) (by exact zp5 (zK BK185.1)) hb); replace HB := zM (below_step zB1 hb); clear hb; have hcz18 := zc_5 (w := w17) BK183.1))
  refine bodyPost_ret (results_ct rfl _ _ gb183 71 #[.int .i64 0, .int .i64 0, .int .i64 0, .int .i64 0, .int .i64 0] (0, 0) _ rfl (by exact zp5 (zK BK183.1)) Try.underlying71 rfl (by kernel_rfl)) rfl ?_
  exact ⟨zE, zB1⟩
 subst c5
 rw [if_pos rfl] at H
 simp only [Option.some.injEq, Prod.mk.injEq] at H
 obtain ⟨rfl, rfl, rfl, rfl, rfl, rfl⟩ := H
 go_enter Try.func77, Try.ntmps77
 go_wp2_with (first | ((with_reducible refine zBx 2 71 #[.int .i64 0, .int .i64 0, .int .i64 0, .int .i64 0, .int .i64 0] ?_); intro gb183 hg w6 hbox hb; have BK183 := zM hbox; have GW183 := zM (zW hg (below_size zB1)); have GE183 := zM (zW hg (below_size zB1)); replace HB := zM (below_step zB1 hb); clear hb hbox hg) | ((with_reducible refine zG Try.func44 6 #[.int .i64 a0, .int .i64 0, .int .i64 65535] ?_); (with_reducible refine (spec_l1In.calls a0 0 65535 true _ A2.1).mono ?_); rintro e w' ⟨rfl, ⟨nd, rfl⟩⟩; refine ⟨_, rfl, ?_⟩; (try (rw [drewN_self w6]; generalize hq_ : World.drewN w6 _ = w6; have n0_ : Aside0 (w6.heap[gb183]? = some (.cells #[.int .i64 0, .int .i64 0, .int .i64 0, .int .i64 0, .int .i64 0] 71 (0, 0))) := ⟨by rw [← hq_]; exact (zK BK183.1)⟩; have n1_ : Aside0 (Below w.heap.size w w6) := ⟨by rw [← hq_]; exact zB1⟩; clear BK183 HB hq_; have BK183 := n0_; have HB := n1_; clear n0_ n1_))) | ((with_reducible refine zBx 4 71 #[.int .i64 0, .int .i64 0, .int .i64 0, .int .i64 0, .int .i64 0] ?_); intro gb185 hg w7 hbox hb; have BK185 := zM hbox; have GW185 := zM (zW hg (below_size zB1)); have GE185 := zM (zW hg (below_size zB1)); replace HB := zM (below_step zB1 hb); have NB183_185 := zM ((zn BK183.1 hg : gb183 ≠ gb185)); have NB185_183 := zM ((zm BK183.1 hg : gb185 ≠ gb183)); replace BK183 := zM (zb BK183.1 hb); clear hb hbox hg; have hnb8 := NB185_183.1; have hnc8 := NB183_185.1; have hcz9 := zc_5 (w := w7) BK185.1) | ((with_reducible refine zG Try.func88 24 #[.agg #[.int .i64 (Int.tmod a0 16), .int .i64 (Int.tmod (wrap64 (Int.tdiv a0 16)) 4), .int .i64 (Int.tmod (wrap64 (Int.tdiv a0 64)) 4), .int .i64 (Int.tmod (wrap64 (Int.tdiv a0 256)) 4), .int .i64 (wrap64 (Int.tdiv a0 1024))]] ?_); (with_reducible refine (spec_InsOk.calls (Int.tmod a0 16) (Int.tmod (wrap64 (Int.tdiv a0 16)) 4) (Int.tmod (wrap64 (Int.tdiv a0 64)) 4) (Int.tmod (wrap64 (Int.tdiv a0 256)) 4) (wrap64 (Int.tdiv a0 1024)) true _ A4.1).mono ?_); rintro e w10 ⟨rfl, hb⟩; refine ⟨_, rfl, ?_⟩; replace BK183 := zM (zf BK183.1 hb); replace BK185 := zM (blk_below (g := gb185) (o := .cells #[.int .i64 (Int.tmod a0 16), .int .i64 (Int.tmod (wrap64 (Int.tdiv a0 16)) 4), .int .i64 (Int.tmod (wrap64 (Int.tdiv a0 64)) 4), .int .i64 (Int.tmod (wrap64 (Int.tdiv a0 256)) 4), .int .i64 (wrap64 (Int.tdiv a0 1024))] 71 (0, 0)) (by exact zp5 (zK BK185.1)) hb); replace HB := zM (below_step zB1 hb); clear hb; have hcz11 := zc_5 (w := w10) BK185.1; have hcz12 := zc_5 (w := w10) BK183.1))
 refine bodyPost_ret (results_ct rfl _ _ gb183 71 #[.int .i64 (Int.tmod a0 16), .int .i64 (Int.tmod (wrap64 (Int.tdiv a0 16)) 4), .int .i64 (Int.tmod (wrap64 (Int.tdiv a0 64)) 4), .int .i64 (Int.tmod (wrap64 (Int.tdiv a0 256)) 4), .int .i64 (wrap64 (Int.tdiv a0 1024))] (0, 0) _ rfl (by exact zp5 (zK BK183.1)) Try.underlying71 rfl (by kernel_rfl)) rfl ?_
 exact ⟨zE, zB1⟩

/-! ### spec_l9Address: function 89 -/
def spec_l9Address.f (a0 : Int) : Option (Int) := if (Int.tmod a0 24) < 0 then (some (wrap64 ((Int.tmod a0 24) + 24))) else (some (Int.tmod a0 24))
theorem spec_l9Address.calls (a0 : Int) (r : Int) (w : World) (h : spec_l9Address.f a0 = some r) :
  Calls Try.prog 89 #[.int .i64 a0] w fun e w' => e = .returned (.int .i64 r) ∧ Drawn0 w w' := by
 unfold spec_l9Address.f at h
 have H := h
 clear h
 by_cases c2 : (Int.tmod a0 24) < 0
 ·rw [if_pos c2] at H
  have c2b0 := decide_eq_true c2
  clear c2
  obtain rfl := Option.some.inj H
  go_enter Try.func89, Try.ntmps89
  go_wp2
  go_ret
  exact ⟨zJJ, zDD⟩
 rw [if_neg c2] at H
 have c2b0 := decide_eq_false c2
 clear c2
 obtain rfl := Option.some.inj H
 go_enter Try.func89, Try.ntmps89
 go_wp2
 go_ret
 exact ⟨zJJ, zDD⟩

/-! ### spec_Target: function 78 -/
def spec_Target.f (a0_0 : Int) (a0_1 : Int) (a0_2 : Int) (a0_3 : Int) (a0_4 : Int) (l1 : List Int) : Option (Int) := (spec_InsOk.f a0_0 a0_1 a0_2 a0_3 a0_4).bind fun t188 => (if t188 = true then (if (l1.length : Int) = 4 then (if a0_0 = 4 then (if 0 ≤ a0_2 then (if a0_2 < (l1.length : Int) then ((spec_l9Address.f (wrap64 ((rd l1 a0_2) + a0_4))).bind fun t190 => (some t190)) else (none)) else (none)) else (if a0_0 = 5 then (if 0 ≤ a0_2 then (if a0_2 < (l1.length : Int) then ((spec_l9Address.f (wrap64 ((rd l1 a0_2) + a0_4))).bind fun t192 => (some t192)) else (none)) else (none)) else (if a0_0 = 6 then (if 0 ≤ a0_2 then (if a0_2 < (l1.length : Int) then ((spec_l9Address.f (wrap64 ((rd l1 a0_2) + a0_4))).bind fun t194 => (some t194)) else (none)) else (none)) else (some (-1))))) else (some (-1))) else (some (-1)))
theorem spec_Target.calls (a0_0 : Int) (a0_1 : Int) (a0_2 : Int) (a0_3 : Int) (a0_4 : Int) (A1 : Option Addr) (c1 : Nat) (l1 : List Int) (r : Int) (w : World) (hr1 : Kd.C (Kd.int .i64) w A1 l1.length l1) (hc1 : l1.length ≤ c1) (h : spec_Target.f a0_0 a0_1 a0_2 a0_3 a0_4 l1 = some r) :
  Calls Try.prog 78 #[.agg #[.int .i64 a0_0, .int .i64 a0_1, .int .i64 a0_2, .int .i64 a0_3, .int .i64 a0_4], .slice A1 l1.length c1] w fun e w' => e = .returned (.int .i64 r) ∧ Below w.heap.size w w' := by
 have hu71 := Try.underlying71
 have HR1 := zM hr1
 have HC1 := zM hc1
 clear hr1 hc1
 have HB := zM (Below.refl w.heap.size w)
 unfold spec_Target.f at h
 have H := h
 clear h
 replace H := zO H
 obtain ⟨t188, A3, H⟩ := H
 by_cases c4 : t188 = true
 rotate_left
 ·replace c4 := Bool.eq_false_iff.mpr c4
  subst c4
  rw [if_neg zF] at H
  obtain rfl := Option.some.inj H
  go_enter Try.func78, Try.ntmps78
  go_wp2_with (first | ((with_reducible refine gate_dst (N := 2) rfl ?_); (try (refine gate_guard (by rfl) ?_; dsimp only)); (with_reducible refine zBx 2 71 #[.int .i64 a0_0, .int .i64 a0_1, .int .i64 a0_2, .int .i64 a0_3, .int .i64 a0_4] ?_); intro gb187 hg w37 hbox hb; have BK187 := zM hbox; have GW187 := zM (zW hg (below_size zB1)); have GE187 := zM (zW hg (below_size zB1)); replace HB := zM (below_step zB1 hb); clear hb hbox hg; have hcz38 := zc_5 (w := w37) BK187.1) | (go_at_call 88; (with_reducible refine (spec_InsOk.calls a0_0 a0_1 a0_2 a0_3 a0_4 false _ A3.1).mono ?_); rintro e w39 ⟨rfl, hb⟩; replace BK187 := zM (zb BK187.1 hb); replace HB := zM (below_step zB1 hb); clear hb))
  repeat (go_quiet (first | ((with_reducible refine gate_dst (N := 2) rfl ?_); (try (refine gate_guard (by rfl) ?_; dsimp only)); (with_reducible refine zBx 2 71 #[.int .i64 a0_0, .int .i64 a0_1, .int .i64 a0_2, .int .i64 a0_3, .int .i64 a0_4] ?_); intro gb187 hg w37 hbox hb; have BK187 := zM hbox; have GW187 := zM (zW hg (below_size zB1)); have GE187 := zM (zW hg (below_size zB1)); replace HB := zM (below_step zB1 hb); clear hb hbox hg; have hcz38 := zc_5 (w := w37) BK187.1) | (go_at_call 88; (with_reducible refine (spec_InsOk.calls a0_0 a0_1 a0_2 a0_3 a0_4 false _ A3.1).mono ?_); rintro e w39 ⟨rfl, hb⟩; replace BK187 := zM (zb BK187.1 hb); replace HB := zM (below_step zB1 hb); clear hb)); try go_wp2_with (first | ((with_reducible refine gate_dst (N := 2) rfl ?_); (try (refine gate_guard (by rfl) ?_; dsimp only)); (with_reducible refine zBx 2 71 #[.int .i64 a0_0, .int .i64 a0_1, .int .i64 a0_2, .int .i64 a0_3, .int .i64 a0_4] ?_); intro gb187 hg w37 hbox hb; have BK187 := zM hbox; have GW187 := zM (zW hg (below_size zB1)); have GE187 := zM (zW hg (below_size zB1)); replace HB := zM (below_step zB1 hb); clear hb hbox hg; have hcz38 := zc_5 (w := w37) BK187.1) | (go_at_call 88; (with_reducible refine (spec_InsOk.calls a0_0 a0_1 a0_2 a0_3 a0_4 false _ A3.1).mono ?_); rintro e w39 ⟨rfl, hb⟩; replace BK187 := zM (zb BK187.1 hb); replace HB := zM (below_step zB1 hb); clear hb)))
  go_ret
  exact ⟨zE, zB1⟩
 subst c4
 rw [if_pos rfl] at H
 by_cases c5 : (l1.length : Int) = 4
 rotate_left
 ·rw [if_neg c5] at H
  have c5b0 : ((l1.length : Int) == 4) = false := beq_eq_false_iff_ne.mpr c5
  have c5b1 : ((l1.length : Int) != 4) = true := bne_iff_ne.mpr c5
  obtain rfl := Option.some.inj H
  go_enter Try.func78, Try.ntmps78
  go_wp2_with (first | ((with_reducible refine gate_dst (N := 2) rfl ?_); (try (refine gate_guard (by rfl) ?_; dsimp only)); (with_reducible refine zBx 2 71 #[.int .i64 a0_0, .int .i64 a0_1, .int .i64 a0_2, .int .i64 a0_3, .int .i64 a0_4] ?_); intro gb187 hg w34 hbox hb; have BK187 := zM hbox; have GW187 := zM (zW hg (below_size zB1)); have GE187 := zM (zW hg (below_size zB1)); replace HB := zM (below_step zB1 hb); clear hb hbox hg; have hcz35 := zc_5 (w := w34) BK187.1) | (go_at_call 88; (with_reducible refine (spec_InsOk.calls a0_0 a0_1 a0_2 a0_3 a0_4 true _ A3.1).mono ?_); rintro e w36 ⟨rfl, hb⟩; replace BK187 := zM (zb BK187.1 hb); replace HB := zM (below_step zB1 hb); clear hb))
  repeat (go_quiet (first | ((with_reducible refine gate_dst (N := 2) rfl ?_); (try (refine gate_guard (by rfl) ?_; dsimp only)); (with_reducible refine zBx 2 71 #[.int .i64 a0_0, .int .i64 a0_1, .int .i64 a0_2, .int .i64 a0_3, .int .i64 a0_4] ?_); intro gb187 hg w34 hbox hb; have BK187 := zM hbox; have GW187 := zM (zW hg (below_size zB1)); have GE187 := zM (zW hg (below_size zB1)); replace HB := zM (below_step zB1 hb); clear hb hbox hg; have hcz35 := zc_5 (w := w34) BK187.1) | (go_at_call 88; (with_reducible refine (spec_InsOk.calls a0_0 a0_1 a0_2 a0_3 a0_4 true _ A3.1).mono ?_); rintro e w36 ⟨rfl, hb⟩; replace BK187 := zM (zb BK187.1 hb); replace HB := zM (below_step zB1 hb); clear hb)); try go_wp2_with (first | ((with_reducible refine gate_dst (N := 2) rfl ?_); (try (refine gate_guard (by rfl) ?_; dsimp only)); (with_reducible refine zBx 2 71 #[.int .i64 a0_0, .int .i64 a0_1, .int .i64 a0_2, .int .i64 a0_3, .int .i64 a0_4] ?_); intro gb187 hg w34 hbox hb; have BK187 := zM hbox; have GW187 := zM (zW hg (below_size zB1)); have GE187 := zM (zW hg (below_size zB1)); replace HB := zM (below_step zB1 hb); clear hb hbox hg; have hcz35 := zc_5 (w := w34) BK187.1) | (go_at_call 88; (with_reducible refine (spec_InsOk.calls a0_0 a0_1 a0_2 a0_3 a0_4 true _ A3.1).mono ?_); rintro e w36 ⟨rfl, hb⟩; replace BK187 := zM (zb BK187.1 hb); replace HB := zM (below_step zB1 hb); clear hb)))
  go_ret
  exact ⟨zE, zB1⟩
 rw [if_pos c5] at H
 have c5b0 : ((l1.length : Int) == 4) = true := beq_iff_eq.mpr c5
 have c5b1 : ((l1.length : Int) != 4) = false := bne_eq_false_iff_eq.mpr c5
 clear c5
 by_cases c6 : a0_0 = 4
 ·rw [if_pos c6] at H
  have c6b0 : (a0_0 == 4) = true := beq_iff_eq.mpr c6
  have c6b1 : (a0_0 != 4) = false := bne_eq_false_iff_eq.mpr c6
  clear c6
  replace H := zIt H
  obtain ⟨c7b0, H⟩ := H
  replace H := zIt H
  obtain ⟨c8b0, H⟩ := H
  replace H := zO H
  obtain ⟨t190, A9, H⟩ := H
  obtain rfl := Option.some.inj H
  go_enter Try.func78, Try.ntmps78
  go_wp2_with (first | ((with_reducible refine gate_dst (N := 2) rfl ?_); (try (refine gate_guard (by rfl) ?_; dsimp only)); (with_reducible refine zBx 2 71 #[.int .i64 a0_0, .int .i64 a0_1, .int .i64 a0_2, .int .i64 a0_3, .int .i64 a0_4] ?_); intro gb187 hg w10 hbox hb; have BK187 := zM hbox; have GW187 := zM (zW hg (below_size zB1)); have GE187 := zM (zW hg (below_size zB1)); replace HB := zM (below_step zB1 hb); clear hb hbox hg; have hcz11 := zc_5 (w := w10) BK187.1) | (go_at_call 88; (with_reducible refine (spec_InsOk.calls a0_0 a0_1 a0_2 a0_3 a0_4 true _ A3.1).mono ?_); rintro e w12 ⟨rfl, hb⟩; replace BK187 := zM (zb BK187.1 hb); replace HB := zM (below_step zB1 hb); clear hb; have hcz13 := zc_5 (w := w12) BK187.1; obtain ⟨p189, q189, ad189, e189, hx189_0⟩ := zRd (Kd.at_int HR1.1 a0_2); cases e189; replace hx189_0 := zHx HB.1 hx189_0) | (go_at_call 89; (with_reducible refine (spec_l9Address.calls (wrap64 ((rd l1 a0_2) + a0_4)) t190 _ A9.1).mono ?_); rintro e w' ⟨rfl, ⟨nd, rfl⟩⟩; (try first | exact ⟨rfl, _, World.drewN_drewN _ _ _⟩ | exact ⟨rfl, _, Eq.trans (World.drewN_drewN _ _ _) (congrArg (World.drewN _) (Nat.add_assoc _ _ _))⟩)))
  repeat (go_quiet (first | ((with_reducible refine gate_dst (N := 2) rfl ?_); (try (refine gate_guard (by rfl) ?_; dsimp only)); (with_reducible refine zBx 2 71 #[.int .i64 a0_0, .int .i64 a0_1, .int .i64 a0_2, .int .i64 a0_3, .int .i64 a0_4] ?_); intro gb187 hg w10 hbox hb; have BK187 := zM hbox; have GW187 := zM (zW hg (below_size zB1)); have GE187 := zM (zW hg (below_size zB1)); replace HB := zM (below_step zB1 hb); clear hb hbox hg; have hcz11 := zc_5 (w := w10) BK187.1) | (go_at_call 88; (with_reducible refine (spec_InsOk.calls a0_0 a0_1 a0_2 a0_3 a0_4 true _ A3.1).mono ?_); rintro e w12 ⟨rfl, hb⟩; replace BK187 := zM (zb BK187.1 hb); replace HB := zM (below_step zB1 hb); clear hb; have hcz13 := zc_5 (w := w12) BK187.1; obtain ⟨p189, q189, ad189, e189, hx189_0⟩ := zRd (Kd.at_int HR1.1 a0_2); cases e189; replace hx189_0 := zHx HB.1 hx189_0) | (go_at_call 89; (with_reducible refine (spec_l9Address.calls (wrap64 ((rd l1 a0_2) + a0_4)) t190 _ A9.1).mono ?_); rintro e w' ⟨rfl, ⟨nd, rfl⟩⟩; (try first | exact ⟨rfl, _, World.drewN_drewN _ _ _⟩ | exact ⟨rfl, _, Eq.trans (World.drewN_drewN _ _ _) (congrArg (World.drewN _) (Nat.add_assoc _ _ _))⟩))); try go_wp2_with (first | ((with_reducible refine gate_dst (N := 2) rfl ?_); (try (refine gate_guard (by rfl) ?_; dsimp only)); (with_reducible refine zBx 2 71 #[.int .i64 a0_0, .int .i64 a0_1, .int .i64 a0_2, .int .i64 a0_3, .int .i64 a0_4] ?_); intro gb187 hg w10 hbox hb; have BK187 := zM hbox; have GW187 := zM (zW hg (below_size zB1)); have GE187 := zM (zW hg (below_size zB1)); replace HB := zM (below_step zB1 hb); clear hb hbox hg; have hcz11 := zc_5 (w := w10) BK187.1) | (go_at_call 88; (with_reducible refine (spec_InsOk.calls a0_0 a0_1 a0_2 a0_3 a0_4 true _ A3.1).mono ?_); rintro e w12 ⟨rfl, hb⟩; replace BK187 := zM (zb BK187.1 hb); replace HB := zM (below_step zB1 hb); clear hb; have hcz13 := zc_5 (w := w12) BK187.1; obtain ⟨p189, q189, ad189, e189, hx189_0⟩ := zRd (Kd.at_int HR1.1 a0_2); cases e189; replace hx189_0 := zHx HB.1 hx189_0) | (go_at_call 89; (with_reducible refine (spec_l9Address.calls (wrap64 ((rd l1 a0_2) + a0_4)) t190 _ A9.1).mono ?_); rintro e w' ⟨rfl, ⟨nd, rfl⟩⟩; (try first | exact ⟨rfl, _, World.drewN_drewN _ _ _⟩ | exact ⟨rfl, _, Eq.trans (World.drewN_drewN _ _ _) (congrArg (World.drewN _) (Nat.add_assoc _ _ _))⟩))))
  go_ret
  exact ⟨zE, zB1⟩
 rw [if_neg c6] at H
 have c6b0 : (a0_0 == 4) = false := beq_eq_false_iff_ne.mpr c6
 have c6b1 : (a0_0 != 4) = true := bne_iff_ne.mpr c6
 by_cases c14 : a0_0 = 5
 ·rw [if_pos c14] at H
  have c14b0 : (a0_0 == 5) = true := beq_iff_eq.mpr c14
  have c14b1 : (a0_0 != 5) = false := bne_eq_false_iff_eq.mpr c14
  clear c14
  replace H := zIt H
  obtain ⟨c15b0, H⟩ := H
  replace H := zIt H
  obtain ⟨c16b0, H⟩ := H
  replace H := zO H
  obtain ⟨t192, A17, H⟩ := H
  obtain rfl := Option.some.inj H
  go_enter Try.func78, Try.ntmps78
  go_wp2_with (first | ((with_reducible refine gate_dst (N := 2) rfl ?_); (try (refine gate_guard (by rfl) ?_; dsimp only)); (with_reducible refine zBx 2 71 #[.int .i64 a0_0, .int .i64 a0_1, .int .i64 a0_2, .int .i64 a0_3, .int .i64 a0_4] ?_); intro gb187 hg w18 hbox hb; have BK187 := zM hbox; have GW187 := zM (zW hg (below_size zB1)); have GE187 := zM (zW hg (below_size zB1)); replace HB := zM (below_step zB1 hb); clear hb hbox hg; have hcz19 := zc_5 (w := w18) BK187.1) | (go_at_call 88; (with_reducible refine (spec_InsOk.calls a0_0 a0_1 a0_2 a0_3 a0_4 true _ A3.1).mono ?_); rintro e w20 ⟨rfl, hb⟩; replace BK187 := zM (zb BK187.1 hb); replace HB := zM (below_step zB1 hb); clear hb; have hcz21 := zc_5 (w := w20) BK187.1; obtain ⟨p191, q191, ad191, e191, hx191_0⟩ := zRd (Kd.at_int HR1.1 a0_2); cases e191; replace hx191_0 := zHx HB.1 hx191_0) | (go_at_call 89; (with_reducible refine (spec_l9Address.calls (wrap64 ((rd l1 a0_2) + a0_4)) t192 _ A17.1).mono ?_); rintro e w' ⟨rfl, ⟨nd, rfl⟩⟩; (try first | exact ⟨rfl, _, World.drewN_drewN _ _ _⟩ | exact ⟨rfl, _, Eq.trans (World.drewN_drewN _ _ _) (congrArg (World.drewN _) (Nat.add_assoc _ _ _))⟩)))
  repeat (go_quiet (first | ((with_reducible refine gate_dst (N := 2) rfl ?_); (try (refine gate_guard (by rfl) ?_; dsimp only)); (with_reducible refine zBx 2 71 #[.int .i64 a0_0, .int .i64 a0_1, .int .i64 a0_2, .int .i64 a0_3, .int .i64 a0_4] ?_); intro gb187 hg w18 hbox hb; have BK187 := zM hbox; have GW187 := zM (zW hg (below_size zB1)); have GE187 := zM (zW hg (below_size zB1)); replace HB := zM (below_step zB1 hb); clear hb hbox hg; have hcz19 := zc_5 (w := w18) BK187.1) | (go_at_call 88; (with_reducible refine (spec_InsOk.calls a0_0 a0_1 a0_2 a0_3 a0_4 true _ A3.1).mono ?_); rintro e w20 ⟨rfl, hb⟩; replace BK187 := zM (zb BK187.1 hb); replace HB := zM (below_step zB1 hb); clear hb; have hcz21 := zc_5 (w := w20) BK187.1; obtain ⟨p191, q191, ad191, e191, hx191_0⟩ := zRd (Kd.at_int HR1.1 a0_2); cases e191; replace hx191_0 := zHx HB.1 hx191_0) | (go_at_call 89; (with_reducible refine (spec_l9Address.calls (wrap64 ((rd l1 a0_2) + a0_4)) t192 _ A17.1).mono ?_); rintro e w' ⟨rfl, ⟨nd, rfl⟩⟩; (try first | exact ⟨rfl, _, World.drewN_drewN _ _ _⟩ | exact ⟨rfl, _, Eq.trans (World.drewN_drewN _ _ _) (congrArg (World.drewN _) (Nat.add_assoc _ _ _))⟩))); try go_wp2_with (first | ((with_reducible refine gate_dst (N := 2) rfl ?_); (try (refine gate_guard (by rfl) ?_; dsimp only)); (with_reducible refine zBx 2 71 #[.int .i64 a0_0, .int .i64 a0_1, .int .i64 a0_2, .int .i64 a0_3, .int .i64 a0_4] ?_); intro gb187 hg w18 hbox hb; have BK187 := zM hbox; have GW187 := zM (zW hg (below_size zB1)); have GE187 := zM (zW hg (below_size zB1)); replace HB := zM (below_step zB1 hb); clear hb hbox hg; have hcz19 := zc_5 (w := w18) BK187.1) | (go_at_call 88; (with_reducible refine (spec_InsOk.calls a0_0 a0_1 a0_2 a0_3 a0_4 true _ A3.1).mono ?_); rintro e w20 ⟨rfl, hb⟩; replace BK187 := zM (zb BK187.1 hb); replace HB := zM (below_step zB1 hb); clear hb; have hcz21 := zc_5 (w := w20) BK187.1; obtain ⟨p191, q191, ad191, e191, hx191_0⟩ := zRd (Kd.at_int HR1.1 a0_2); cases e191; replace hx191_0 := zHx HB.1 hx191_0) | (go_at_call 89; (with_reducible refine (spec_l9Address.calls (wrap64 ((rd l1 a0_2) + a0_4)) t192 _ A17.1).mono ?_); rintro e w' ⟨rfl, ⟨nd, rfl⟩⟩; (try first | exact ⟨rfl, _, World.drewN_drewN _ _ _⟩ | exact ⟨rfl, _, Eq.trans (World.drewN_drewN _ _ _) (congrArg (World.drewN _) (Nat.add_assoc _ _ _))⟩))))
  go_ret
  exact ⟨zE, zB1⟩
 rw [if_neg c14] at H
 have c14b0 : (a0_0 == 5) = false := beq_eq_false_iff_ne.mpr c14
 have c14b1 : (a0_0 != 5) = true := bne_iff_ne.mpr c14
 by_cases c22 : a0_0 = 6
 rotate_left
 ·rw [if_neg c22] at H
  have c22b0 : (a0_0 == 6) = false := beq_eq_false_iff_ne.mpr c22
  have c22b1 : (a0_0 != 6) = true := bne_iff_ne.mpr c22
  obtain rfl := Option.some.inj H
  go_enter Try.func78, Try.ntmps78
  go_wp2_with (first | ((with_reducible refine gate_dst (N := 2) rfl ?_); (try (refine gate_guard (by rfl) ?_; dsimp only)); (with_reducible refine zBx 2 71 #[.int .i64 a0_0, .int .i64 a0_1, .int .i64 a0_2, .int .i64 a0_3, .int .i64 a0_4] ?_); intro gb187 hg w30 hbox hb; have BK187 := zM hbox; have GW187 := zM (zW hg (below_size zB1)); have GE187 := zM (zW hg (below_size zB1)); replace HB := zM (below_step zB1 hb); clear hb hbox hg; have hcz31 := zc_5 (w := w30) BK187.1) | (go_at_call 88; (with_reducible refine (spec_InsOk.calls a0_0 a0_1 a0_2 a0_3 a0_4 true _ A3.1).mono ?_); rintro e w32 ⟨rfl, hb⟩; replace BK187 := zM (zb BK187.1 hb); replace HB := zM (below_step zB1 hb); clear hb; have hcz33 := zc_5 (w := w32) BK187.1))
  repeat (go_quiet (first | ((with_reducible refine gate_dst (N := 2) rfl ?_); (try (refine gate_guard (by rfl) ?_; dsimp only)); (with_reducible refine zBx 2 71 #[.int .i64 a0_0, .int .i64 a0_1, .int .i64 a0_2, .int .i64 a0_3, .int .i64 a0_4] ?_); intro gb187 hg w30 hbox hb; have BK187 := zM hbox; have GW187 := zM (zW hg (below_size zB1)); have GE187 := zM (zW hg (below_size zB1)); replace HB := zM (below_step zB1 hb); clear hb hbox hg; have hcz31 := zc_5 (w := w30) BK187.1) | (go_at_call 88; (with_reducible refine (spec_InsOk.calls a0_0 a0_1 a0_2 a0_3 a0_4 true _ A3.1).mono ?_); rintro e w32 ⟨rfl, hb⟩; replace BK187 := zM (zb BK187.1 hb); replace HB := zM (below_step zB1 hb); clear hb; have hcz33 := zc_5 (w := w32) BK187.1)); try go_wp2_with (first | ((with_reducible refine gate_dst (N := 2) rfl ?_); (try (refine gate_guard (by rfl) ?_; dsimp only)); (with_reducible refine zBx 2 71 #[.int .i64 a0_0, .int .i64 a0_1, .int .i64 a0_2, .int .i64 a0_3, .int .i64 a0_4] ?_); intro gb187 hg w30 hbox hb; have BK187 := zM hbox; have GW187 := zM (zW hg (below_size zB1)); have GE187 := zM (zW hg (below_size zB1)); replace HB := zM (below_step zB1 hb); clear hb hbox hg; have hcz31 := zc_5 (w := w30) BK187.1) | (go_at_call 88; (with_reducible refine (spec_InsOk.calls a0_0 a0_1 a0_2 a0_3 a0_4 true _ A3.1).mono ?_); rintro e w32 ⟨rfl, hb⟩; replace BK187 := zM (zb BK187.1 hb); replace HB := zM (below_step zB1 hb); clear hb; have hcz33 := zc_5 (w := w32) BK187.1)))
  go_ret
  exact ⟨zE, zB1⟩
 rw [if_pos c22] at H
 have c22b0 : (a0_0 == 6) = true := beq_iff_eq.mpr c22
 have c22b1 : (a0_0 != 6) = false := bne_eq_false_iff_eq.mpr c22
 clear c22
 replace H := zIt H
 obtain ⟨c23b0, H⟩ := H
 replace H := zIt H
 obtain ⟨c24b0, H⟩ := H
 replace H := zO H
 obtain ⟨t194, A25, H⟩ := H
 obtain rfl := Option.some.inj H
 go_enter Try.func78, Try.ntmps78
 go_wp2_with (first | ((with_reducible refine gate_dst (N := 2) rfl ?_); (try (refine gate_guard (by rfl) ?_; dsimp only)); (with_reducible refine zBx 2 71 #[.int .i64 a0_0, .int .i64 a0_1, .int .i64 a0_2, .int .i64 a0_3, .int .i64 a0_4] ?_); intro gb187 hg w26 hbox hb; have BK187 := zM hbox; have GW187 := zM (zW hg (below_size zB1)); have GE187 := zM (zW hg (below_size zB1)); replace HB := zM (below_step zB1 hb); clear hb hbox hg; have hcz27 := zc_5 (w := w26) BK187.1) | (go_at_call 88; (with_reducible refine (spec_InsOk.calls a0_0 a0_1 a0_2 a0_3 a0_4 true _ A3.1).mono ?_); rintro e w28 ⟨rfl, hb⟩; replace BK187 := zM (zb BK187.1 hb); replace HB := zM (below_step zB1 hb); clear hb; have hcz29 := zc_5 (w := w28) BK187.1; obtain ⟨p193, q193, ad193, e193, hx193_0⟩ := zRd (Kd.at_int HR1.1 a0_2); cases e193; replace hx193_0 := zHx HB.1 hx193_0) | (go_at_call 89; (with_reducible refine (spec_l9Address.calls (wrap64 ((rd l1 a0_2) + a0_4)) t194 _ A25.1).mono ?_); rintro e w' ⟨rfl, ⟨nd, rfl⟩⟩; (try first | exact ⟨rfl, _, World.drewN_drewN _ _ _⟩ | exact ⟨rfl, _, Eq.trans (World.drewN_drewN _ _ _) (congrArg (World.drewN _) (Nat.add_assoc _ _ _))⟩)))
 repeat (go_quiet (first | ((with_reducible refine gate_dst (N := 2) rfl ?_); (try (refine gate_guard (by rfl) ?_; dsimp only)); (with_reducible refine zBx 2 71 #[.int .i64 a0_0, .int .i64 a0_1, .int .i64 a0_2, .int .i64 a0_3, .int .i64 a0_4] ?_); intro gb187 hg w26 hbox hb; have BK187 := zM hbox; have GW187 := zM (zW hg (below_size zB1)); have GE187 := zM (zW hg (below_size zB1)); replace HB := zM (below_step zB1 hb); clear hb hbox hg; have hcz27 := zc_5 (w := w26) BK187.1) | (go_at_call 88; (with_reducible refine (spec_InsOk.calls a0_0 a0_1 a0_2 a0_3 a0_4 true _ A3.1).mono ?_); rintro e w28 ⟨rfl, hb⟩; replace BK187 := zM (zb BK187.1 hb); replace HB := zM (below_step zB1 hb); clear hb; have hcz29 := zc_5 (w := w28) BK187.1; obtain ⟨p193, q193, ad193, e193, hx193_0⟩ := zRd (Kd.at_int HR1.1 a0_2); cases e193; replace hx193_0 := zHx HB.1 hx193_0) | (go_at_call 89; (with_reducible refine (spec_l9Address.calls (wrap64 ((rd l1 a0_2) + a0_4)) t194 _ A25.1).mono ?_); rintro e w' ⟨rfl, ⟨nd, rfl⟩⟩; (try first | exact ⟨rfl, _, World.drewN_drewN _ _ _⟩ | exact ⟨rfl, _, Eq.trans (World.drewN_drewN _ _ _) (congrArg (World.drewN _) (Nat.add_assoc _ _ _))⟩))); try go_wp2_with (first | ((with_reducible refine gate_dst (N := 2) rfl ?_); (try (refine gate_guard (by rfl) ?_; dsimp only)); (with_reducible refine zBx 2 71 #[.int .i64 a0_0, .int .i64 a0_1, .int .i64 a0_2, .int .i64 a0_3, .int .i64 a0_4] ?_); intro gb187 hg w26 hbox hb; have BK187 := zM hbox; have GW187 := zM (zW hg (below_size zB1)); have GE187 := zM (zW hg (below_size zB1)); replace HB := zM (below_step zB1 hb); clear hb hbox hg; have hcz27 := zc_5 (w := w26) BK187.1) | (go_at_call 88; (with_reducible refine (spec_InsOk.calls a0_0 a0_1 a0_2 a0_3 a0_4 true _ A3.1).mono ?_); rintro e w28 ⟨rfl, hb⟩; replace BK187 := zM (zb BK187.1 hb); replace HB := zM (below_step zB1 hb); clear hb; have hcz29 := zc_5 (w := w28) BK187.1; obtain ⟨p193, q193, ad193, e193, hx193_0⟩ := zRd (Kd.at_int HR1.1 a0_2); cases e193; replace hx193_0 := zHx HB.1 hx193_0) | (go_at_call 89; (with_reducible refine (spec_l9Address.calls (wrap64 ((rd l1 a0_2) + a0_4)) t194 _ A25.1).mono ?_); rintro e w' ⟨rfl, ⟨nd, rfl⟩⟩; (try first | exact ⟨rfl, _, World.drewN_drewN _ _ _⟩ | exact ⟨rfl, _, Eq.trans (World.drewN_drewN _ _ _) (congrArg (World.drewN _) (Nat.add_assoc _ _ _))⟩))))
 go_ret
 exact ⟨zE, zB1⟩

/-! ### spec_l9Copy: function 80 -/
def spec_l9Copy.f (l0_0 : List Int) (a0_1 : Int) (a0_2 : Int) : Option (List Int × Int × Int) := (some (([] : List Int) : List Int)).bind fun y197 => (if y197.length + l0_0.length < 17592186044416 then (some ((y197 ++ l0_0), a0_1, a0_2)) else (none))
theorem spec_l9Copy.calls (A0_0 : Option Addr) (c0_0 : Nat) (l0_0 : List Int) (a0_1 : Int) (a0_2 : Int) (r1 : List Int) (r2 : Int) (r3 : Int) (w : World) (hr0_0 : Kd.C (Kd.int .i64) w A0_0 l0_0.length l0_0) (hc0_0 : l0_0.length ≤ c0_0) (h : spec_l9Copy.f l0_0 a0_1 a0_2 = some (r1, r2, r3)) :
  Calls Try.prog 80 #[.agg #[.slice A0_0 l0_0.length c0_0, .int .i64 a0_1, .int .i64 a0_2]] w fun e w' => ∃ v0_ : Value, e = .returned (.agg #[v0_, .int .i64 r2, .int .i64 r3]) ∧ Kd.R (Kd.int .i64) 3 w' w.heap.size (fun _ => True) v0_ r1 ∧ Below w.heap.size w w' := by
 have hu49 := Try.underlying49
 have HR0_0 := zM hr0_0
 have HC0_0 := zM hc0_0
 clear hr0_0 hc0_0
 have HB := zM (Below.refl w.heap.size w)
 unfold spec_l9Copy.f at h
 have H := h
 clear h
 replace H := zY H
 obtain ⟨y197, Ny197, H⟩ := H
 replace H := zIn H
 obtain ⟨LMc2, H⟩ := H
 generalize hy200 : ((y197 ++ l0_0) : List Int) = y200 at H
 have Ny200 := zM hy200.symm
 clear hy200
 simp only [Option.some.injEq, Prod.mk.injEq] at H
 obtain ⟨rfl, rfl, rfl⟩ := H
 go_enter Try.func80, Try.ntmps80
 go_wp2_with (first | ((with_reducible refine zBx 1 49 #[.slice A0_0 l0_0.length c0_0, .int .i64 a0_1, .int .i64 a0_2] ?_); intro gb195 hg w3 hbox hb; have BK195 := zM hbox; have GW195 := zM (zW hg (below_size zB1)); have GE195 := zM (zW hg (below_size zB1)); replace HB := zM (below_step zB1 hb); clear hb hbox hg) | ((with_reducible refine zBx 2 49 #[.slice none 0 0, .int .i64 0, .int .i64 0] ?_); intro gb196 hg w4 hbox hb; have BK196 := zM hbox; have GW196 := zM (zW hg (below_size zB1)); have GE196 := zM (zW hg (below_size zB1)); replace HB := zM (below_step zB1 hb); have NB195_196 := zM ((zn BK195.1 hg : gb195 ≠ gb196)); have NB196_195 := zM ((zm BK195.1 hg : gb196 ≠ gb195)); replace BK195 := zM (zb BK195.1 hb); clear hb hbox hg) | ((with_reducible refine gate_dst (N := 3) rfl ?_); refine Kd.R_lit (Kd.int .i64) _ 3 ?hg (N := 3) ?hd (xs := ([] : List Int)) (inner := []) (ok := fun _ => True) (okp := fun _ => True) ?hr ?hp (fun _ hk => hk) trivial (Below.refl _ _) (Nat.le_refl _) (by simp) ?_; (case hd => rfl); (case hg => rfl); (case hr => exact zHH); (case hp => exact (Reps.none _ _)); intro v198 w5 ho6 hb hg_ hnew_; clear hg_ hnew_; (first | rw [← Ny197.1] at ho6 | (simp only [Int.reduceToNat] at ho6; rw [← Ny197.1] at ho6)); have HO199 := zM (Kd.R_lower ho6 (below_size zB1)); replace BK195 := zM (zb BK195.1 hb); replace BK196 := zM (zb BK196.1 hb); replace HB := zM (below_step zB1 hb); clear hb ho6; have hnb7 := NB195_196.1; have hnc7 := NB196_195.1; have hcz8 := zc_3 (w := w5) BK195.1) | ((with_reducible refine gate_builtin (b := .append) (xs := #[.tmp 3, .tmp 5]) rfl ?_); at_builtin; refine Kd.R_append_rows (Kd.int .i64) (w0 := w) w.heap.size rfl (.tmp 3) (.tmp 5) 29 3 (.int .i64 0) 8 rfl Try.underlying29 info3 rfl (by decide) (by omega) v198 y197 l0_0 _ _ _ (fun _ => True) (fun _ => False) rfl rfl ?aO ?aR (fun _ _ h => h) (fun _ h => h.elim) ?aF ?aB ?aS ?aL ?_; (case aR => exact zC (Kd.C_below HR0_0.1 HB.1)); (case aB => exact zB1); (case aF => exact (fun _ _ => trivial)); (case aO => exact (zR HO199.1)); (case aS => exact (below_size zB1)); (case aL => have := LMc2.out; omega); intro v201 w9 ho hb hg hat; rw [← Ny200.1] at ho; replace BK195 := zM (zg BK195.1 hg (Kd.R_ne HO199.1 BK195.1 (by decide))); replace BK196 := zM (zg BK196.1 hg (Kd.R_ne HO199.1 BK196.1 (by decide))); replace HB := zM hb; have HO202 := zM ho; clear HO199; clear ho hb hg hat; obtain ⟨Ao10, co10, eo10⟩ := Kd.R_slice HO202.1; subst eo10; have hcz11 := zc_3 (w := w9) BK195.1; have hcz12 := zc_3 (w := w9) BK196.1))
 refine bodyPost_ret (results_cell_row rfl _ _ gb196 49 #[.slice Ao10 y200.length co10, .int .i64 a0_1, .int .i64 a0_2] (0, 0) _ rfl zPq Try.underlying49 rfl (by kernel_rfl)) rfl ?_
 exact ⟨_, zE, by refine zrR ?_; exact Kd.R_mono (zfR (zfR (zfR (zgR (Kd.R_types (Kd.R_types HO202.1 BK195.1 (by decide)) BK196.1 (by decide)))))) (fun _ hk => trivial), zB1⟩

/-! ### spec_l9Word: function 90 -/
def spec_l9Word.f (a0 : Int) : Option (Int) := some (Go.bits .and .i64 a0 65535)
theorem spec_l9Word.calls (a0 : Int) (r : Int) (w : World) (h : spec_l9Word.f a0 = some r) :
  Calls Try.prog 90 #[.int .i64 a0] w fun e w' => e = .returned (.int .i64 r) ∧ Drawn0 w w' := by
 unfold spec_l9Word.f at h
 have H := h
 clear h
 obtain rfl := Option.some.inj H
 go_enter Try.func90, Try.ntmps90
 go_wp2
 go_ret
 exact ⟨zJJ, zDD⟩

end Go.Proofs.Ytgbjengnkbomoaa.PFnRaces
