-- made by wip/tools/myprint.py out of the seat's translation
import Derived.Test.YtgbjengnkbomoaaPFnRacesOfCountsx0
import Derived.Test.YtgbjengnkbomoaaPFnRacesOfCountsx3
import Derived.Test.YtgbjengnkbomoaaPFnRacesOfCountsx4
namespace Go.Proofs.Ytgbjengnkbomoaa.PFnRacesOfCounts
open Go.RowKit Go.Proofs.YtgbjengnkbomoaaW.PrintWords Go.Proofs.YtgbjengnkbomoaaW.PrintLast Go.Proofs.YtgbjengnkbomoaaW.PrintMore
attribute [local go_sem] max2_int min2_int max_two min_two max_three min_three max_four min_four   -- for this text's walks alone
set_option linter.unusedVariables false
set_option linter.unusedSimpArgs false
set_option maxHeartbeats 8000000
set_option maxRecDepth 100000

/-! ### impl_knows: function 43 -/
def impl_knows.f (k : Nat) (l0 : List (List Int)) (a1 : Int) (a2 : Int) : Option (Bool) := if a1 < a2 then ((impl_from.f a1 0 (wrap64 ((l0.length : Int) - 1))).bind fun t155 => (if t155 = true then ((impl_from.f a2 0 (wrap64 ((l0.length : Int) - 1))).bind fun t156 => (if t156 = true then (if 0 ≤ a1 then (if a1 < (l0.length : Int) then (if 0 ≤ a2 then (if a2 < (l0.length : Int) then ((impl_ClockWithin.f k (rd_L3 l0 a1) (rd_L3 l0 a2)).bind fun t159 => (some t159)) else (none)) else (none)) else (none)) else (none)) else (some false))) else (some false))) else (some false)
theorem impl_knows.mono : ∀ a0 a1 a2 k, LeO (impl_knows.f k a0 a1 a2) (impl_knows.f (k + 1) a0 a1 a2) := by
 intro a0 a1 a2 k
 unfold impl_knows.f
 have mo0 := @impl_ClockWithin.mono
 exact zL
theorem impl_knows.calls (k : Nat) (A0 : Option Addr) (c0 : Nat) (l0 : List (List Int)) (a1 : Int) (a2 : Int) (r : Bool) (w : World) (hr0 : Kd.C (Kd.slice 3 (Kd.int .i64)) w A0 l0.length l0) (hc0 : l0.length ≤ c0) (h : impl_knows.f k l0 a1 a2 = some r) :
  Calls Try.prog 43 #[.slice A0 l0.length c0, .int .i64 a1, .int .i64 a2] w fun e w' => e = .returned (.bool r) ∧ Drawn0 w w' := by
 have HR0 := zM hr0
 have HC0 := zM hc0
 clear hr0 hc0
 unfold impl_knows.f at h
 have H := h
 clear h
 by_cases c4 : a1 < a2
 rotate_left
 ·rw [if_neg c4] at H
  have c4b0 := decide_eq_false c4
  clear c4
  obtain rfl := Option.some.inj H
  go_enter Try.func43, Try.ntmps43
  go_wp2
  repeat (go_quiet (fail); try go_wp2)
  go_ret
  exact ⟨zJJ, zDD⟩
 rw [if_pos c4] at H
 have c4b0 := decide_eq_true c4
 clear c4
 replace H := zO H
 obtain ⟨t155, A5, H⟩ := H
 by_cases c6 : t155 = true
 rotate_left
 ·replace c6 := Bool.eq_false_iff.mpr c6
  subst c6
  rw [if_neg zF] at H
  obtain rfl := Option.some.inj H
  go_enter Try.func43, Try.ntmps43
  go_wp2_with (first | (go_at_call 31; (with_reducible refine (impl_from.calls a1 0 (wrap64 ((l0.length : Int) - 1)) false _ A5.1).mono ?_); rintro e w' ⟨rfl, ⟨nd, rfl⟩⟩; (try first | exact ⟨rfl, _, World.drewN_drewN _ _ _⟩ | exact ⟨rfl, _, Eq.trans (World.drewN_drewN _ _ _) (congrArg (World.drewN _) (Nat.add_assoc _ _ _))⟩)))
  repeat (go_quiet (first | (go_at_call 31; (with_reducible refine (impl_from.calls a1 0 (wrap64 ((l0.length : Int) - 1)) false _ A5.1).mono ?_); rintro e w' ⟨rfl, ⟨nd, rfl⟩⟩; (try first | exact ⟨rfl, _, World.drewN_drewN _ _ _⟩ | exact ⟨rfl, _, Eq.trans (World.drewN_drewN _ _ _) (congrArg (World.drewN _) (Nat.add_assoc _ _ _))⟩))); try go_wp2_with (first | (go_at_call 31; (with_reducible refine (impl_from.calls a1 0 (wrap64 ((l0.length : Int) - 1)) false _ A5.1).mono ?_); rintro e w' ⟨rfl, ⟨nd, rfl⟩⟩; (try first | exact ⟨rfl, _, World.drewN_drewN _ _ _⟩ | exact ⟨rfl, _, Eq.trans (World.drewN_drewN _ _ _) (congrArg (World.drewN _) (Nat.add_assoc _ _ _))⟩))))
  go_ret
  exact ⟨zJJ, zDD⟩
 subst c6
 rw [if_pos rfl] at H
 replace H := zO H
 obtain ⟨t156, A7, H⟩ := H
 by_cases c8 : t156 = true
 rotate_left
 ·replace c8 := Bool.eq_false_iff.mpr c8
  subst c8
  rw [if_neg zF] at H
  obtain rfl := Option.some.inj H
  go_enter Try.func43, Try.ntmps43
  go_wp2_with (first | (go_at_call 31; (with_reducible refine (impl_from.calls a1 0 (wrap64 ((l0.length : Int) - 1)) true _ A5.1).mono ?_); rintro e w' ⟨rfl, ⟨nd, rfl⟩⟩; (try first | exact ⟨rfl, _, World.drewN_drewN _ _ _⟩ | exact ⟨rfl, _, Eq.trans (World.drewN_drewN _ _ _) (congrArg (World.drewN _) (Nat.add_assoc _ _ _))⟩)) | (go_at_call 31; (with_reducible refine (impl_from.calls a2 0 (wrap64 ((l0.length : Int) - 1)) false _ A7.1).mono ?_); rintro e w' ⟨rfl, ⟨nd, rfl⟩⟩; (try first | exact ⟨rfl, _, World.drewN_drewN _ _ _⟩ | exact ⟨rfl, _, Eq.trans (World.drewN_drewN _ _ _) (congrArg (World.drewN _) (Nat.add_assoc _ _ _))⟩)))
  repeat (go_quiet (first | (go_at_call 31; (with_reducible refine (impl_from.calls a1 0 (wrap64 ((l0.length : Int) - 1)) true _ A5.1).mono ?_); rintro e w' ⟨rfl, ⟨nd, rfl⟩⟩; (try first | exact ⟨rfl, _, World.drewN_drewN _ _ _⟩ | exact ⟨rfl, _, Eq.trans (World.drewN_drewN _ _ _) (congrArg (World.drewN _) (Nat.add_assoc _ _ _))⟩)) | (go_at_call 31; (with_reducible refine (impl_from.calls a2 0 (wrap64 ((l0.length : Int) - 1)) false _ A7.1).mono ?_); rintro e w' ⟨rfl, ⟨nd, rfl⟩⟩; (try first | exact ⟨rfl, _, World.drewN_drewN _ _ _⟩ | exact ⟨rfl, _, Eq.trans (World.drewN_drewN _ _ _) (congrArg (World.drewN _) (Nat.add_assoc _ _ _))⟩))); try go_wp2_with (first | (go_at_call 31; (with_reducible refine (impl_from.calls a1 0 (wrap64 ((l0.length : Int) - 1)) true _ A5.1).mono ?_); rintro e w' ⟨rfl, ⟨nd, rfl⟩⟩; (try first | exact ⟨rfl, _, World.drewN_drewN _ _ _⟩ | exact ⟨rfl, _, Eq.trans (World.drewN_drewN _ _ _) (congrArg (World.drewN _) (Nat.add_assoc _ _ _))⟩)) | (go_at_call 31; (with_reducible refine (impl_from.calls a2 0 (wrap64 ((l0.length : Int) - 1)) false _ A7.1).mono ?_); rintro e w' ⟨rfl, ⟨nd, rfl⟩⟩; (try first | exact ⟨rfl, _, World.drewN_drewN _ _ _⟩ | exact ⟨rfl, _, Eq.trans (World.drewN_drewN _ _ _) (congrArg (World.drewN _) (Nat.add_assoc _ _ _))⟩))))
  go_ret
  exact ⟨zJJ, zDD⟩
 subst c8
 rw [if_pos rfl] at H
 replace H := zIt H
 obtain ⟨c9b0, H⟩ := H
 replace H := zIt H
 obtain ⟨c10b0, H⟩ := H
 replace H := zIt H
 obtain ⟨c11b0, H⟩ := H
 replace H := zIt H
 obtain ⟨c12b0, H⟩ := H
 replace H := zO H
 obtain ⟨t159, A13, H⟩ := H
 obtain rfl := Option.some.inj H
 go_enter Try.func43, Try.ntmps43
 have p157 : 0 ≤ (a1 : Int) := zA
 have q157 : a1 < (l0.length : Int) := zA
 obtain ⟨ad157, A157_0, c157_0, e157, hx157_0, hl157_0, hi157_0⟩ := at_L3 HR0.1 a1 p157 q157
 cases e157
 have HR157_0 := zM hi157_0
 have HC157_0 := zM hl157_0
 clear hi157_0 hl157_0
 replace p157 := eq_true p157
 replace q157 := eq_true q157
 have p158 : 0 ≤ (a2 : Int) := zA
 have q158 : a2 < (l0.length : Int) := zA
 obtain ⟨ad158, A158_0, c158_0, e158, hx158_0, hl158_0, hi158_0⟩ := at_L3 HR0.1 a2 p158 q158
 obtain rfl : ad157 = ad158 := (by injection e158)
 have HR158_0 := zM hi158_0
 have HC158_0 := zM hl158_0
 clear hi158_0 hl158_0
 replace p158 := eq_true p158
 replace q158 := eq_true q158
 go_wp2_with (first | (go_at_call 31; (with_reducible refine (impl_from.calls a1 0 (wrap64 ((l0.length : Int) - 1)) true _ A5.1).mono ?_); rintro e w' ⟨rfl, ⟨nd, rfl⟩⟩; (try first | exact ⟨rfl, _, World.drewN_drewN _ _ _⟩ | exact ⟨rfl, _, Eq.trans (World.drewN_drewN _ _ _) (congrArg (World.drewN _) (Nat.add_assoc _ _ _))⟩)) | (go_at_call 31; (with_reducible refine (impl_from.calls a2 0 (wrap64 ((l0.length : Int) - 1)) true _ A7.1).mono ?_); rintro e w' ⟨rfl, ⟨nd, rfl⟩⟩; (try first | exact ⟨rfl, _, World.drewN_drewN _ _ _⟩ | exact ⟨rfl, _, Eq.trans (World.drewN_drewN _ _ _) (congrArg (World.drewN _) (Nat.add_assoc _ _ _))⟩)) | (go_at_call 65; (with_reducible refine (impl_ClockWithin.calls k _ _ (rd_L3 l0 a1) _ _ (rd_L3 l0 a2) t159 _ ?side1 ?side2 ?side3 ?side4 A13.1).mono ?_); (case side1 => exact zC HR157_0.1); (case side2 => exact HC157_0.1); (case side3 => exact zC HR158_0.1); (case side4 => exact HC158_0.1); rintro e w' ⟨rfl, ⟨nd, rfl⟩⟩; (try first | exact ⟨rfl, _, World.drewN_drewN _ _ _⟩ | exact ⟨rfl, _, Eq.trans (World.drewN_drewN _ _ _) (congrArg (World.drewN _) (Nat.add_assoc _ _ _))⟩)))
 repeat (go_quiet (first | (go_at_call 31; (with_reducible refine (impl_from.calls a1 0 (wrap64 ((l0.length : Int) - 1)) true _ A5.1).mono ?_); rintro e w' ⟨rfl, ⟨nd, rfl⟩⟩; (try first | exact ⟨rfl, _, World.drewN_drewN _ _ _⟩ | exact ⟨rfl, _, Eq.trans (World.drewN_drewN _ _ _) (congrArg (World.drewN _) (Nat.add_assoc _ _ _))⟩)) | (go_at_call 31; (with_reducible refine (impl_from.calls a2 0 (wrap64 ((l0.length : Int) - 1)) true _ A7.1).mono ?_); rintro e w' ⟨rfl, ⟨nd, rfl⟩⟩; (try first | exact ⟨rfl, _, World.drewN_drewN _ _ _⟩ | exact ⟨rfl, _, Eq.trans (World.drewN_drewN _ _ _) (congrArg (World.drewN _) (Nat.add_assoc _ _ _))⟩)) | (go_at_call 65; (with_reducible refine (impl_ClockWithin.calls k _ _ (rd_L3 l0 a1) _ _ (rd_L3 l0 a2) t159 _ ?side1 ?side2 ?side3 ?side4 A13.1).mono ?_); (case side1 => exact zC HR157_0.1); (case side2 => exact HC157_0.1); (case side3 => exact zC HR158_0.1); (case side4 => exact HC158_0.1); rintro e w' ⟨rfl, ⟨nd, rfl⟩⟩; (try first | exact ⟨rfl, _, World.drewN_drewN _ _ _⟩ | exact ⟨rfl, _, Eq.trans (World.drewN_drewN _ _ _) (congrArg (World.drewN _) (Nat.add_assoc _ _ _))⟩))); try go_wp2_with (first | (go_at_call 31; (with_reducible refine (impl_from.calls a1 0 (wrap64 ((l0.length : Int) - 1)) true _ A5.1).mono ?_); rintro e w' ⟨rfl, ⟨nd, rfl⟩⟩; (try first | exact ⟨rfl, _, World.drewN_drewN _ _ _⟩ | exact ⟨rfl, _, Eq.trans (World.drewN_drewN _ _ _) (congrArg (World.drewN _) (Nat.add_assoc _ _ _))⟩)) | (go_at_call 31; (with_reducible refine (impl_from.calls a2 0 (wrap64 ((l0.length : Int) - 1)) true _ A7.1).mono ?_); rintro e w' ⟨rfl, ⟨nd, rfl⟩⟩; (try first | exact ⟨rfl, _, World.drewN_drewN _ _ _⟩ | exact ⟨rfl, _, Eq.trans (World.drewN_drewN _ _ _) (congrArg (World.drewN _) (Nat.add_assoc _ _ _))⟩)) | (go_at_call 65; (with_reducible refine (impl_ClockWithin.calls k _ _ (rd_L3 l0 a1) _ _ (rd_L3 l0 a2) t159 _ ?side1 ?side2 ?side3 ?side4 A13.1).mono ?_); (case side1 => exact zC HR157_0.1); (case side2 => exact HC157_0.1); (case side3 => exact zC HR158_0.1); (case side4 => exact HC158_0.1); rintro e w' ⟨rfl, ⟨nd, rfl⟩⟩; (try first | exact ⟨rfl, _, World.drewN_drewN _ _ _⟩ | exact ⟨rfl, _, Eq.trans (World.drewN_drewN _ _ _) (congrArg (World.drewN _) (Nat.add_assoc _ _ _))⟩))))
 go_ret
 exact ⟨zJJ, zDD⟩

/-! ### impl_isCell: function 46 -/
def impl_isCell.f (a0 : Int) : Option (Bool) := (impl_from.f a0 0 23).bind fun t160 => (some t160)
theorem impl_isCell.calls (a0 : Int) (r : Bool) (w : World) (h : impl_isCell.f a0 = some r) :
  Calls Try.prog 46 #[.int .i64 a0] w fun e w' => e = .returned (.bool r) ∧ Drawn0 w w' := by
 unfold impl_isCell.f at h
 have H := h
 clear h
 replace H := zO H
 obtain ⟨t160, A2, H⟩ := H
 obtain rfl := Option.some.inj H
 go_enter Try.func46, Try.ntmps46
 go_wp2_with (first | ((with_reducible refine zG Try.func31 4 #[.int .i64 a0, .int .i64 0, .int .i64 23] ?_); (with_reducible refine (impl_from.calls a0 0 23 t160 _ A2.1).mono ?_); rintro e w' ⟨rfl, ⟨nd, rfl⟩⟩; refine ⟨_, rfl, ?_⟩))
 go_ret
 exact ⟨zJJ, zDD⟩

/-! ### impl_Races: function 19 -/
mutual
def impl_Races.l0 : Nat → List (S31) → List (S44) → List (List Int) → List (S31) → Int → Int → Option ((List (S44)))
 | 0, _, _, _, _, _, _ => none
 | k + 1, x1, x5, x6, x22, x23, x24 => if x24 < x23 then (if 0 ≤ x24 then (if x24 < (x22.length : Int) then (if x24 ≤ (x1.length : Int) then ((some (x1.take (x24 : Int).toNat : List (S31))).bind fun y169 => (impl_Races.l1 k x1 x5 x6 x24 x22 x23 x24 y169 (y169.length : Int) 0 ((rd_T31 x22 x24).f0) ((rd_T31 x22 x24).f1) ((rd_T31 x22 x24).f2) ((rd_T31 x22 x24).f3) ((rd_T31 x22 x24).f4))) else (none)) else (none)) else (none)) else (some x5)
def impl_Races.l1 : Nat → List (S31) → List (S44) → List (List Int) → Int → List (S31) → Int → Int → List (S31) → Int → Int → Int → Int → Int → Int → Int → Option ((List (S44)))
 | 0, _, _, _, _, _, _, _, _, _, _, _, _, _, _, _ => none
 | k + 1, x1, x5, x6, x7, x22, x23, x24, x31, x32, x33, x169000, x169001, x169002, x169003, x169004 => if x33 < x32 then (if 0 ≤ x33 then (if x33 < (x31.length : Int) then (if ((rd_T31 x31 x33).f0) = x169000 then (impl_Races.l1 k x1 x5 x6 x7 x22 x23 x24 x31 x32 (wrap64 (x33 + 1)) x169000 x169001 x169002 x169003 x169004) else ((impl_isCell.f ((rd_T31 x31 x33).f2)).bind fun t175 => (if t175 = true then (if ((rd_T31 x31 x33).f2) = x169002 then (if ((rd_T31 x31 x33).f4) ≥ 0 then ((impl_isSwap.f ((rd_T31 x31 x33).f0) ((rd_T31 x31 x33).f1) ((rd_T31 x31 x33).f2) ((rd_T31 x31 x33).f3) ((rd_T31 x31 x33).f4)).bind fun t176 => (if t176 = true then ((impl_isSwap.f x169000 x169001 x169002 x169003 x169004).bind fun t177 => (if t177 = true then (impl_Races.l1 k x1 x5 x6 x7 x22 x23 x24 x31 x32 (wrap64 (x33 + 1)) x169000 x169001 x169002 x169003 x169004) else ((impl_knows.f k x6 x33 x7).bind fun t178 => (if t178 = true then (impl_Races.l1 k x1 x5 x6 x7 x22 x23 x24 x31 x32 (wrap64 (x33 + 1)) x169000 x169001 x169002 x169003 x169004) else (if x5.length < 8796093022208 then (impl_Races.l1 k x1 (x5 ++ [(⟨x33, x7⟩ : S44)]) x6 x7 x22 x23 x24 x31 x32 (wrap64 (x33 + 1)) x169000 x169001 x169002 x169003 x169004) else (none)))))) else ((impl_knows.f k x6 x33 x7).bind fun t182 => (if t182 = true then (impl_Races.l1 k x1 x5 x6 x7 x22 x23 x24 x31 x32 (wrap64 (x33 + 1)) x169000 x169001 x169002 x169003 x169004) else (if x5.length < 8796093022208 then (impl_Races.l1 k x1 (x5 ++ [(⟨x33, x7⟩ : S44)]) x6 x7 x22 x23 x24 x31 x32 (wrap64 (x33 + 1)) x169000 x169001 x169002 x169003 x169004) else (none)))))) else (if x169004 ≥ 0 then ((impl_isSwap.f ((rd_T31 x31 x33).f0) ((rd_T31 x31 x33).f1) ((rd_T31 x31 x33).f2) ((rd_T31 x31 x33).f3) ((rd_T31 x31 x33).f4)).bind fun t186 => (if t186 = true then ((impl_isSwap.f x169000 x169001 x169002 x169003 x169004).bind fun t187 => (if t187 = true then (impl_Races.l1 k x1 x5 x6 x7 x22 x23 x24 x31 x32 (wrap64 (x33 + 1)) x169000 x169001 x169002 x169003 x169004) else ((impl_knows.f k x6 x33 x7).bind fun t188 => (if t188 = true then (impl_Races.l1 k x1 x5 x6 x7 x22 x23 x24 x31 x32 (wrap64 (x33 + 1)) x169000 x169001 x169002 x169003 x169004) else (if x5.length < 8796093022208 then (impl_Races.l1 k x1 (x5 ++ [(⟨x33, x7⟩ : S44)]) x6 x7 x22 x23 x24 x31 x32 (wrap64 (x33 + 1)) x169000 x169001 x169002 x169003 x169004) else (none)))))) else ((impl_knows.f k x6 x33 x7).bind fun t192 => (if t192 = true then (impl_Races.l1 k x1 x5 x6 x7 x22 x23 x24 x31 x32 (wrap64 (x33 + 1)) x169000 x169001 x169002 x169003 x169004) else (if x5.length < 8796093022208 then (impl_Races.l1 k x1 (x5 ++ [(⟨x33, x7⟩ : S44)]) x6 x7 x22 x23 x24 x31 x32 (wrap64 (x33 + 1)) x169000 x169001 x169002 x169003 x169004) else (none)))))) else (impl_Races.l1 k x1 x5 x6 x7 x22 x23 x24 x31 x32 (wrap64 (x33 + 1)) x169000 x169001 x169002 x169003 x169004))) else (impl_Races.l1 k x1 x5 x6 x7 x22 x23 x24 x31 x32 (wrap64 (x33 + 1)) x169000 x169001 x169002 x169003 x169004)) else (impl_Races.l1 k x1 x5 x6 x7 x22 x23 x24 x31 x32 (wrap64 (x33 + 1)) x169000 x169001 x169002 x169003 x169004)))) else (none)) else (none)) else (impl_Races.l0 k x1 x5 x6 x22 x23 (wrap64 (x24 + 1)))
end
def impl_Races.f (k : Nat) (a0 : Int) (l1 : List (S31)) : Option ((List (S44))) := (some (([] : List (S44)) : List (S44))).bind fun y161 => ((impl_Clocks.f k a0 l1).bind fun t164 => (if (t164.length : Int) = (l1.length : Int) then (impl_Races.l0 k l1 y161 t164 l1 (l1.length : Int) 0) else (some y161)))
theorem impl_Races.mono_l : ∀ k, (∀ y0 y1 y2 y3 y4 y5, LeO (impl_Races.l0 k y0 y1 y2 y3 y4 y5) (impl_Races.l0 (k + 1) y0 y1 y2 y3 y4 y5)) ∧ (∀ y0 y1 y2 y3 y4 y5 y6 y7 y8 y9 y10 y11 y12 y13 y14, LeO (impl_Races.l1 k y0 y1 y2 y3 y4 y5 y6 y7 y8 y9 y10 y11 y12 y13 y14) (impl_Races.l1 (k + 1) y0 y1 y2 y3 y4 y5 y6 y7 y8 y9 y10 y11 y12 y13 y14))
 | 0 => ⟨fun _ _ _ _ _ _ r h => by simp [impl_Races.l0] at h, fun _ _ _ _ _ _ _ _ _ _ _ _ _ _ _ r h => by simp [impl_Races.l1] at h⟩
 | k + 1 => by
  obtain ⟨ih0, ih1⟩ := impl_Races.mono_l k
  refine ⟨?_, ?_⟩
  ·intros
   unfold impl_Races.l0
   have mo0 := @impl_Clocks.mono
   have mo1 := @impl_knows.mono
   exact zL
  ·intros
   unfold impl_Races.l1
   have mo0 := @impl_Clocks.mono
   have mo1 := @impl_knows.mono
   exact zL
theorem impl_Races.mono : ∀ a0 a1 k, LeO (impl_Races.f k a0 a1) (impl_Races.f (k + 1) a0 a1) := by
 intro a0 a1 k
 obtain ⟨ih0, ih1⟩ := impl_Races.mono_l k
 unfold impl_Races.f
 have mo0 := @impl_Clocks.mono
 have mo1 := @impl_knows.mono
 exact zL
theorem impl_Races.calls (k : Nat) (a0 : Int) (A1 : Option Addr) (c1 : Nat) (l1 : List (S31)) (r : List (S44)) (w : World) (hr1 : Kd.C k31 w A1 l1.length l1) (hc1 : l1.length ≤ c1) (h : impl_Races.f k a0 l1 = some r) :
  Calls Try.prog 19 #[.int .i64 a0, .slice A1 l1.length c1] w fun e w' => ∃ v0_ : Value, e = .returned (v0_) ∧ Kd.R k44 44 w' w.heap.size (fun _ => True) v0_ r ∧ Below w.heap.size w w' := by
 have hu31 := Try.underlying31
 have hu44 := Try.underlying44
 have HR1 := zM hr1
 have HC1 := zM hc1
 clear hr1 hc1
 have HB := zM (Below.refl w.heap.size w)
 unfold impl_Races.f at h
 have H := h
 clear h
 replace H := zY H
 obtain ⟨y161, Ny161, H⟩ := H
 replace H := zO H
 obtain ⟨t164, A3, H⟩ := H
 by_cases c4 : (t164.length : Int) = (l1.length : Int)
 rotate_left
 ·rw [if_neg c4] at H
  have c4b0 : ((t164.length : Int) == (l1.length : Int)) = false := beq_eq_false_iff_ne.mpr c4
  have c4b1 : ((t164.length : Int) != (l1.length : Int)) = true := bne_iff_ne.mpr c4
  have c4b2 : (t164.length == l1.length) = false := by first | simpa using c4 | (simp at c4 ⊢; omega)
  obtain rfl := Option.some.inj H
  go_enter Try.func19, Try.ntmps19
  go_wp2_with (first | ((with_reducible refine gate_dst (N := 12) rfl ?_); refine Kd.R_lit k44 _ 44 ?hg (N := 12) ?hd (xs := ([] : List (S44))) (inner := []) (ok := fun _ => True) (okp := fun _ => True) ?hr ?hp (fun _ hk => hk) trivial (Below.refl _ _) (Nat.le_refl _) (by simp) ?_; (case hd => rfl); (case hg => rfl); (case hr => exact zHH); (case hp => exact (Reps.none _ _)); intro v162 w129 ho130 hb hg_ hnew_; clear hg_ hnew_; (first | rw [← Ny161.1] at ho130 | (simp only [Int.reduceToNat] at ho130; rw [← Ny161.1] at ho130)); have HO163 := zM (Kd.R_lower ho130 (below_size zB1)); replace HB := zM (below_step zB1 hb); clear hb ho130) | ((with_reducible refine zG Try.func12 15 #[.int .i64 a0, .slice A1 l1.length c1] ?_); (with_reducible refine (impl_Clocks.calls k a0 _ _ l1 t164 _ ?side1 ?side2 A3.1).mono ?_); (case side1 => exact zC (Kd.C_below HR1.1 HB.1)); (case side2 => exact HC1.1); rintro e w131 ⟨v165, rfl, ho0, hb⟩; refine ⟨_, rfl, ?_⟩; replace HO163 := zM (Kd.R_below (zR HO163.1) hb); have HO166 := zM (Kd.S_lower ho0 (below_size zB1)); replace HB := zM (below_step zB1 hb); clear hb ho0; obtain ⟨Ao132, co132, eo132⟩ := Kd.S_slice HO166.1; subst eo132))
  go_ret
  exact ⟨_, zE, zR HO163.1, zB1⟩
 rw [if_pos c4] at H
 have c4b0 : ((t164.length : Int) == (l1.length : Int)) = true := beq_iff_eq.mpr c4
 have c4b1 : ((t164.length : Int) != (l1.length : Int)) = false := bne_eq_false_iff_eq.mpr c4
 have c4b2 : (t164.length == l1.length) = true := by first | simpa using c4 | (simp at c4 ⊢; omega)
 clear c4
 have H' := zM H
 clear H
 go_enter Try.func19, Try.ntmps19
 go_wp2_with (first | ((with_reducible refine gate_dst (N := 12) rfl ?_); refine Kd.R_lit k44 _ 44 ?hg (N := 12) ?hd (xs := ([] : List (S44))) (inner := []) (ok := fun _ => True) (okp := fun _ => True) ?hr ?hp (fun _ hk => hk) trivial (Below.refl _ _) (Nat.le_refl _) (by simp) ?_; (case hd => rfl); (case hg => rfl); (case hr => exact zHH); (case hp => exact (Reps.none _ _)); intro v162 w5 ho6 hb hg_ hnew_; clear hg_ hnew_; (first | rw [← Ny161.1] at ho6 | (simp only [Int.reduceToNat] at ho6; rw [← Ny161.1] at ho6)); have HO163 := zM (Kd.R_lower ho6 (below_size zB1)); replace HB := zM (below_step zB1 hb); clear hb ho6) | ((with_reducible refine zG Try.func12 15 #[.int .i64 a0, .slice A1 l1.length c1] ?_); (with_reducible refine (impl_Clocks.calls k a0 _ _ l1 t164 _ ?side1 ?side2 A3.1).mono ?_); (case side1 => exact zC (Kd.C_below HR1.1 HB.1)); (case side2 => exact HC1.1); rintro e w7 ⟨v165, rfl, ho0, hb⟩; refine ⟨_, rfl, ?_⟩; replace HO163 := zM (Kd.R_below (zR HO163.1) hb); have HO166 := zM (Kd.S_lower ho0 (below_size zB1)); replace HB := zM (below_step zB1 hb); clear hb ho0; obtain ⟨Ao8, co8, eo8⟩ := Kd.S_slice HO166.1; subst eo8))
 go_loopg [5, 24] k (fun kq v5 v24 w' => ∃ (x5_1 : List (S44)) (x24_1 : Int), v24 = .int .i64 x24_1 ∧ Aside0 (impl_Races.l0 kq l1 x5_1 t164 l1 (l1.length : Int) x24_1 = some r) ∧ Aside0 (kq ≤ k) ∧ Aside0 (Kd.R k44 44 w' w.heap.size (fun _ => True) v5 x5_1) ∧ Aside0 (Kd.S (Kd.slice 3 (Kd.int .i64)) 29 w' w.heap.size (fun _ => True) (.slice Ao8 t164.length co8) t164) ∧ Aside0 (Below w.heap.size w w'))
 case atStart => exact ⟨(y161), (0), zJJ, H', ⟨Nat.le_refl _⟩, ⟨zR HO163.1⟩, ⟨zS HO166.1⟩, ⟨zB1⟩⟩
 case round =>
  clear H'
  obtain ⟨x5_1, x24_1, rfl, HA, HK1, HO_5, HO_6, HB⟩ := hrel
  cases gk with
  | zero => exact absurd HA.1 (by simp [impl_Races.l0])
  | succ k1 =>
   have H := HA.1
   clear HA
   simp only [impl_Races.l0] at H
   by_cases c9 : x24_1 < (l1.length : Int)
   rotate_left
   ·rw [if_neg c9] at H
    have c9b0 := decide_eq_false c9
    clear c9
    obtain rfl := Option.some.inj H
    go_wp2
    go_ret
    exact ⟨_, zE, zR HO_5.1, zB1⟩
   rw [if_pos c9] at H
   have c9b0 := decide_eq_true c9
   clear c9
   replace H := zIt H
   obtain ⟨c10b0, H⟩ := H
   replace H := zIt H
   obtain ⟨c11b0, H⟩ := H
   have c12b0 := eq_true (zA : 0 ≤ x24_1)
   replace H := zIp H
   obtain ⟨c13, H⟩ := H
   have c13b0 := eq_true c13
   have c13b1 : decide (x24_1 ≤ (l1.length : Int)) = true := decide_eq_true c13
   clear c13
   replace H := zY H
   obtain ⟨y169, Ny169, H⟩ := H
   have H' := zM H
   clear H
   have p167 : 0 ≤ (x24_1 : Int) := zA
   have q167 : x24_1 < (l1.length : Int) := zA
   obtain ⟨ad167, e167, hx167_0, hx167_1, hx167_2, hx167_3, hx167_4⟩ := at_T31 HR1.1 x24_1 p167 q167
   cases e167
   replace hx167_0 := (HB.1.cell (World.block_lt_of_cell? w _ hx167_0)).trans hx167_0
   replace hx167_1 := (HB.1.cell (World.block_lt_of_cell? w _ hx167_1)).trans hx167_1
   replace hx167_2 := (HB.1.cell (World.block_lt_of_cell? w _ hx167_2)).trans hx167_2
   replace hx167_3 := (HB.1.cell (World.block_lt_of_cell? w _ hx167_3)).trans hx167_3
   replace hx167_4 := (HB.1.cell (World.block_lt_of_cell? w _ hx167_4)).trans hx167_4
   replace p167 := eq_true p167
   replace q167 := eq_true q167
   go_wp2_with (first | ((with_reducible refine zBx 8 31 #[.int .i64 0, .int .i64 0, .int .i64 0, .int .i64 0, .int .i64 0] ?_); intro gb168 hg w14 hbox hb; replace HO_5 := zM (Kd.R_below (zR HO_5.1) hb); replace HO_6 := zM (Kd.S_below (zS HO_6.1) hb); have BK168 := zM hbox; have GW168 := zM (zW hg (below_size zB1)); have GE168 := zM (zW hg (below_size zB1)); replace HB := zM (below_step zB1 hb); clear hb hbox hg; have hcz15 := zc_5 (w := w14) BK168.1) | ((with_reducible refine gate_store (t := 31) (p := 8) rfl ?_); refine store_event (t := 31) (p := 8) (v := ?vo_w16) (w1 := (((((w14.setCell ⟨gb168, 0, none⟩ (.int .i64 ((rd_T31 l1 x24_1).f0))).setCell ⟨gb168, 1, none⟩ (.int .i64 ((rd_T31 l1 x24_1).f1))).setCell ⟨gb168, 2, none⟩ (.int .i64 ((rd_T31 l1 x24_1).f2))).setCell ⟨gb168, 3, none⟩ (.int .i64 ((rd_T31 l1 x24_1).f3))).setCell ⟨gb168, 4, none⟩ (.int .i64 ((rd_T31 l1 x24_1).f4)))) ?hg ?ho ?hn ?hr ?_; (case ho => rfl); (case hg => rfl); (case hn => rfl); (case hr => exact zHH); intro w16 hw; have n0_ : Aside0 (Kd.R k44 44 w16 w.heap.size (fun _ => True) u5 x5_1) := ⟨(by rw [hw]; exact (by refine zrR ?_; exact Kd.R_mono (zfR (zfR (zfR (zfR (zfR (Kd.R_types HO_5.1 BK168.1 (by decide))))))) (fun _ hk => trivial)))⟩; have n1_ : Aside0 (Kd.S (Kd.slice 3 (Kd.int .i64)) 29 w16 w.heap.size (fun _ => True) (.slice Ao8 t164.length co8) t164) := ⟨(by rw [hw]; exact (by refine zrS ?_; exact Kd.S_mono (zfS (zfS (zfS (zfS (zfS (Kd.S_types HO_6.1 BK168.1 (by decide))))))) (fun _ hk => trivial)))⟩; have n2_ : Aside0 (w16.heap[gb168]? = some (.cells #[.int .i64 ((rd_T31 l1 x24_1).f0), .int .i64 ((rd_T31 l1 x24_1).f1), .int .i64 ((rd_T31 l1 x24_1).f2), .int .i64 ((rd_T31 l1 x24_1).f3), .int .i64 ((rd_T31 l1 x24_1).f4)] 31 (0, 0))) := ⟨(by rw [hw]; exact (by exact zp5 (zK BK168.1)))⟩; have n3_ : Aside0 (Below w.heap.size w w16) := ⟨(by rw [hw]; exact zB1)⟩; clear hw; clear HO_5; clear HO_6; clear BK168; clear HB; have HO_5 := n0_; have HO_6 := n1_; have BK168 := n2_; have HB := n3_; clear n0_ n1_ n2_ n3_; have q17 : (x24_1 : Int) ≤ ((l1.length : Int) : Int) := zA; obtain ⟨i017, hi017, _, hsz17, _⟩ := info_parts info31; have hroom17 : l1.length ≤ c1 := HC1.1; have hC17 : Kd.C k31 _ (some ad167) l1.length l1 := HR1.1; have hcut17 := cut_to (P := Try.prog) 24 31 .i64 Try.underlying24 hi017 (some ad167) l1.length c1 x24_1 zA q17 hroom17; have hr17 := Kd.C_take (m := (x24_1 : Int).toNat) hC17 (by omega); have hy17 : y169.length = (x24_1 : Int).toNat := (by rw [Ny169.1, List.length_take]; omega); rw [← Ny169.1] at hr17; rw [← hy17] at hcut17; have HR172 := zM hr17; have HC172 := zM (show y169.length ≤ c1 from by omega); clear hr17 hC17 hroom17 hi017 hsz17; have KY17 := zM hy17; clear hy17; replace q17 := eq_true q17))
   go_loopg [5, 33] k1 (fun kq v5 v33 w' => ∃ (x5_2 : List (S44)) (x33_2 : Int), v33 = .int .i64 x33_2 ∧ Aside0 (impl_Races.l1 kq l1 x5_2 t164 x24_1 l1 (l1.length : Int) x24_1 y169 (y169.length : Int) x33_2 ((rd_T31 l1 x24_1).f0) ((rd_T31 l1 x24_1).f1) ((rd_T31 l1 x24_1).f2) ((rd_T31 l1 x24_1).f3) ((rd_T31 l1 x24_1).f4) = some r) ∧ Aside0 (kq ≤ k1) ∧ Aside0 (Kd.R k44 44 w' w.heap.size (fun _ => True) v5 x5_2) ∧ Aside0 (Kd.S (Kd.slice 3 (Kd.int .i64)) 29 w' w.heap.size (fun _ => True) (.slice Ao8 t164.length co8) t164) ∧ Aside0 (w'.heap[gb168]? = some (.cells #[.int .i64 ((rd_T31 l1 x24_1).f0), .int .i64 ((rd_T31 l1 x24_1).f1), .int .i64 ((rd_T31 l1 x24_1).f2), .int .i64 ((rd_T31 l1 x24_1).f3), .int .i64 ((rd_T31 l1 x24_1).f4)] 31 (0, 0))) ∧ Aside0 (Below w.heap.size w w'))
   case atStart => exact ⟨(x5_1), (0), zJJ, H', ⟨Nat.le_refl _⟩, ⟨zR HO_5.1⟩, ⟨zS HO_6.1⟩, ⟨zK BK168.1⟩, ⟨zB1⟩⟩
   case round =>
    clear H'
    obtain ⟨x5_2, x33_2, rfl, HA, HK2, HO_5, HO_6, BK168, HB⟩ := hrel
    cases gk with
    | zero => exact absurd HA.1 (by simp [impl_Races.l1])
    | succ k2 =>
     have H := HA.1
     clear HA
     simp only [impl_Races.l1] at H
     by_cases c18 : x33_2 < (y169.length : Int)
     rotate_left
     ·rw [if_neg c18] at H
      have c18b0 := decide_eq_false c18
      clear c18
      have H' := zM H
      clear H
      go_wp2
      go_roundg k2
      case measure => have := HK1.1; have := HK2.1; omega
      case rel => exact ⟨(x5_2), (wrap64 (x24_1 + 1)), zJJ, H', ⟨by have := HK1.1; have := HK2.1; omega⟩, ⟨zR HO_5.1⟩, ⟨zS HO_6.1⟩, ⟨zB1⟩⟩
     rw [if_pos c18] at H
     have c18b0 := decide_eq_true c18
     clear c18
     replace H := zIt H
     obtain ⟨c19b0, H⟩ := H
     replace H := zIt H
     obtain ⟨c20b0, H⟩ := H
     by_cases c21 : ((rd_T31 y169 x33_2).f0) = ((rd_T31 l1 x24_1).f0)
     ·rw [if_pos c21] at H
      have c21b0 : (((rd_T31 y169 x33_2).f0) == ((rd_T31 l1 x24_1).f0)) = true := beq_iff_eq.mpr c21
      have c21b1 : (((rd_T31 y169 x33_2).f0) != ((rd_T31 l1 x24_1).f0)) = false := bne_eq_false_iff_eq.mpr c21
      clear c21
      have H' := zM H
      clear H
      have p173 : 0 ≤ (x33_2 : Int) := zA
      have q173 : x33_2 < (y169.length : Int) := zA
      obtain ⟨ad173, e173, hx173_0, hx173_1, hx173_2, hx173_3, hx173_4⟩ := at_T31 HR172.1 x33_2 p173 q173
      obtain rfl : ad167 = ad173 := (by injection e173)
      replace hx173_0 := (HB.1.cell (World.block_lt_of_cell? w _ hx173_0)).trans hx173_0
      replace hx173_1 := (HB.1.cell (World.block_lt_of_cell? w _ hx173_1)).trans hx173_1
      replace hx173_2 := (HB.1.cell (World.block_lt_of_cell? w _ hx173_2)).trans hx173_2
      replace hx173_3 := (HB.1.cell (World.block_lt_of_cell? w _ hx173_3)).trans hx173_3
      replace hx173_4 := (HB.1.cell (World.block_lt_of_cell? w _ hx173_4)).trans hx173_4
      replace p173 := eq_true p173
      replace q173 := eq_true q173
      go_wp2_with (first | ((with_reducible refine zBx 10 31 #[.int .i64 0, .int .i64 0, .int .i64 0, .int .i64 0, .int .i64 0] ?_); intro gb174 hg w22 hbox hb; replace HO_5 := zM (Kd.R_below (zR HO_5.1) hb); replace HO_6 := zM (Kd.S_below (zS HO_6.1) hb); have BK174 := zM hbox; have GW174 := zM (zW hg (below_size zB1)); have GE174 := zM (zW hg (below_size zB1)); replace HB := zM (below_step zB1 hb); have NB168_174 := zM ((zn BK168.1 hg : gb168 ≠ gb174)); have NB174_168 := zM ((zm BK168.1 hg : gb174 ≠ gb168)); replace BK168 := zM (zb BK168.1 hb); clear hb hbox hg; have hnb23 := NB174_168.1; have hnc23 := NB168_174.1; have hcz24 := zc_5 (w := w22) BK174.1; have hcz25 := zc_5 (w := w22) BK168.1))
      go_roundg k2
      case measure => have := HK1.1; have := HK2.1; omega
      case rel => exact ⟨(x5_2), (wrap64 (x33_2 + 1)), zJJ, H', ⟨by have := HK1.1; have := HK2.1; omega⟩, ⟨by refine zrR ?_; exact Kd.R_mono (zfR (zfR (zfR (zfR (zfR (Kd.R_types HO_5.1 BK174.1 (by decide))))))) (fun _ hk => trivial)⟩, ⟨by refine zrS ?_; exact Kd.S_mono (zfS (zfS (zfS (zfS (zfS (Kd.S_types HO_6.1 BK174.1 (by decide))))))) (fun _ hk => trivial)⟩, ⟨zPq⟩, ⟨zB1⟩⟩
     rw [if_neg c21] at H
     have c21b0 : (((rd_T31 y169 x33_2).f0) == ((rd_T31 l1 x24_1).f0)) = false := beq_eq_false_iff_ne.mpr c21
     have c21b1 : (((rd_T31 y169 x33_2).f0) != ((rd_T31 l1 x24_1).f0)) = true := bne_iff_ne.mpr c21
     replace H := zO H
     obtain ⟨t175, A26, H⟩ := H
     by_cases c27 : t175 = true
     rotate_left
     ·replace c27 := Bool.eq_false_iff.mpr c27
      subst c27
      rw [if_neg zF] at H
      have H' := zM H
      clear H
      have p173 : 0 ≤ (x33_2 : Int) := zA
      have q173 : x33_2 < (y169.length : Int) := zA
      obtain ⟨ad173, e173, hx173_0, hx173_1, hx173_2, hx173_3, hx173_4⟩ := at_T31 HR172.1 x33_2 p173 q173
      obtain rfl : ad167 = ad173 := (by injection e173)
      replace hx173_0 := (HB.1.cell (World.block_lt_of_cell? w _ hx173_0)).trans hx173_0
      replace hx173_1 := (HB.1.cell (World.block_lt_of_cell? w _ hx173_1)).trans hx173_1
      replace hx173_2 := (HB.1.cell (World.block_lt_of_cell? w _ hx173_2)).trans hx173_2
      replace hx173_3 := (HB.1.cell (World.block_lt_of_cell? w _ hx173_3)).trans hx173_3
      replace hx173_4 := (HB.1.cell (World.block_lt_of_cell? w _ hx173_4)).trans hx173_4
      replace p173 := eq_true p173
      replace q173 := eq_true q173
      go_wp2_with (first | ((with_reducible refine zBx 10 31 #[.int .i64 0, .int .i64 0, .int .i64 0, .int .i64 0, .int .i64 0] ?_); intro gb174 hg w125 hbox hb; replace HO_5 := zM (Kd.R_below (zR HO_5.1) hb); replace HO_6 := zM (Kd.S_below (zS HO_6.1) hb); have BK174 := zM hbox; have GW174 := zM (zW hg (below_size zB1)); have GE174 := zM (zW hg (below_size zB1)); replace HB := zM (below_step zB1 hb); have NB168_174 := zM ((zn BK168.1 hg : gb168 ≠ gb174)); have NB174_168 := zM ((zm BK168.1 hg : gb174 ≠ gb168)); replace BK168 := zM (zb BK168.1 hb); clear hb hbox hg; have hnb126 := NB174_168.1; have hnc126 := NB168_174.1; have hcz127 := zc_5 (w := w125) BK174.1; have hcz128 := zc_5 (w := w125) BK168.1) | (go_at_call 46; (with_reducible refine (impl_isCell.calls ((rd_T31 y169 x33_2).f2) false _ A26.1).mono ?_); rintro e w' ⟨rfl, ⟨nd, rfl⟩⟩))
      go_roundg k2
      case measure => have := HK1.1; have := HK2.1; omega
      case rel => exact ⟨(x5_2), (wrap64 (x33_2 + 1)), zJJ, H', ⟨by have := HK1.1; have := HK2.1; omega⟩, ⟨by refine zrR ?_; exact Kd.R_mono (zfR (zfR (zfR (zfR (zfR (Kd.R_types HO_5.1 BK174.1 (by decide))))))) (fun _ hk => trivial)⟩, ⟨by refine zrS ?_; exact Kd.S_mono (zfS (zfS (zfS (zfS (zfS (Kd.S_types HO_6.1 BK174.1 (by decide))))))) (fun _ hk => trivial)⟩, ⟨zPq⟩, ⟨zB1⟩⟩
     subst c27
     rw [if_pos rfl] at H
     by_cases c28 : ((rd_T31 y169 x33_2).f2) = ((rd_T31 l1 x24_1).f2)
     rotate_left
     ·rw [if_neg c28] at H
      have c28b0 : (((rd_T31 y169 x33_2).f2) == ((rd_T31 l1 x24_1).f2)) = false := beq_eq_false_iff_ne.mpr c28
      have c28b1 : (((rd_T31 y169 x33_2).f2) != ((rd_T31 l1 x24_1).f2)) = true := bne_iff_ne.mpr c28
      have H' := zM H
      clear H
      have p173 : 0 ≤ (x33_2 : Int) := zA
      have q173 : x33_2 < (y169.length : Int) := zA
      obtain ⟨ad173, e173, hx173_0, hx173_1, hx173_2, hx173_3, hx173_4⟩ := at_T31 HR172.1 x33_2 p173 q173
      obtain rfl : ad167 = ad173 := (by injection e173)
      replace hx173_0 := (HB.1.cell (World.block_lt_of_cell? w _ hx173_0)).trans hx173_0
      replace hx173_1 := (HB.1.cell (World.block_lt_of_cell? w _ hx173_1)).trans hx173_1
      replace hx173_2 := (HB.1.cell (World.block_lt_of_cell? w _ hx173_2)).trans hx173_2
      replace hx173_3 := (HB.1.cell (World.block_lt_of_cell? w _ hx173_3)).trans hx173_3
      replace hx173_4 := (HB.1.cell (World.block_lt_of_cell? w _ hx173_4)).trans hx173_4
      replace p173 := eq_true p173
      replace q173 := eq_true q173
      go_wp2_with (first | ((with_reducible refine zBx 10 31 #[.int .i64 0, .int .i64 0, .int .i64 0, .int .i64 0, .int .i64 0] ?_); intro gb174 hg w121 hbox hb; replace HO_5 := zM (Kd.R_below (zR HO_5.1) hb); replace HO_6 := zM (Kd.S_below (zS HO_6.1) hb); have BK174 := zM hbox; have GW174 := zM (zW hg (below_size zB1)); have GE174 := zM (zW hg (below_size zB1)); replace HB := zM (below_step zB1 hb); have NB168_174 := zM ((zn BK168.1 hg : gb168 ≠ gb174)); have NB174_168 := zM ((zm BK168.1 hg : gb174 ≠ gb168)); replace BK168 := zM (zb BK168.1 hb); clear hb hbox hg; have hnb122 := NB174_168.1; have hnc122 := NB168_174.1; have hcz123 := zc_5 (w := w121) BK174.1; have hcz124 := zc_5 (w := w121) BK168.1) | (go_at_call 46; (with_reducible refine (impl_isCell.calls ((rd_T31 y169 x33_2).f2) true _ A26.1).mono ?_); rintro e w' ⟨rfl, ⟨nd, rfl⟩⟩))
      go_roundg k2
      case measure => have := HK1.1; have := HK2.1; omega
      case rel => exact ⟨(x5_2), (wrap64 (x33_2 + 1)), zJJ, H', ⟨by have := HK1.1; have := HK2.1; omega⟩, ⟨by refine zrR ?_; exact Kd.R_mono (zfR (zfR (zfR (zfR (zfR (Kd.R_types HO_5.1 BK174.1 (by decide))))))) (fun _ hk => trivial)⟩, ⟨by refine zrS ?_; exact Kd.S_mono (zfS (zfS (zfS (zfS (zfS (Kd.S_types HO_6.1 BK174.1 (by decide))))))) (fun _ hk => trivial)⟩, ⟨zPq⟩, ⟨zB1⟩⟩
     rw [if_pos c28] at H
     have c28b0 : (((rd_T31 y169 x33_2).f2) == ((rd_T31 l1 x24_1).f2)) = true := beq_iff_eq.mpr c28
     have c28b1 : (((rd_T31 y169 x33_2).f2) != ((rd_T31 l1 x24_1).f2)) = false := bne_eq_false_iff_eq.mpr c28
     clear c28
     by_cases c29 : ((rd_T31 y169 x33_2).f4) ≥ 0
     ·rw [if_pos c29] at H
      have c29b0 := decide_eq_true c29
      clear c29
      replace H := zO H
      obtain ⟨t176, A30, H⟩ := H
      by_cases c31 : t176 = true
      rotate_left
      ·replace c31 := Bool.eq_false_iff.mpr c31
       subst c31
       rw [if_neg zF] at H
       replace H := zO H
       obtain ⟨t182, A59, H⟩ := H
       by_cases c60 : t182 = true
       ·subst c60
        rw [if_pos rfl] at H
        have H' := zM H
        clear H
        have p173 : 0 ≤ (x33_2 : Int) := zA
        have q173 : x33_2 < (y169.length : Int) := zA
        obtain ⟨ad173, e173, hx173_0, hx173_1, hx173_2, hx173_3, hx173_4⟩ := at_T31 HR172.1 x33_2 p173 q173
        obtain rfl : ad167 = ad173 := (by injection e173)
        replace hx173_0 := (HB.1.cell (World.block_lt_of_cell? w _ hx173_0)).trans hx173_0
        replace hx173_1 := (HB.1.cell (World.block_lt_of_cell? w _ hx173_1)).trans hx173_1
        replace hx173_2 := (HB.1.cell (World.block_lt_of_cell? w _ hx173_2)).trans hx173_2
        replace hx173_3 := (HB.1.cell (World.block_lt_of_cell? w _ hx173_3)).trans hx173_3
        replace hx173_4 := (HB.1.cell (World.block_lt_of_cell? w _ hx173_4)).trans hx173_4
        replace p173 := eq_true p173
        replace q173 := eq_true q173
        go_wp2_with (first | ((with_reducible refine zBx 10 31 #[.int .i64 0, .int .i64 0, .int .i64 0, .int .i64 0, .int .i64 0] ?_); intro gb174 hg w61 hbox hb; replace HO_5 := zM (Kd.R_below (zR HO_5.1) hb); replace HO_6 := zM (Kd.S_below (zS HO_6.1) hb); have BK174 := zM hbox; have GW174 := zM (zW hg (below_size zB1)); have GE174 := zM (zW hg (below_size zB1)); replace HB := zM (below_step zB1 hb); have NB168_174 := zM ((zn BK168.1 hg : gb168 ≠ gb174)); have NB174_168 := zM ((zm BK168.1 hg : gb174 ≠ gb168)); replace BK168 := zM (zb BK168.1 hb); clear hb hbox hg; have hnb62 := NB174_168.1; have hnc62 := NB168_174.1; have hcz63 := zc_5 (w := w61) BK174.1; have hcz64 := zc_5 (w := w61) BK168.1) | (go_at_call 46; (with_reducible refine (impl_isCell.calls ((rd_T31 y169 x33_2).f2) true _ A26.1).mono ?_); rintro e w' ⟨rfl, ⟨nd, rfl⟩⟩) | (go_at_call 36; (with_reducible refine (impl_isSwap.calls ((rd_T31 y169 x33_2).f0) ((rd_T31 y169 x33_2).f1) ((rd_T31 y169 x33_2).f2) ((rd_T31 y169 x33_2).f3) ((rd_T31 y169 x33_2).f4) false _ A30.1).mono ?_); rintro e w65 ⟨rfl, hb⟩; replace HO_5 := zM (Kd.R_below (by refine zrR ?_; exact (Kd.R_mono (zfR (zfR (zfR (zfR (zfR (Kd.R_types HO_5.1 BK174.1 (by decide))))))) (fun _ h_ => h_.1))) hb); replace HO_6 := zM (Kd.S_below (by refine zrS ?_; exact (Kd.S_mono (zfS (zfS (zfS (zfS (zfS (Kd.S_types HO_6.1 BK174.1 (by decide))))))) (fun _ h_ => h_.1))) hb); replace BK168 := zM (zf BK168.1 hb); replace BK174 := zM (blk_below (g := gb174) (o := .cells #[.int .i64 ((rd_T31 y169 x33_2).f0), .int .i64 ((rd_T31 y169 x33_2).f1), .int .i64 ((rd_T31 y169 x33_2).f2), .int .i64 ((rd_T31 y169 x33_2).f3), .int .i64 ((rd_T31 y169 x33_2).f4)] 31 (0, 0)) (by exact zp5 (zK BK174.1)) hb); replace HB := zM (below_step zB1 hb); clear hb) | (go_at_call 43; (with_reducible refine (impl_knows.calls k2 _ _ t164 x33_2 x24_1 true _ ?side1 ?side2 A59.1).mono ?_); (case side1 => exact zC (Kd.S_reads' HO_6.1).2.2); (case side2 => exact (Kd.S_reads' HO_6.1).2.1); rintro e w' ⟨rfl, ⟨nd, rfl⟩⟩))
        go_roundg k2
        case measure => have := HK1.1; have := HK2.1; omega
        case rel => exact ⟨(x5_2), (wrap64 (x33_2 + 1)), zJJ, H', ⟨by have := HK1.1; have := HK2.1; omega⟩, ⟨zR HO_5.1⟩, ⟨zS HO_6.1⟩, ⟨zK BK168.1⟩, ⟨zB1⟩⟩
       replace c60 := Bool.eq_false_iff.mpr c60
       subst c60
       rw [if_neg zF] at H
       replace H := zIn H
       obtain ⟨LMc66, H⟩ := H
       generalize hy183 : ((x5_2 ++ [(⟨x33_2, x24_1⟩ : S44)]) : List (S44)) = y183 at H
       have Ny183 := zM hy183.symm
       clear hy183
       have H' := zM H
       clear H
       have p173 : 0 ≤ (x33_2 : Int) := zA
       have q173 : x33_2 < (y169.length : Int) := zA
       obtain ⟨ad173, e173, hx173_0, hx173_1, hx173_2, hx173_3, hx173_4⟩ := at_T31 HR172.1 x33_2 p173 q173
       obtain rfl : ad167 = ad173 := (by injection e173)
       replace hx173_0 := (HB.1.cell (World.block_lt_of_cell? w _ hx173_0)).trans hx173_0
       replace hx173_1 := (HB.1.cell (World.block_lt_of_cell? w _ hx173_1)).trans hx173_1
       replace hx173_2 := (HB.1.cell (World.block_lt_of_cell? w _ hx173_2)).trans hx173_2
       replace hx173_3 := (HB.1.cell (World.block_lt_of_cell? w _ hx173_3)).trans hx173_3
       replace hx173_4 := (HB.1.cell (World.block_lt_of_cell? w _ hx173_4)).trans hx173_4
       replace p173 := eq_true p173
       replace q173 := eq_true q173
       go_wp2_with (first | ((with_reducible refine zBx 10 31 #[.int .i64 0, .int .i64 0, .int .i64 0, .int .i64 0, .int .i64 0] ?_); intro gb174 hg w67 hbox hb; replace HO_5 := zM (Kd.R_below (zR HO_5.1) hb); replace HO_6 := zM (Kd.S_below (zS HO_6.1) hb); have BK174 := zM hbox; have GW174 := zM (zW hg (below_size zB1)); have GE174 := zM (zW hg (below_size zB1)); replace HB := zM (below_step zB1 hb); have NB168_174 := zM ((zn BK168.1 hg : gb168 ≠ gb174)); have NB174_168 := zM ((zm BK168.1 hg : gb174 ≠ gb168)); replace BK168 := zM (zb BK168.1 hb); clear hb hbox hg; have hnb68 := NB174_168.1; have hnc68 := NB168_174.1; have hcz69 := zc_5 (w := w67) BK174.1; have hcz70 := zc_5 (w := w67) BK168.1) | (go_at_call 46; (with_reducible refine (impl_isCell.calls ((rd_T31 y169 x33_2).f2) true _ A26.1).mono ?_); rintro e w' ⟨rfl, ⟨nd, rfl⟩⟩) | (go_at_call 36; (with_reducible refine (impl_isSwap.calls ((rd_T31 y169 x33_2).f0) ((rd_T31 y169 x33_2).f1) ((rd_T31 y169 x33_2).f2) ((rd_T31 y169 x33_2).f3) ((rd_T31 y169 x33_2).f4) false _ A30.1).mono ?_); rintro e w71 ⟨rfl, hb⟩; replace HO_5 := zM (Kd.R_below (by refine zrR ?_; exact (Kd.R_mono (zfR (zfR (zfR (zfR (zfR (Kd.R_types HO_5.1 BK174.1 (by decide))))))) (fun _ h_ => h_.1))) hb); replace HO_6 := zM (Kd.S_below (by refine zrS ?_; exact (Kd.S_mono (zfS (zfS (zfS (zfS (zfS (Kd.S_types HO_6.1 BK174.1 (by decide))))))) (fun _ h_ => h_.1))) hb); replace BK168 := zM (zf BK168.1 hb); replace BK174 := zM (blk_below (g := gb174) (o := .cells #[.int .i64 ((rd_T31 y169 x33_2).f0), .int .i64 ((rd_T31 y169 x33_2).f1), .int .i64 ((rd_T31 y169 x33_2).f2), .int .i64 ((rd_T31 y169 x33_2).f3), .int .i64 ((rd_T31 y169 x33_2).f4)] 31 (0, 0)) (by exact zp5 (zK BK174.1)) hb); replace HB := zM (below_step zB1 hb); clear hb) | (go_at_call 43; (with_reducible refine (impl_knows.calls k2 _ _ t164 x33_2 x24_1 false _ ?side1 ?side2 A59.1).mono ?_); (case side1 => exact zC (Kd.S_reads' HO_6.1).2.2); (case side2 => exact (Kd.S_reads' HO_6.1).2.1); rintro e w' ⟨rfl, ⟨nd, rfl⟩⟩) | ((with_reducible refine gate_builtin (b := .append) (xs := #[.tmp 82, .tmp 86]) rfl ?_); at_builtin; refine Kd.R_append k44 (w0 := w) w.heap.size rfl (.tmp 82) (.tmp 86) 41 44 (.agg #[(.int .i64 0), (.int .i64 0)]) 16 rfl Try.underlying41 info44 rfl (by decide) (by omega) u5 x5_2 (⟨x33_2, x24_1⟩ : S44) [.int .i64 x33_2, .int .i64 x24_1] (fun _ => True) (fun _ => False) rfl rfl ?aP (fun _ hk => hk.elim) ?aF ?aO ?aB ?aS ?aL ?_; (case aP => exact k44_mkM _ _ _ (⟨x33_2, x24_1⟩ : S44)); (case aB => exact zB1); (case aF => exact (fun _ _ => trivial)); (case aO => exact (zR HO_5.1)); (case aS => exact (below_size zB1)); (case aL => have := LMc66.out; omega); intro v184 w72 ho hb hg hat; rw [← Ny183.1] at ho; replace HO_6 := zM (Kd.S_over' (zS HO_6.1) (Kd.R_typed (zR HO_5.1)) (by decide) hg); replace BK168 := zM (zg BK168.1 hg (Kd.R_ne HO_5.1 BK168.1 (by decide))); replace BK174 := zM (zg BK174.1 hg (Kd.R_ne HO_5.1 BK174.1 (by decide))); replace HB := zM hb; have HO185 := zM ho; clear HO_5; clear ho hb hg hat))
       go_roundg k2
       case measure => have := HK1.1; have := HK2.1; omega
       case rel => exact ⟨(y183), (wrap64 (x33_2 + 1)), zJJ, H', ⟨by have := HK1.1; have := HK2.1; omega⟩, ⟨zR HO185.1⟩, ⟨zS HO_6.1⟩, ⟨zK BK168.1⟩, ⟨zB1⟩⟩
      subst c31
      rw [if_pos rfl] at H
      replace H := zO H
      obtain ⟨t177, A32, H⟩ := H
      by_cases c33 : t177 = true
      ·subst c33
       rw [if_pos rfl] at H
       have H' := zM H
       clear H
       have p173 : 0 ≤ (x33_2 : Int) := zA
       have q173 : x33_2 < (y169.length : Int) := zA
       obtain ⟨ad173, e173, hx173_0, hx173_1, hx173_2, hx173_3, hx173_4⟩ := at_T31 HR172.1 x33_2 p173 q173
       obtain rfl : ad167 = ad173 := (by injection e173)
       replace hx173_0 := (HB.1.cell (World.block_lt_of_cell? w _ hx173_0)).trans hx173_0
       replace hx173_1 := (HB.1.cell (World.block_lt_of_cell? w _ hx173_1)).trans hx173_1
       replace hx173_2 := (HB.1.cell (World.block_lt_of_cell? w _ hx173_2)).trans hx173_2
       replace hx173_3 := (HB.1.cell (World.block_lt_of_cell? w _ hx173_3)).trans hx173_3
       replace hx173_4 := (HB.1.cell (World.block_lt_of_cell? w _ hx173_4)).trans hx173_4
       replace p173 := eq_true p173
       replace q173 := eq_true q173
       go_wp2_with (first | ((with_reducible refine zBx 10 31 #[.int .i64 0, .int .i64 0, .int .i64 0, .int .i64 0, .int .i64 0] ?_); intro gb174 hg w34 hbox hb; replace HO_5 := zM (Kd.R_below (zR HO_5.1) hb); replace HO_6 := zM (Kd.S_below (zS HO_6.1) hb); have BK174 := zM hbox; have GW174 := zM (zW hg (below_size zB1)); have GE174 := zM (zW hg (below_size zB1)); replace HB := zM (below_step zB1 hb); have NB168_174 := zM ((zn BK168.1 hg : gb168 ≠ gb174)); have NB174_168 := zM ((zm BK168.1 hg : gb174 ≠ gb168)); replace BK168 := zM (zb BK168.1 hb); clear hb hbox hg; have hnb35 := NB174_168.1; have hnc35 := NB168_174.1; have hcz36 := zc_5 (w := w34) BK174.1; have hcz37 := zc_5 (w := w34) BK168.1) | (go_at_call 46; (with_reducible refine (impl_isCell.calls ((rd_T31 y169 x33_2).f2) true _ A26.1).mono ?_); rintro e w' ⟨rfl, ⟨nd, rfl⟩⟩) | (go_at_call 36; (with_reducible refine (impl_isSwap.calls ((rd_T31 y169 x33_2).f0) ((rd_T31 y169 x33_2).f1) ((rd_T31 y169 x33_2).f2) ((rd_T31 y169 x33_2).f3) ((rd_T31 y169 x33_2).f4) true _ A30.1).mono ?_); rintro e w38 ⟨rfl, hb⟩; replace HO_5 := zM (Kd.R_below (by refine zrR ?_; exact (Kd.R_mono (zfR (zfR (zfR (zfR (zfR (Kd.R_types HO_5.1 BK174.1 (by decide))))))) (fun _ h_ => h_.1))) hb); replace HO_6 := zM (Kd.S_below (by refine zrS ?_; exact (Kd.S_mono (zfS (zfS (zfS (zfS (zfS (Kd.S_types HO_6.1 BK174.1 (by decide))))))) (fun _ h_ => h_.1))) hb); replace BK168 := zM (zf BK168.1 hb); replace BK174 := zM (blk_below (g := gb174) (o := .cells #[.int .i64 ((rd_T31 y169 x33_2).f0), .int .i64 ((rd_T31 y169 x33_2).f1), .int .i64 ((rd_T31 y169 x33_2).f2), .int .i64 ((rd_T31 y169 x33_2).f3), .int .i64 ((rd_T31 y169 x33_2).f4)] 31 (0, 0)) (by exact zp5 (zK BK174.1)) hb); replace HB := zM (below_step zB1 hb); clear hb; have hcz39 := zc_5 (w := w38) BK168.1) | (go_at_call 36; (with_reducible refine (impl_isSwap.calls ((rd_T31 l1 x24_1).f0) ((rd_T31 l1 x24_1).f1) ((rd_T31 l1 x24_1).f2) ((rd_T31 l1 x24_1).f3) ((rd_T31 l1 x24_1).f4) true _ A32.1).mono ?_); rintro e w40 ⟨rfl, hb⟩; replace HO_5 := zM (Kd.R_below (zR HO_5.1) hb); replace HO_6 := zM (Kd.S_below (zS HO_6.1) hb); replace BK168 := zM (zb BK168.1 hb); replace BK174 := zM (zb BK174.1 hb); replace HB := zM (below_step zB1 hb); clear hb))
       go_roundg k2
       case measure => have := HK1.1; have := HK2.1; omega
       case rel => exact ⟨(x5_2), (wrap64 (x33_2 + 1)), zJJ, H', ⟨by have := HK1.1; have := HK2.1; omega⟩, ⟨zR HO_5.1⟩, ⟨zS HO_6.1⟩, ⟨zK BK168.1⟩, ⟨zB1⟩⟩
      replace c33 := Bool.eq_false_iff.mpr c33
      subst c33
      rw [if_neg zF] at H
      replace H := zO H
      obtain ⟨t178, A41, H⟩ := H
      by_cases c42 : t178 = true
      ·subst c42
       rw [if_pos rfl] at H
       have H' := zM H
       clear H
       have p173 : 0 ≤ (x33_2 : Int) := zA
       have q173 : x33_2 < (y169.length : Int) := zA
       obtain ⟨ad173, e173, hx173_0, hx173_1, hx173_2, hx173_3, hx173_4⟩ := at_T31 HR172.1 x33_2 p173 q173
       obtain rfl : ad167 = ad173 := (by injection e173)
       replace hx173_0 := (HB.1.cell (World.block_lt_of_cell? w _ hx173_0)).trans hx173_0
       replace hx173_1 := (HB.1.cell (World.block_lt_of_cell? w _ hx173_1)).trans hx173_1
       replace hx173_2 := (HB.1.cell (World.block_lt_of_cell? w _ hx173_2)).trans hx173_2
       replace hx173_3 := (HB.1.cell (World.block_lt_of_cell? w _ hx173_3)).trans hx173_3
       replace hx173_4 := (HB.1.cell (World.block_lt_of_cell? w _ hx173_4)).trans hx173_4
       replace p173 := eq_true p173
       replace q173 := eq_true q173
       go_wp2_with (first | ((with_reducible refine zBx 10 31 #[.int .i64 0, .int .i64 0, .int .i64 0, .int .i64 0, .int .i64 0] ?_); intro gb174 hg w43 hbox hb; replace HO_5 := zM (Kd.R_below (zR HO_5.1) hb); replace HO_6 := zM (Kd.S_below (zS HO_6.1) hb); have BK174 := zM hbox; have GW174 := zM (zW hg (below_size zB1)); have GE174 := zM (zW hg (below_size zB1)); replace HB := zM (below_step zB1 hb); have NB168_174 := zM ((zn BK168.1 hg : gb168 ≠ gb174)); have NB174_168 := zM ((zm BK168.1 hg : gb174 ≠ gb168)); replace BK168 := zM (zb BK168.1 hb); clear hb hbox hg; have hnb44 := NB174_168.1; have hnc44 := NB168_174.1; have hcz45 := zc_5 (w := w43) BK174.1; have hcz46 := zc_5 (w := w43) BK168.1) | (go_at_call 46; (with_reducible refine (impl_isCell.calls ((rd_T31 y169 x33_2).f2) true _ A26.1).mono ?_); rintro e w' ⟨rfl, ⟨nd, rfl⟩⟩) | (go_at_call 36; (with_reducible refine (impl_isSwap.calls ((rd_T31 y169 x33_2).f0) ((rd_T31 y169 x33_2).f1) ((rd_T31 y169 x33_2).f2) ((rd_T31 y169 x33_2).f3) ((rd_T31 y169 x33_2).f4) true _ A30.1).mono ?_); rintro e w47 ⟨rfl, hb⟩; replace HO_5 := zM (Kd.R_below (by refine zrR ?_; exact (Kd.R_mono (zfR (zfR (zfR (zfR (zfR (Kd.R_types HO_5.1 BK174.1 (by decide))))))) (fun _ h_ => h_.1))) hb); replace HO_6 := zM (Kd.S_below (by refine zrS ?_; exact (Kd.S_mono (zfS (zfS (zfS (zfS (zfS (Kd.S_types HO_6.1 BK174.1 (by decide))))))) (fun _ h_ => h_.1))) hb); replace BK168 := zM (zf BK168.1 hb); replace BK174 := zM (blk_below (g := gb174) (o := .cells #[.int .i64 ((rd_T31 y169 x33_2).f0), .int .i64 ((rd_T31 y169 x33_2).f1), .int .i64 ((rd_T31 y169 x33_2).f2), .int .i64 ((rd_T31 y169 x33_2).f3), .int .i64 ((rd_T31 y169 x33_2).f4)] 31 (0, 0)) (by exact zp5 (zK BK174.1)) hb); replace HB := zM (below_step zB1 hb); clear hb; have hcz48 := zc_5 (w := w47) BK168.1) | (go_at_call 36; (with_reducible refine (impl_isSwap.calls ((rd_T31 l1 x24_1).f0) ((rd_T31 l1 x24_1).f1) ((rd_T31 l1 x24_1).f2) ((rd_T31 l1 x24_1).f3) ((rd_T31 l1 x24_1).f4) false _ A32.1).mono ?_); rintro e w49 ⟨rfl, hb⟩; replace HO_5 := zM (Kd.R_below (zR HO_5.1) hb); replace HO_6 := zM (Kd.S_below (zS HO_6.1) hb); replace BK168 := zM (zb BK168.1 hb); replace BK174 := zM (zb BK174.1 hb); replace HB := zM (below_step zB1 hb); clear hb) | (go_at_call 43; (with_reducible refine (impl_knows.calls k2 _ _ t164 x33_2 x24_1 true _ ?side1 ?side2 A41.1).mono ?_); (case side1 => exact zC (Kd.S_reads' HO_6.1).2.2); (case side2 => exact (Kd.S_reads' HO_6.1).2.1); rintro e w' ⟨rfl, ⟨nd, rfl⟩⟩))
       go_roundg k2
       case measure => have := HK1.1; have := HK2.1; omega
       case rel => exact ⟨(x5_2), (wrap64 (x33_2 + 1)), zJJ, H', ⟨by have := HK1.1; have := HK2.1; omega⟩, ⟨zR HO_5.1⟩, ⟨zS HO_6.1⟩, ⟨zK BK168.1⟩, ⟨zB1⟩⟩
      replace c42 := Bool.eq_false_iff.mpr c42
      subst c42
      rw [if_neg zF] at H
      replace H := zIn H
      obtain ⟨LMc50, H⟩ := H
      generalize hy179 : ((x5_2 ++ [(⟨x33_2, x24_1⟩ : S44)]) : List (S44)) = y179 at H
      have Ny179 := zM hy179.symm
      clear hy179
      have H' := zM H
      clear H
      have p173 : 0 ≤ (x33_2 : Int) := zA
      have q173 : x33_2 < (y169.length : Int) := zA
      obtain ⟨ad173, e173, hx173_0, hx173_1, hx173_2, hx173_3, hx173_4⟩ := at_T31 HR172.1 x33_2 p173 q173
      obtain rfl : ad167 = ad173 := (by injection e173)
      replace hx173_0 := (HB.1.cell (World.block_lt_of_cell? w _ hx173_0)).trans hx173_0
      replace hx173_1 := (HB.1.cell (World.block_lt_of_cell? w _ hx173_1)).trans hx173_1
      replace hx173_2 := (HB.1.cell (World.block_lt_of_cell? w _ hx173_2)).trans hx173_2
      replace hx173_3 := (HB.1.cell (World.block_lt_of_cell? w _ hx173_3)).trans hx173_3
      replace hx173_4 := (HB.1.cell (World.block_lt_of_cell? w _ hx173_4)).trans hx173_4
      replace p173 := eq_true p173
      replace q173 := eq_true q173
      go_wp2_with (first | ((with_reducible refine zBx 10 31 #[.int .i64 0, .int .i64 0, .int .i64 0, .int .i64 0, .int .i64 0] ?_); intro gb174 hg w51 hbox hb; replace HO_5 := zM (Kd.R_below (zR HO_5.1) hb); replace HO_6 := zM (Kd.S_below (zS HO_6.1) hb); have BK174 := zM hbox; have GW174 := zM (zW hg (below_size zB1)); have GE174 := zM (zW hg (below_size zB1)); replace HB := zM (below_step zB1 hb); have NB168_174 := zM ((zn BK168.1 hg : gb168 ≠ gb174)); have NB174_168 := zM ((zm BK168.1 hg : gb174 ≠ gb168)); replace BK168 := zM (zb BK168.1 hb); clear hb hbox hg; have hnb52 := NB174_168.1; have hnc52 := NB168_174.1; have hcz53 := zc_5 (w := w51) BK174.1; have hcz54 := zc_5 (w := w51) BK168.1) | (go_at_call 46; (with_reducible refine (impl_isCell.calls ((rd_T31 y169 x33_2).f2) true _ A26.1).mono ?_); rintro e w' ⟨rfl, ⟨nd, rfl⟩⟩) | (go_at_call 36; (with_reducible refine (impl_isSwap.calls ((rd_T31 y169 x33_2).f0) ((rd_T31 y169 x33_2).f1) ((rd_T31 y169 x33_2).f2) ((rd_T31 y169 x33_2).f3) ((rd_T31 y169 x33_2).f4) true _ A30.1).mono ?_); rintro e w55 ⟨rfl, hb⟩; replace HO_5 := zM (Kd.R_below (by refine zrR ?_; exact (Kd.R_mono (zfR (zfR (zfR (zfR (zfR (Kd.R_types HO_5.1 BK174.1 (by decide))))))) (fun _ h_ => h_.1))) hb); replace HO_6 := zM (Kd.S_below (by refine zrS ?_; exact (Kd.S_mono (zfS (zfS (zfS (zfS (zfS (Kd.S_types HO_6.1 BK174.1 (by decide))))))) (fun _ h_ => h_.1))) hb); replace BK168 := zM (zf BK168.1 hb); replace BK174 := zM (blk_below (g := gb174) (o := .cells #[.int .i64 ((rd_T31 y169 x33_2).f0), .int .i64 ((rd_T31 y169 x33_2).f1), .int .i64 ((rd_T31 y169 x33_2).f2), .int .i64 ((rd_T31 y169 x33_2).f3), .int .i64 ((rd_T31 y169 x33_2).f4)] 31 (0, 0)) (by exact zp5 (zK BK174.1)) hb); replace HB := zM (below_step zB1 hb); clear hb; have hcz56 := zc_5 (w := w55) BK168.1) | (go_at_call 36; (with_reducible refine (impl_isSwap.calls ((rd_T31 l1 x24_1).f0) ((rd_T31 l1 x24_1).f1) ((rd_T31 l1 x24_1).f2) ((rd_T31 l1 x24_1).f3) ((rd_T31 l1 x24_1).f4) false _ A32.1).mono ?_); rintro e w57 ⟨rfl, hb⟩; replace HO_5 := zM (Kd.R_below (zR HO_5.1) hb); replace HO_6 := zM (Kd.S_below (zS HO_6.1) hb); replace BK168 := zM (zb BK168.1 hb); replace BK174 := zM (zb BK174.1 hb); replace HB := zM (below_step zB1 hb); clear hb) | (go_at_call 43; (with_reducible refine (impl_knows.calls k2 _ _ t164 x33_2 x24_1 false _ ?side1 ?side2 A41.1).mono ?_); (case side1 => exact zC (Kd.S_reads' HO_6.1).2.2); (case side2 => exact (Kd.S_reads' HO_6.1).2.1); rintro e w' ⟨rfl, ⟨nd, rfl⟩⟩) | ((with_reducible refine gate_builtin (b := .append) (xs := #[.tmp 82, .tmp 86]) rfl ?_); at_builtin; refine Kd.R_append k44 (w0 := w) w.heap.size rfl (.tmp 82) (.tmp 86) 41 44 (.agg #[(.int .i64 0), (.int .i64 0)]) 16 rfl Try.underlying41 info44 rfl (by decide) (by omega) u5 x5_2 (⟨x33_2, x24_1⟩ : S44) [.int .i64 x33_2, .int .i64 x24_1] (fun _ => True) (fun _ => False) rfl rfl ?aP (fun _ hk => hk.elim) ?aF ?aO ?aB ?aS ?aL ?_; (case aP => exact k44_mkM _ _ _ (⟨x33_2, x24_1⟩ : S44)); (case aB => exact zB1); (case aF => exact (fun _ _ => trivial)); (case aO => exact (zR HO_5.1)); (case aS => exact (below_size zB1)); (case aL => have := LMc50.out; omega); intro v180 w58 ho hb hg hat; rw [← Ny179.1] at ho; replace HO_6 := zM (Kd.S_over' (zS HO_6.1) (Kd.R_typed (zR HO_5.1)) (by decide) hg); replace BK168 := zM (zg BK168.1 hg (Kd.R_ne HO_5.1 BK168.1 (by decide))); replace BK174 := zM (zg BK174.1 hg (Kd.R_ne HO_5.1 BK174.1 (by decide))); replace HB := zM hb; have HO181 := zM ho; clear HO_5; clear ho hb hg hat))
      go_roundg k2
      case measure => have := HK1.1; have := HK2.1; omega
      case rel => exact ⟨(y179), (wrap64 (x33_2 + 1)), zJJ, H', ⟨by have := HK1.1; have := HK2.1; omega⟩, ⟨zR HO181.1⟩, ⟨zS HO_6.1⟩, ⟨zK BK168.1⟩, ⟨zB1⟩⟩
     rw [if_neg c29] at H
     have c29b0 := decide_eq_false c29
     clear c29
     by_cases c73 : ((rd_T31 l1 x24_1).f4) ≥ 0
     rotate_left
     ·rw [if_neg c73] at H
      have c73b0 := decide_eq_false c73
      clear c73
      have H' := zM H
      clear H
      have p173 : 0 ≤ (x33_2 : Int) := zA
      have q173 : x33_2 < (y169.length : Int) := zA
      obtain ⟨ad173, e173, hx173_0, hx173_1, hx173_2, hx173_3, hx173_4⟩ := at_T31 HR172.1 x33_2 p173 q173
      obtain rfl : ad167 = ad173 := (by injection e173)
      replace hx173_0 := (HB.1.cell (World.block_lt_of_cell? w _ hx173_0)).trans hx173_0
      replace hx173_1 := (HB.1.cell (World.block_lt_of_cell? w _ hx173_1)).trans hx173_1
      replace hx173_2 := (HB.1.cell (World.block_lt_of_cell? w _ hx173_2)).trans hx173_2
      replace hx173_3 := (HB.1.cell (World.block_lt_of_cell? w _ hx173_3)).trans hx173_3
      replace hx173_4 := (HB.1.cell (World.block_lt_of_cell? w _ hx173_4)).trans hx173_4
      replace p173 := eq_true p173
      replace q173 := eq_true q173
      go_wp2_with (first | ((with_reducible refine zBx 10 31 #[.int .i64 0, .int .i64 0, .int .i64 0, .int .i64 0, .int .i64 0] ?_); intro gb174 hg w117 hbox hb; replace HO_5 := zM (Kd.R_below (zR HO_5.1) hb); replace HO_6 := zM (Kd.S_below (zS HO_6.1) hb); have BK174 := zM hbox; have GW174 := zM (zW hg (below_size zB1)); have GE174 := zM (zW hg (below_size zB1)); replace HB := zM (below_step zB1 hb); have NB168_174 := zM ((zn BK168.1 hg : gb168 ≠ gb174)); have NB174_168 := zM ((zm BK168.1 hg : gb174 ≠ gb168)); replace BK168 := zM (zb BK168.1 hb); clear hb hbox hg; have hnb118 := NB174_168.1; have hnc118 := NB168_174.1; have hcz119 := zc_5 (w := w117) BK174.1; have hcz120 := zc_5 (w := w117) BK168.1) | (go_at_call 46; (with_reducible refine (impl_isCell.calls ((rd_T31 y169 x33_2).f2) true _ A26.1).mono ?_); rintro e w' ⟨rfl, ⟨nd, rfl⟩⟩))
      go_roundg k2
      case measure => have := HK1.1; have := HK2.1; omega
      case rel => exact ⟨(x5_2), (wrap64 (x33_2 + 1)), zJJ, H', ⟨by have := HK1.1; have := HK2.1; omega⟩, ⟨by refine zrR ?_; exact Kd.R_mono (zfR (zfR (zfR (zfR (zfR (Kd.R_types HO_5.1 BK174.1 (by decide))))))) (fun _ hk => trivial)⟩, ⟨by refine zrS ?_; exact Kd.S_mono (zfS (zfS (zfS (zfS (zfS (Kd.S_types HO_6.1 BK174.1 (by decide))))))) (fun _ hk => trivial)⟩, ⟨zPq⟩, ⟨zB1⟩⟩
     rw [if_pos c73] at H
     have c73b0 := decide_eq_true c73
     clear c73
     replace H := zO H
     obtain ⟨t186, A74, H⟩ := H
     by_cases c75 : t186 = true
     rotate_left
     ·replace c75 := Bool.eq_false_iff.mpr c75
      subst c75
      rw [if_neg zF] at H
      replace H := zO H
      obtain ⟨t192, A103, H⟩ := H
      by_cases c104 : t192 = true
      ·subst c104
       rw [if_pos rfl] at H
       have H' := zM H
       clear H
       have p173 : 0 ≤ (x33_2 : Int) := zA
       have q173 : x33_2 < (y169.length : Int) := zA
       obtain ⟨ad173, e173, hx173_0, hx173_1, hx173_2, hx173_3, hx173_4⟩ := at_T31 HR172.1 x33_2 p173 q173
       obtain rfl : ad167 = ad173 := (by injection e173)
       replace hx173_0 := (HB.1.cell (World.block_lt_of_cell? w _ hx173_0)).trans hx173_0
       replace hx173_1 := (HB.1.cell (World.block_lt_of_cell? w _ hx173_1)).trans hx173_1
       replace hx173_2 := (HB.1.cell (World.block_lt_of_cell? w _ hx173_2)).trans hx173_2
       replace hx173_3 := (HB.1.cell (World.block_lt_of_cell? w _ hx173_3)).trans hx173_3
       replace hx173_4 := (HB.1.cell (World.block_lt_of_cell? w _ hx173_4)).trans hx173_4
       replace p173 := eq_true p173
       replace q173 := eq_true q173
       go_wp2_with (first | ((with_reducible refine zBx 10 31 #[.int .i64 0, .int .i64 0, .int .i64 0, .int .i64 0, .int .i64 0] ?_); intro gb174 hg w105 hbox hb; replace HO_5 := zM (Kd.R_below (zR HO_5.1) hb); replace HO_6 := zM (Kd.S_below (zS HO_6.1) hb); have BK174 := zM hbox; have GW174 := zM (zW hg (below_size zB1)); have GE174 := zM (zW hg (below_size zB1)); replace HB := zM (below_step zB1 hb); have NB168_174 := zM ((zn BK168.1 hg : gb168 ≠ gb174)); have NB174_168 := zM ((zm BK168.1 hg : gb174 ≠ gb168)); replace BK168 := zM (zb BK168.1 hb); clear hb hbox hg; have hnb106 := NB174_168.1; have hnc106 := NB168_174.1; have hcz107 := zc_5 (w := w105) BK174.1; have hcz108 := zc_5 (w := w105) BK168.1) | (go_at_call 46; (with_reducible refine (impl_isCell.calls ((rd_T31 y169 x33_2).f2) true _ A26.1).mono ?_); rintro e w' ⟨rfl, ⟨nd, rfl⟩⟩) | (go_at_call 36; (with_reducible refine (impl_isSwap.calls ((rd_T31 y169 x33_2).f0) ((rd_T31 y169 x33_2).f1) ((rd_T31 y169 x33_2).f2) ((rd_T31 y169 x33_2).f3) ((rd_T31 y169 x33_2).f4) false _ A74.1).mono ?_); rintro e w109 ⟨rfl, hb⟩; replace HO_5 := zM (Kd.R_below (by refine zrR ?_; exact (Kd.R_mono (zfR (zfR (zfR (zfR (zfR (Kd.R_types HO_5.1 BK174.1 (by decide))))))) (fun _ h_ => h_.1))) hb); replace HO_6 := zM (Kd.S_below (by refine zrS ?_; exact (Kd.S_mono (zfS (zfS (zfS (zfS (zfS (Kd.S_types HO_6.1 BK174.1 (by decide))))))) (fun _ h_ => h_.1))) hb); replace BK168 := zM (zf BK168.1 hb); replace BK174 := zM (blk_below (g := gb174) (o := .cells #[.int .i64 ((rd_T31 y169 x33_2).f0), .int .i64 ((rd_T31 y169 x33_2).f1), .int .i64 ((rd_T31 y169 x33_2).f2), .int .i64 ((rd_T31 y169 x33_2).f3), .int .i64 ((rd_T31 y169 x33_2).f4)] 31 (0, 0)) (by exact zp5 (zK BK174.1)) hb); replace HB := zM (below_step zB1 hb); clear hb) | (go_at_call 43; (with_reducible refine (impl_knows.calls k2 _ _ t164 x33_2 x24_1 true _ ?side1 ?side2 A103.1).mono ?_); (case side1 => exact zC (Kd.S_reads' HO_6.1).2.2); (case side2 => exact (Kd.S_reads' HO_6.1).2.1); rintro e w' ⟨rfl, ⟨nd, rfl⟩⟩))
       go_roundg k2
       case measure => have := HK1.1; have := HK2.1; omega
       case rel => exact ⟨(x5_2), (wrap64 (x33_2 + 1)), zJJ, H', ⟨by have := HK1.1; have := HK2.1; omega⟩, ⟨zR HO_5.1⟩, ⟨zS HO_6.1⟩, ⟨zK BK168.1⟩, ⟨zB1⟩⟩
      replace c104 := Bool.eq_false_iff.mpr c104
      subst c104
      rw [if_neg zF] at H
      replace H := zIn H
      obtain ⟨LMc110, H⟩ := H
      generalize hy193 : ((x5_2 ++ [(⟨x33_2, x24_1⟩ : S44)]) : List (S44)) = y193 at H
      have Ny193 := zM hy193.symm
      clear hy193
      have H' := zM H
      clear H
      have p173 : 0 ≤ (x33_2 : Int) := zA
      have q173 : x33_2 < (y169.length : Int) := zA
      obtain ⟨ad173, e173, hx173_0, hx173_1, hx173_2, hx173_3, hx173_4⟩ := at_T31 HR172.1 x33_2 p173 q173
      obtain rfl : ad167 = ad173 := (by injection e173)
      replace hx173_0 := (HB.1.cell (World.block_lt_of_cell? w _ hx173_0)).trans hx173_0
      replace hx173_1 := (HB.1.cell (World.block_lt_of_cell? w _ hx173_1)).trans hx173_1
      replace hx173_2 := (HB.1.cell (World.block_lt_of_cell? w _ hx173_2)).trans hx173_2
      replace hx173_3 := (HB.1.cell (World.block_lt_of_cell? w _ hx173_3)).trans hx173_3
      replace hx173_4 := (HB.1.cell (World.block_lt_of_cell? w _ hx173_4)).trans hx173_4
      replace p173 := eq_true p173
      replace q173 := eq_true q173
      go_wp2_with (first | ((with_reducible refine zBx 10 31 #[.int .i64 0, .int .i64 0, .int .i64 0, .int .i64 0, .int .i64 0] ?_); intro gb174 hg w111 hbox hb; replace HO_5 := zM (Kd.R_below (zR HO_5.1) hb); replace HO_6 := zM (Kd.S_below (zS HO_6.1) hb); have BK174 := zM hbox; have GW174 := zM (zW hg (below_size zB1)); have GE174 := zM (zW hg (below_size zB1)); replace HB := zM (below_step zB1 hb); have NB168_174 := zM ((zn BK168.1 hg : gb168 ≠ gb174)); have NB174_168 := zM ((zm BK168.1 hg : gb174 ≠ gb168)); replace BK168 := zM (zb BK168.1 hb); clear hb hbox hg; have hnb112 := NB174_168.1; have hnc112 := NB168_174.1; have hcz113 := zc_5 (w := w111) BK174.1; have hcz114 := zc_5 (w := w111) BK168.1) | (go_at_call 46; (with_reducible refine (impl_isCell.calls ((rd_T31 y169 x33_2).f2) true _ A26.1).mono ?_); rintro e w' ⟨rfl, ⟨nd, rfl⟩⟩) | (go_at_call 36; (with_reducible refine (impl_isSwap.calls ((rd_T31 y169 x33_2).f0) ((rd_T31 y169 x33_2).f1) ((rd_T31 y169 x33_2).f2) ((rd_T31 y169 x33_2).f3) ((rd_T31 y169 x33_2).f4) false _ A74.1).mono ?_); rintro e w115 ⟨rfl, hb⟩; replace HO_5 := zM (Kd.R_below (by refine zrR ?_; exact (Kd.R_mono (zfR (zfR (zfR (zfR (zfR (Kd.R_types HO_5.1 BK174.1 (by decide))))))) (fun _ h_ => h_.1))) hb); replace HO_6 := zM (Kd.S_below (by refine zrS ?_; exact (Kd.S_mono (zfS (zfS (zfS (zfS (zfS (Kd.S_types HO_6.1 BK174.1 (by decide))))))) (fun _ h_ => h_.1))) hb); replace BK168 := zM (zf BK168.1 hb); replace BK174 := zM (blk_below (g := gb174) (o := .cells #[.int .i64 ((rd_T31 y169 x33_2).f0), .int .i64 ((rd_T31 y169 x33_2).f1), .int .i64 ((rd_T31 y169 x33_2).f2), .int .i64 ((rd_T31 y169 x33_2).f3), .int .i64 ((rd_T31 y169 x33_2).f4)] 31 (0, 0)) (by exact zp5 (zK BK174.1)) hb); replace HB := zM (below_step zB1 hb); clear hb) | (go_at_call 43; (with_reducible refine (impl_knows.calls k2 _ _ t164 x33_2 x24_1 false _ ?side1 ?side2 A103.1).mono ?_); (case side1 => exact zC (Kd.S_reads' HO_6.1).2.2); (case side2 => exact (Kd.S_reads' HO_6.1).2.1); rintro e w' ⟨rfl, ⟨nd, rfl⟩⟩) | ((with_reducible refine gate_builtin (b := .append) (xs := #[.tmp 82, .tmp 86]) rfl ?_); at_builtin; refine Kd.R_append k44 (w0 := w) w.heap.size rfl (.tmp 82) (.tmp 86) 41 44 (.agg #[(.int .i64 0), (.int .i64 0)]) 16 rfl Try.underlying41 info44 rfl (by decide) (by omega) u5 x5_2 (⟨x33_2, x24_1⟩ : S44) [.int .i64 x33_2, .int .i64 x24_1] (fun _ => True) (fun _ => False) rfl rfl ?aP (fun _ hk => hk.elim) ?aF ?aO ?aB ?aS ?aL ?_; (case aP => exact k44_mkM _ _ _ (⟨x33_2, x24_1⟩ : S44)); (case aB => exact zB1); (case aF => exact (fun _ _ => trivial)); (case aO => exact (zR HO_5.1)); (case aS => exact (below_size zB1)); (case aL => have := LMc110.out; omega); intro v194 w116 ho hb hg hat; rw [← Ny193.1] at ho; replace HO_6 := zM (Kd.S_over' (zS HO_6.1) (Kd.R_typed (zR HO_5.1)) (by decide) hg); replace BK168 := zM (zg BK168.1 hg (Kd.R_ne HO_5.1 BK168.1 (by decide))); replace BK174 := zM (zg BK174.1 hg (Kd.R_ne HO_5.1 BK174.1 (by decide))); replace HB := zM hb; have HO195 := zM ho; clear HO_5; clear ho hb hg hat))
      go_roundg k2
      case measure => have := HK1.1; have := HK2.1; omega
      case rel => exact ⟨(y193), (wrap64 (x33_2 + 1)), zJJ, H', ⟨by have := HK1.1; have := HK2.1; omega⟩, ⟨zR HO195.1⟩, ⟨zS HO_6.1⟩, ⟨zK BK168.1⟩, ⟨zB1⟩⟩
     subst c75
     rw [if_pos rfl] at H
     replace H := zO H
     obtain ⟨t187, A76, H⟩ := H
     by_cases c77 : t187 = true
     ·subst c77
      rw [if_pos rfl] at H
      have H' := zM H
      clear H
      have p173 : 0 ≤ (x33_2 : Int) := zA
      have q173 : x33_2 < (y169.length : Int) := zA
      obtain ⟨ad173, e173, hx173_0, hx173_1, hx173_2, hx173_3, hx173_4⟩ := at_T31 HR172.1 x33_2 p173 q173
      obtain rfl : ad167 = ad173 := (by injection e173)
      replace hx173_0 := (HB.1.cell (World.block_lt_of_cell? w _ hx173_0)).trans hx173_0
      replace hx173_1 := (HB.1.cell (World.block_lt_of_cell? w _ hx173_1)).trans hx173_1
      replace hx173_2 := (HB.1.cell (World.block_lt_of_cell? w _ hx173_2)).trans hx173_2
      replace hx173_3 := (HB.1.cell (World.block_lt_of_cell? w _ hx173_3)).trans hx173_3
      replace hx173_4 := (HB.1.cell (World.block_lt_of_cell? w _ hx173_4)).trans hx173_4
      replace p173 := eq_true p173
      replace q173 := eq_true q173
      go_wp2_with (first | ((with_reducible refine zBx 10 31 #[.int .i64 0, .int .i64 0, .int .i64 0, .int .i64 0, .int .i64 0] ?_); intro gb174 hg w78 hbox hb; replace HO_5 := zM (Kd.R_below (zR HO_5.1) hb); replace HO_6 := zM (Kd.S_below (zS HO_6.1) hb); have BK174 := zM hbox; have GW174 := zM (zW hg (below_size zB1)); have GE174 := zM (zW hg (below_size zB1)); replace HB := zM (below_step zB1 hb); have NB168_174 := zM ((zn BK168.1 hg : gb168 ≠ gb174)); have NB174_168 := zM ((zm BK168.1 hg : gb174 ≠ gb168)); replace BK168 := zM (zb BK168.1 hb); clear hb hbox hg; have hnb79 := NB174_168.1; have hnc79 := NB168_174.1; have hcz80 := zc_5 (w := w78) BK174.1; have hcz81 := zc_5 (w := w78) BK168.1) | (go_at_call 46; (with_reducible refine (impl_isCell.calls ((rd_T31 y169 x33_2).f2) true _ A26.1).mono ?_); rintro e w' ⟨rfl, ⟨nd, rfl⟩⟩) | (go_at_call 36; (with_reducible refine (impl_isSwap.calls ((rd_T31 y169 x33_2).f0) ((rd_T31 y169 x33_2).f1) ((rd_T31 y169 x33_2).f2) ((rd_T31 y169 x33_2).f3) ((rd_T31 y169 x33_2).f4) true _ A74.1).mono ?_); rintro e w82 ⟨rfl, hb⟩; replace HO_5 := zM (Kd.R_below (by refine zrR ?_; exact (Kd.R_mono (zfR (zfR (zfR (zfR (zfR (Kd.R_types HO_5.1 BK174.1 (by decide))))))) (fun _ h_ => h_.1))) hb); replace HO_6 := zM (Kd.S_below (by refine zrS ?_; exact (Kd.S_mono (zfS (zfS (zfS (zfS (zfS (Kd.S_types HO_6.1 BK174.1 (by decide))))))) (fun _ h_ => h_.1))) hb); replace BK168 := zM (zf BK168.1 hb); replace BK174 := zM (blk_below (g := gb174) (o := .cells #[.int .i64 ((rd_T31 y169 x33_2).f0), .int .i64 ((rd_T31 y169 x33_2).f1), .int .i64 ((rd_T31 y169 x33_2).f2), .int .i64 ((rd_T31 y169 x33_2).f3), .int .i64 ((rd_T31 y169 x33_2).f4)] 31 (0, 0)) (by exact zp5 (zK BK174.1)) hb); replace HB := zM (below_step zB1 hb); clear hb; have hcz83 := zc_5 (w := w82) BK168.1) | (go_at_call 36; (with_reducible refine (impl_isSwap.calls ((rd_T31 l1 x24_1).f0) ((rd_T31 l1 x24_1).f1) ((rd_T31 l1 x24_1).f2) ((rd_T31 l1 x24_1).f3) ((rd_T31 l1 x24_1).f4) true _ A76.1).mono ?_); rintro e w84 ⟨rfl, hb⟩; replace HO_5 := zM (Kd.R_below (zR HO_5.1) hb); replace HO_6 := zM (Kd.S_below (zS HO_6.1) hb); replace BK168 := zM (zb BK168.1 hb); replace BK174 := zM (zb BK174.1 hb); replace HB := zM (below_step zB1 hb); clear hb))
      go_roundg k2
      case measure => have := HK1.1; have := HK2.1; omega
      case rel => exact ⟨(x5_2), (wrap64 (x33_2 + 1)), zJJ, H', ⟨by have := HK1.1; have := HK2.1; omega⟩, ⟨zR HO_5.1⟩, ⟨zS HO_6.1⟩, ⟨zK BK168.1⟩, ⟨zB1⟩⟩
     replace c77 := Bool.eq_false_iff.mpr c77
     subst c77
     rw [if_neg zF] at H
     replace H := zO H
     obtain ⟨t188, A85, H⟩ := H
     by_cases c86 : t188 = true
     ·subst c86
      rw [if_pos rfl] at H
      have H' := zM H
      clear H
      have p173 : 0 ≤ (x33_2 : Int) := zA
      have q173 : x33_2 < (y169.length : Int) := zA
      obtain ⟨ad173, e173, hx173_0, hx173_1, hx173_2, hx173_3, hx173_4⟩ := at_T31 HR172.1 x33_2 p173 q173
      obtain rfl : ad167 = ad173 := (by injection e173)
      replace hx173_0 := (HB.1.cell (World.block_lt_of_cell? w _ hx173_0)).trans hx173_0
      replace hx173_1 := (HB.1.cell (World.block_lt_of_cell? w _ hx173_1)).trans hx173_1
      replace hx173_2 := (HB.1.cell (World.block_lt_of_cell? w _ hx173_2)).trans hx173_2
      replace hx173_3 := (HB.1.cell (World.block_lt_of_cell? w _ hx173_3)).trans hx173_3
      replace hx173_4 := (HB.1.cell (World.block_lt_of_cell? w _ hx173_4)).trans hx173_4
      replace p173 := eq_true p173
      replace q173 := eq_true q173
      go_wp2_with (first | ((with_reducible refine zBx 10 31 #[.int .i64 0, .int .i64 0, .int .i64 0, .int .i64 0, .int .i64 0] ?_); intro gb174 hg w87 hbox hb; replace HO_5 := zM (Kd.R_below (zR HO_5.1) hb); replace HO_6 := zM (Kd.S_below (zS HO_6.1) hb); have BK174 := zM hbox; have GW174 := zM (zW hg (below_size zB1)); have GE174 := zM (zW hg (below_size zB1)); replace HB := zM (below_step zB1 hb); have NB168_174 := zM ((zn BK168.1 hg : gb168 ≠ gb174)); have NB174_168 := zM ((zm BK168.1 hg : gb174 ≠ gb168)); replace BK168 := zM (zb BK168.1 hb); clear hb hbox hg; have hnb88 := NB174_168.1; have hnc88 := NB168_174.1; have hcz89 := zc_5 (w := w87) BK174.1; have hcz90 := zc_5 (w := w87) BK168.1) | (go_at_call 46; (with_reducible refine (impl_isCell.calls ((rd_T31 y169 x33_2).f2) true _ A26.1).mono ?_); rintro e w' ⟨rfl, ⟨nd, rfl⟩⟩) | (go_at_call 36; (with_reducible refine (impl_isSwap.calls ((rd_T31 y169 x33_2).f0) ((rd_T31 y169 x33_2).f1) ((rd_T31 y169 x33_2).f2) ((rd_T31 y169 x33_2).f3) ((rd_T31 y169 x33_2).f4) true _ A74.1).mono ?_); rintro e w91 ⟨rfl, hb⟩; replace HO_5 := zM (Kd.R_below (by refine zrR ?_; exact (Kd.R_mono (zfR (zfR (zfR (zfR (zfR (Kd.R_types HO_5.1 BK174.1 (by decide))))))) (fun _ h_ => h_.1))) hb); replace HO_6 := zM (Kd.S_below (by refine zrS ?_; exact (Kd.S_mono (zfS (zfS (zfS (zfS (zfS (Kd.S_types HO_6.1 BK174.1 (by decide))))))) (fun _ h_ => h_.1))) hb); replace BK168 := zM (zf BK168.1 hb); replace BK174 := zM (blk_below (g := gb174) (o := .cells #[.int .i64 ((rd_T31 y169 x33_2).f0), .int .i64 ((rd_T31 y169 x33_2).f1), .int .i64 ((rd_T31 y169 x33_2).f2), .int .i64 ((rd_T31 y169 x33_2).f3), .int .i64 ((rd_T31 y169 x33_2).f4)] 31 (0, 0)) (by exact zp5 (zK BK174.1)) hb); replace HB := zM (below_step zB1 hb); clear hb; have hcz92 := zc_5 (w := w91) BK168.1) | (go_at_call 36; (with_reducible refine (impl_isSwap.calls ((rd_T31 l1 x24_1).f0) ((rd_T31 l1 x24_1).f1) ((rd_T31 l1 x24_1).f2) ((rd_T31 l1 x24_1).f3) ((rd_T31 l1 x24_1).f4) false _ A76.1).mono ?_); rintro e w93 ⟨rfl, hb⟩; replace HO_5 := zM (Kd.R_below (zR HO_5.1) hb); replace HO_6 := zM (Kd.S_below (zS HO_6.1) hb); replace BK168 := zM (zb BK168.1 hb); replace BK174 := zM (zb BK174.1 hb); replace HB := zM (below_step zB1 hb); clear hb) | (go_at_call 43; (with_reducible refine (impl_knows.calls k2 _ _ t164 x33_2 x24_1 true _ ?side1 ?side2 A85.1).mono ?_); (case side1 => exact zC (Kd.S_reads' HO_6.1).2.2); (case side2 => exact (Kd.S_reads' HO_6.1).2.1); rintro e w' ⟨rfl, ⟨nd, rfl⟩⟩))
      go_roundg k2
      case measure => have := HK1.1; have := HK2.1; omega
      case rel => exact ⟨(x5_2), (wrap64 (x33_2 + 1)), zJJ, H', ⟨by have := HK1.1; have := HK2.1; omega⟩, ⟨zR HO_5.1⟩, ⟨zS HO_6.1⟩, ⟨zK BK168.1⟩, ⟨zB1⟩⟩
     replace c86 := Bool.eq_false_iff.mpr c86
     subst c86
     rw [if_neg zF] at H
     replace H := zIn H
     obtain ⟨LMc94, H⟩ := H
     generalize hy189 : ((x5_2 ++ [(⟨x33_2, x24_1⟩ : S44)]) : List (S44)) = y189 at H
     have Ny189 := zM hy189.symm
     clear hy189
     have H' := zM H
     clear H
     have p173 : 0 ≤ (x33_2 : Int) := zA
     have q173 : x33_2 < (y169.length : Int) := zA
     obtain ⟨ad173, e173, hx173_0, hx173_1, hx173_2, hx173_3, hx173_4⟩ := at_T31 HR172.1 x33_2 p173 q173
     obtain rfl : ad167 = ad173 := (by injection e173)
     replace hx173_0 := (HB.1.cell (World.block_lt_of_cell? w _ hx173_0)).trans hx173_0
     replace hx173_1 := (HB.1.cell (World.block_lt_of_cell? w _ hx173_1)).trans hx173_1
     replace hx173_2 := (HB.1.cell (World.block_lt_of_cell? w _ hx173_2)).trans hx173_2
     replace hx173_3 := (HB.1.cell (World.block_lt_of_cell? w _ hx173_3)).trans hx173_3
     replace hx173_4 := (HB.1.cell (World.block_lt_of_cell? w _ hx173_4)).trans hx173_4
     replace p173 := eq_true p173
     replace q173 := eq_true q173
     go_wp2_with (first | ((with_reducible refine zBx 10 31 #[.int .i64 0, .int .i64 0, .int .i64 0, .int .i64 0, .int .i64 0] ?_); intro gb174 hg w95 hbox hb; replace HO_5 := zM (Kd.R_below (zR HO_5.1) hb); replace HO_6 := zM (Kd.S_below (zS HO_6.1) hb); have BK174 := zM hbox; have GW174 := zM (zW hg (below_size zB1)); have GE174 := zM (zW hg (below_size zB1)); replace HB := zM (below_step zB1 hb); have NB168_174 := zM ((zn BK168.1 hg : gb168 ≠ gb174)); have NB174_168 := zM ((zm BK168.1 hg : gb174 ≠ gb168)); replace BK168 := zM (zb BK168.1 hb); clear hb hbox hg; have hnb96 := NB174_168.1; have hnc96 := NB168_174.1; have hcz97 := zc_5 (w := w95) BK174.1; have hcz98 := zc_5 (w := w95) BK168.1) | (go_at_call 46; (with_reducible refine (impl_isCell.calls ((rd_T31 y169 x33_2).f2) true _ A26.1).mono ?_); rintro e w' ⟨rfl, ⟨nd, rfl⟩⟩) | (go_at_call 36; (with_reducible refine (impl_isSwap.calls ((rd_T31 y169 x33_2).f0) ((rd_T31 y169 x33_2).f1) ((rd_T31 y169 x33_2).f2) ((rd_T31 y169 x33_2).f3) ((rd_T31 y169 x33_2).f4) true _ A74.1).mono ?_); rintro e w99 ⟨rfl, hb⟩; replace HO_5 := zM (Kd.R_below (by refine zrR ?_; exact (Kd.R_mono (zfR (zfR (zfR (zfR (zfR (Kd.R_types HO_5.1 BK174.1 (by decide))))))) (fun _ h_ => h_.1))) hb); replace HO_6 := zM (Kd.S_below (by refine zrS ?_; exact (Kd.S_mono (zfS (zfS (zfS (zfS (zfS (Kd.S_types HO_6.1 BK174.1 (by decide))))))) (fun _ h_ => h_.1))) hb); replace BK168 := zM (zf BK168.1 hb); replace BK174 := zM (blk_below (g := gb174) (o := .cells #[.int .i64 ((rd_T31 y169 x33_2).f0), .int .i64 ((rd_T31 y169 x33_2).f1), .int .i64 ((rd_T31 y169 x33_2).f2), .int .i64 ((rd_T31 y169 x33_2).f3), .int .i64 ((rd_T31 y169 x33_2).f4)] 31 (0, 0)) (by exact zp5 (zK BK174.1)) hb); replace HB := zM (below_step zB1 hb); clear hb; have hcz100 := zc_5 (w := w99) BK168.1) | (go_at_call 36; (with_reducible refine (impl_isSwap.calls ((rd_T31 l1 x24_1).f0) ((rd_T31 l1 x24_1).f1) ((rd_T31 l1 x24_1).f2) ((rd_T31 l1 x24_1).f3) ((rd_T31 l1 x24_1).f4) false _ A76.1).mono ?_); rintro e w101 ⟨rfl, hb⟩; replace HO_5 := zM (Kd.R_below (zR HO_5.1) hb); replace HO_6 := zM (Kd.S_below (zS HO_6.1) hb); replace BK168 := zM (zb BK168.1 hb); replace BK174 := zM (zb BK174.1 hb); replace HB := zM (below_step zB1 hb); clear hb) | (go_at_call 43; (with_reducible refine (impl_knows.calls k2 _ _ t164 x33_2 x24_1 false _ ?side1 ?side2 A85.1).mono ?_); (case side1 => exact zC (Kd.S_reads' HO_6.1).2.2); (case side2 => exact (Kd.S_reads' HO_6.1).2.1); rintro e w' ⟨rfl, ⟨nd, rfl⟩⟩) | ((with_reducible refine gate_builtin (b := .append) (xs := #[.tmp 82, .tmp 86]) rfl ?_); at_builtin; refine Kd.R_append k44 (w0 := w) w.heap.size rfl (.tmp 82) (.tmp 86) 41 44 (.agg #[(.int .i64 0), (.int .i64 0)]) 16 rfl Try.underlying41 info44 rfl (by decide) (by omega) u5 x5_2 (⟨x33_2, x24_1⟩ : S44) [.int .i64 x33_2, .int .i64 x24_1] (fun _ => True) (fun _ => False) rfl rfl ?aP (fun _ hk => hk.elim) ?aF ?aO ?aB ?aS ?aL ?_; (case aP => exact k44_mkM _ _ _ (⟨x33_2, x24_1⟩ : S44)); (case aB => exact zB1); (case aF => exact (fun _ _ => trivial)); (case aO => exact (zR HO_5.1)); (case aS => exact (below_size zB1)); (case aL => have := LMc94.out; omega); intro v190 w102 ho hb hg hat; rw [← Ny189.1] at ho; replace HO_6 := zM (Kd.S_over' (zS HO_6.1) (Kd.R_typed (zR HO_5.1)) (by decide) hg); replace BK168 := zM (zg BK168.1 hg (Kd.R_ne HO_5.1 BK168.1 (by decide))); replace BK174 := zM (zg BK174.1 hg (Kd.R_ne HO_5.1 BK174.1 (by decide))); replace HB := zM hb; have HO191 := zM ho; clear HO_5; clear ho hb hg hat))
     go_roundg k2
     case measure => have := HK1.1; have := HK2.1; omega
     case rel => exact ⟨(y189), (wrap64 (x33_2 + 1)), zJJ, H', ⟨by have := HK1.1; have := HK2.1; omega⟩, ⟨zR HO191.1⟩, ⟨zS HO_6.1⟩, ⟨zK BK168.1⟩, ⟨zB1⟩⟩

/-! ### laws_at: function 21 -/
def laws_at.f (l0 : List Int) (a1 : Int) : Option (Int) := if a1 < (l0.length : Int) then (if 0 ≤ a1 then (some (wrap64 (rd l0 a1))) else (none)) else (some (Int.tmod (wrap64 ((wrap64 (a1 * 7)) + (l0.length : Int))) 256))
theorem laws_at.calls (A0 : Option Addr) (c0 : Nat) (l0 : List Int) (a1 : Int) (r : Int) (w : World) (hr0 : Kd.C (Kd.int .u8) w A0 l0.length l0) (hc0 : l0.length ≤ c0) (h : laws_at.f l0 a1 = some r) :
  Calls Try.prog 21 #[.slice A0 l0.length c0, .int .i64 a1] w fun e w' => e = .returned (.int .i64 r) ∧ Drawn0 w w' := by
 have HR0 := zM hr0
 have HC0 := zM hc0
 clear hr0 hc0
 unfold laws_at.f at h
 have H := h
 clear h
 by_cases c3 : a1 < (l0.length : Int)
 rotate_left
 ·rw [if_neg c3] at H
  have c3b0 := decide_eq_false c3
  clear c3
  obtain rfl := Option.some.inj H
  go_enter Try.func21, Try.ntmps21
  go_wp2
  go_ret
  exact ⟨zJJ, zDD⟩
 rw [if_pos c3] at H
 have c3b0 := decide_eq_true c3
 clear c3
 replace H := zIt H
 obtain ⟨c4b0, H⟩ := H
 obtain rfl := Option.some.inj H
 have p196 : 0 ≤ (a1 : Int) := zA
 have q196 : a1 < (l0.length : Int) := zA
 obtain ⟨ad196, e196, hx196_0⟩ := Kd.at_int HR0.1 a1 p196 q196
 cases e196
 replace p196 := eq_true p196
 replace q196 := eq_true q196
 go_enter Try.func21, Try.ntmps21
 go_wp2
 go_ret
 exact ⟨zJJ, zDD⟩

end Go.Proofs.Ytgbjengnkbomoaa.PFnRacesOfCounts
