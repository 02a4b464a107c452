-- made by wip/tools/myprint.py out of the seat's translation
import Derived.Test.YtgbjengnkbomoaaPFnKnowsx0
import Derived.Test.YtgbjengnkbomoaaPFnKnowsx1
import Derived.Test.YtgbjengnkbomoaaPFnKnowsx2
import Derived.Test.YtgbjengnkbomoaaPFnKnowsx3
import Derived.Test.YtgbjengnkbomoaaPFnKnowsx4
import Derived.Test.YtgbjengnkbomoaaPFnKnowsx5
import Derived.Test.YtgbjengnkbomoaaPFnKnowsx6
import Derived.Test.YtgbjengnkbomoaaPFnKnowsx7
import Derived.Test.YtgbjengnkbomoaaPFnKnowsx8
import Derived.Test.YtgbjengnkbomoaaPFnKnowsx9
import Derived.Test.YtgbjengnkbomoaaPFnKnowsx10
import Derived.Test.YtgbjengnkbomoaaPFnKnowsx11
import Derived.Test.YtgbjengnkbomoaaPFnKnowsx12
namespace Go.Proofs.Ytgbjengnkbomoaa.PFnClocksOf
open Go.RowKit Go.Proofs.YtgbjengnkbomoaaW.PrintWords Go.Proofs.YtgbjengnkbomoaaW.PrintLast Go.Proofs.YtgbjengnkbomoaaW.PrintMore Go.Proofs.Ytgbjengnkbomoaa.PFnKnows
attribute [local go_sem] max2_int min2_int max_two min_two max_three min_three max_four min_four   -- for this text's walks alone
set_option linter.unusedVariables false
set_option linter.unusedSimpArgs false
set_option maxHeartbeats 8000000
set_option maxRecDepth 100000
theorem zR {p q : Prop} (x : q) (h : q → p := by intro h; (with_reducible repeat (first | apply Kd.R_alloc | apply Kd.R_drewN | apply Kd.R_drew)); exact h) : p := h x

theorem zS {p q : Prop} (x : q) (h : q → p := by intro h; (with_reducible repeat (first | apply Kd.S_alloc | apply Kd.S_drewN | apply Kd.S_drew)); exact h) : p := h x

theorem zA {p : Prop} [Decidable p] (h : decide p = true := by first | (with_reducible assumption) | assumption) : p := of_decide_eq_true h

theorem zT {p : Prop} (h : p := by (try simp only [List.map_toArray, List.map_cons, List.map_nil]); first | done | rfl | (simp only [List.length_drop, List.length_take]; rfl)) : p := h

theorem zC {p q : Prop} (x : q) (h : q → p := by intro h; repeat (first | exact h | (with_reducible refine Kd.C_alloc ?_ _) | (with_reducible refine Kd.C_drewN ?_ _) | (with_reducible refine Kd.C_drew ?_))) : p := h x

theorem zE {p : Prop} (h : p := by first | rfl | (simp [errW_none, errW_some] <;> rfl) | (simp [*, errW_none, errW_some] <;> rfl)) : p := h

theorem zB12 {p : Prop} (h : p := by repeat (first | (with_reducible first | exact HB.out | apply below_alloc | apply pw_below_drewN | apply below_drew1) | exact HB.out)) : p := h

theorem zB18 {p : Prop} (h : p := by repeat (first | (with_reducible first | exact HI552.out | apply IsS90.alloc | apply IsS90.drewN | apply IsS90.drew | apply IsS90.set_1 | apply IsS90.set_2) | exact HI552.out)) : p := h

theorem zB19 {p : Prop} (h : p := by repeat (first | (with_reducible first | exact HB.out | apply below_alloc | apply pw_below_drewN | apply below_drew1 | refine below_set ?_ (IsS90.ge HI552.out)) | exact HB.out)) : p := h

theorem zV {a b : Act} (h : a = b := by simp only [Act.put, List.setIfInBounds_toArray, List.set_cons_zero, List.set_cons_succ, i64_w, i32_w]; rfl) : a = b := h

theorem zL {p : Prop} (h : p := by repeat' first | (with_reducible first | exact LeO.refl _ | exact LeO.none _ | refine LeO.ite ?_ ?_ | refine LeO.bind ?_ (fun _ => ?_) | apply ih0 | apply ih1 | apply ih2 | apply ih3 | apply ih4 | apply ih5 | apply ih6 | apply ih7 | apply ih8 | apply ih9 | apply mo0 | apply mo1 | apply mo2 | apply mo3 | apply mo4 | apply mo5 | apply mo6 | apply mo7 | apply mo8 | apply mo9 | apply mo10 | apply mo11 | apply mo12 | apply mo13) | apply ih0 | apply ih1 | apply ih2 | apply ih3 | apply ih4 | apply ih5 | apply ih6 | apply ih7 | exact LeO.none _ | refine LeO.ite ?_ ?_ | refine LeO.bind ?_ (fun _ => ?_)) : p := h
theorem zO {α β : Type} {o : Option α} {f : α → Option β} {b : β} (h : o.bind f = some b) : ∃ a, Aside0 (o = some a) ∧ f a = some b := by obtain ⟨a, h1, h2⟩ := Option.bind_eq_some_iff.mp h; exact ⟨a, ⟨h1⟩, h2⟩
theorem zF : ¬ (false = true) := by decide
theorem zJJ {p : Prop} (h : p := by first | rfl | (simp; done) | (simp [*]; done)) : p := h
theorem zDD {p : Prop} (h : p := by repeat (first | exact Drawn0.refl _ | apply Drawn0.step)) : p := h
theorem zrS {p q : Prop} (x : q) (h : q → p := by intro h; (with_reducible repeat (first | apply Kd.S_alloc | apply Kd.S_drewN | apply Kd.S_drew)); exact h) : p := h x
theorem zM {p : Prop} (h : p) : Aside0 p := ⟨h⟩

/-! ### spec_DrawClocks: function 11 -/
def spec_DrawClocks.f (k : Nat) (l0 : List Int) : Option (Int × (List (S31))) := (spec_l1New.f k l0).bind fun bt549 => ((spec_l20Draw.f k bt549.1 bt549.2.1 bt549.2.2).bind fun bt553 => (some (bt553.1, bt553.2.1)))
theorem spec_DrawClocks.mono : ∀ a0 k, LeO (spec_DrawClocks.f k a0) (spec_DrawClocks.f (k + 1) a0) := by
 intro a0 k
 unfold spec_DrawClocks.f
 have mo0 := @spec_l1New.mono
 have mo1 := @spec_l20Draw.mono
 exact zL
theorem spec_DrawClocks.calls (k : Nat) (A0 : Option Addr) (c0 : Nat) (l0 : List Int) (r1 : Int) (r2 : List (S31)) (w : World) (hr0 : Kd.C (Kd.int .u8) w A0 l0.length l0) (hc0 : l0.length ≤ c0) (h : spec_DrawClocks.f k l0 = some (r1, r2)) :
  Calls Try.prog 11 #[.slice A0 l0.length c0] w fun e w' => ∃ v1_ : Value, e = .returned (.tuple #[.int .i64 r1, v1_]) ∧ Kd.R k31 31 w' w.heap.size (fun _ => True) v1_ r2 ∧ Below w.heap.size w w' := by
 have HR0 := zM hr0
 have HC0 := zM hc0
 clear hr0 hc0
 have HB := zM (Below.refl w.heap.size w)
 unfold spec_DrawClocks.f at h
 have H := h
 clear h
 replace H := zO H
 obtain ⟨⟨t549, t550, t551⟩, A2, H⟩ := H
 try dsimp only at H
 replace H := zO H
 obtain ⟨⟨t553, t554, t557, t558⟩, A3, H⟩ := H
 try dsimp only at H
 simp only [Option.some.injEq, Prod.mk.injEq] at H
 obtain ⟨rfl, rfl⟩ := H
 go_enter Try.func11, Try.ntmps11
 go_wp2_with (first | ((with_reducible refine gate_callee (f := 30) rfl ?_); refine goesL_ (some 8) rfl rfl Try.func30 (by kernel_rfl) rfl #[.slice A0 l0.length c0] rfl zT ?_; (with_reducible refine (spec_l1New.calls k _ _ l0 t549 t550 t551 w _ ?side1 ?side2 ?side3 A2.1).mono ?_); (case side1 => exact zB12); (case side2 => exact HR0.1); (case side3 => exact HC0.1); rintro e w4 ⟨g552, rfl, hi, hb, hb2⟩; refine ⟨_, rfl, ?_⟩; replace HB := zM hb; have HI552 := zM hi; clear hb hb2 hi) | ((with_reducible refine gate_callee (f := 29) rfl ?_); refine goesL_ (some 9) rfl rfl Try.func29 (by kernel_rfl) rfl #[.pointer (some ⟨g552, 0, none⟩)] rfl zT ?_; (with_reducible refine (spec_l20Draw.calls k g552 t549 t550 t551 t553 t554 t557 t558 w _ ?side1 ?side2 A3.1).mono ?_); (case side1 => exact zB18); (case side2 => exact zB19); rintro e w5 ⟨v555, rfl, ho0, hi, hb, hk⟩; refine ⟨_, rfl, ?_⟩; have HO556 := zM (Kd.R_lower ho0 (below_size zB19)); replace HB := zM hb; replace HI552 := zM hi; clear hb hk hi ho0))
 go_ret2
 exact ⟨_, zE, zR HO556.1, zB19⟩

end Go.Proofs.Ytgbjengnkbomoaa.PFnClocksOf
