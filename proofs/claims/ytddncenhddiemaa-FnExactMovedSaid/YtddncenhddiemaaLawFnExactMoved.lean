-- made by wip/tools/myprint.py out of the seat's translation
import Derived.Test.YtddncenhddiemaaRows
import Derived.Test.YtddncenhddiemaaPFnExactMovedx14
import Derived.Test.YtddncenhddiemaaPureFnExactMoved
import Derived.Test.YtddncenhddiemaaOpens
import Derived.WalkKit
import Derived.ProofKit
import Derived.OpenShut
import Derived.ShutString
import Derived.ChangeOld
import Derived.Below
import Derived.SizedLaws
namespace Go.Proofs.Ytddncenhddiemaa.fnExactMoved
open Go.ChangeShapes Go.WideShapes Go.ChangeAt Go.RowKit Go.Proofs.Ytddncenhddiemaa.Opens Go.Proofs.Ytddncenhddiemaa.PFnExactMoved Go.Proofs.YtddncenhddiemaaW.PrintWords
open Go.ChangeMaps (open_string shut_string)
set_option linter.unusedVariables false
theorem own : ownKnob Try.prog.godebug = none := by kernel_rfl
theorem laidOut : laidOutB Try.prog = true := by kernel_rfl
set_option maxRecDepth 100000 in
theorem lifted (os : Os) (started : os.Started) (H : Type) (enc : TypeId × Value → H) :
    ReturnsInHanded {} Try.checked os 12 .any (Rows.fnExactMovedSpec.pre6 enc Try.prog Try.f12 Rows.fnExactMovedRow.domain false) (Rows.fnExactMovedSpec.post enc Try.prog Try.f12 false true false false) := by
  refine returnsInHanded_of_change_sized (C := Try.checked) own started (by kernel_rfl) Try.func12
    (ChangeSpec.witness6 (enc := enc) (C := Try.checked) false ⟨#[], #[.agg #[.string ByteArray.empty, .slice none 0 0, .slice none 0 0], .int .i64 0], []⟩ 8 (by kernel_rfl) (by kernel_rfl) (by kernel_rfl) (by kernel_rfl)) ?_
  intro W base args ds gs before hval0 hW hcnd hsz0 _
  have hval : ∀ (j : Nat) t v, Try.f12.params[j]? = some t → args[j]? = some v → Value.okWide Try.prog W .any base t v := hval0
  have hW' := hW
  obtain ⟨p, q, hA0, hV, rfl, hfz, hnd⟩ := hW
  have hA : DataW.TrodAll enc Try.prog W 0 (fun _ => true) true Try.f12.params.toList args.toList ds p := hA0
  rw [Try.params12] at hA hval
  obtain ⟨v0, vs0, d0, ds0, p0, q0, hargs, rfl, rfl, h0, r0⟩ := trodAll_cons hA
  obtain ⟨v1, vs1, d1, ds1, p1, q1, rfl, rfl, rfl, h1, r1⟩ := trodAll_cons r0
  obtain ⟨rfl, rfl, rfl⟩ := trodAll_nil r1
  obtain rfl : args = #[v0, v1] := by cases args; simp_all
  obtain ⟨rfl, rfl⟩ := trodVars_none hV
  have k0 := h0
  have lt0 : ∀ x ∈ p0, x.block < W.heap.size := by obtain ⟨m, hm⟩ := k0; exact DataW.trod_lt m _ _ _ hm
  obtain ⟨cs0, rfl⟩ := okWide_agg Try.underlying39 (hval 0 39 v0 rfl rfl)
  obtain ⟨x0, hK0, hG0⟩ := Opens.trod (opens_struct (mk := fun a => (⟨a.1, a.2.1, a.2.2⟩ : S39)) (f := fun x : S39 => (x.f0, x.f1, x.f2)) (fun _ => rfl) Try.underlying39 (by kernel_rfl) (opensF_cons rfl (by kernel_rfl) (opens_str Try.underlying9) (opensF_cons rfl (by kernel_rfl) (opens_slice Try.underlying36 (by kernel_rfl) (opens_struct (mk := fun a => (⟨a.1, a.2.1, a.2.2.1, a.2.2.2.1, a.2.2.2.2⟩ : S162)) (f := fun x : S162 => (x.f0, x.f1, x.f2, x.f3, x.f4)) (fun _ => rfl) Try.underlying162 (by kernel_rfl) (opensF_cons rfl (by kernel_rfl) (opens_int Try.underlying3) (opensF_cons rfl (by kernel_rfl) (opens_int Try.underlying3) (opensF_cons rfl (by kernel_rfl) (opens_int Try.underlying3) (opensF_cons rfl (by kernel_rfl) (opens_int Try.underlying3) (opensF_last rfl (by kernel_rfl) (opens_int Try.underlying3)))))))) (opensF_last rfl (by kernel_rfl) (opens_slice Try.underlying37 (by kernel_rfl) (opens_struct (mk := fun a => (⟨a.1, a.2⟩ : S159)) (f := fun x : S159 => (x.f0, x.f1)) (fun _ => rfl) Try.underlying159 (by kernel_rfl) (opensF_cons rfl (by kernel_rfl) (opens_int Try.underlying3) (opensF_last rfl (by kernel_rfl) (opens_str Try.underlying9))))))))) h0
  obtain ⟨a0_0, l0_1, l0_2⟩ := x0
  obtain ⟨L0, hL0⟩ : ∃ L, cs0.toList = L := ⟨_, rfl⟩
  have hK0' : (k39).K W _ L0 := hL0 ▸ hK0
  obtain ⟨u0_1, w0_1, rfl, rfl, ⟨u0_2, w0_2, rfl, ⟨A0_1, c0_1, rfl, hc0_1, hr0_1⟩, ⟨A0_2, c0_2, rfl, hc0_2, hr0_2⟩⟩⟩ := hK0'
  obtain rfl : cs0 = #[.string a0_0, .slice A0_1 l0_1.length c0_1, .slice A0_2 l0_2.length c0_2] := by have e_ := congrArg List.toArray hL0; simpa using e_
  have k1 := h1
  have lt1 : ∀ x ∈ p1, x.block < W.heap.size := by obtain ⟨m, hm⟩ := k1; exact DataW.trod_lt m _ _ _ hm
  obtain ⟨a1, rfl⟩ := okWide_int Try.underlying3 (hval 1 3 v1 rfl rfl)
  obtain ⟨b1, hK1, hG1⟩ := Opens.trod (opens_int Try.underlying3) h1
  obtain rfl : a1 = b1 := by have e_ : ([.int .i64 a1] : List Value) = [.int .i64 b1] := hK1; simpa using e_
  clear hA0 hval0 hsz0
  refine (laws_FnExactMoved.walk Pure.FnExactMoved a0_0 A0_1 c0_1 l0_1 A0_2 c0_2 l0_2 a1 W hr0_1 hc0_1 hr0_2 hc0_2 hG0 hG1).mono fun e W' ⟨he, bel⟩ => ?_
  subst he
  exact ⟨_, rfl, _, _, _, [], _, [], hW', trodAll_mk1 (shut_bool Try.underlying4 _), (trodAll_cons_mk (Below.trod laidOut (by kernel_rfl) (of_decide_eq_true (by kernel_rfl)) k0 bel lt0) (trodAll_cons_mk (Below.trod laidOut (by kernel_rfl) (of_decide_eq_true (by kernel_rfl)) k1 bel lt1) trodAll_mk0)), rfl, bel.frame _, fun h => by cases h⟩
theorem over : Rows.fnExactMovedRow.holds Try.pinned (OpenSpec.ofChange Rows.fnExactMovedSpec) :=
  OpenClaim.holds_of_wide 12 Try.f12 rfl rfl rfl rfl rfl rfl rfl ⟨rfl, rfl, rfl, rfl, rfl⟩ rfl rfl rfl rfl rfl (by kernel_rfl) Try.func12 (by kernel_rfl)
    (of_decide_eq_true (by kernel_rfl)) (by unfold Func.isWrapper; first | (rw [if_pos (by decide +kernel)]; kernel_rfl) | (rw [if_neg (by decide +kernel)]; exact ⟨rfl, rfl⟩))
    (fun os started H enc _ => lifted os started H enc)
theorem proved : Rows.FnExactMovedSaid := over
#print axioms proved
end Go.Proofs.Ytddncenhddiemaa.fnExactMoved
namespace Go.Proofs.Ytddncenhddiemaa
/-- The row, under a short name, for the claim. -/
theorem fnExactMoved_holds : Rows.FnExactMovedSaid := fnExactMoved.proved
end Go.Proofs.Ytddncenhddiemaa
