-- made by wip/tools/myprint.py out of the seat's translation
import Derived.Test.YtljhpfbpcdkdjaaRows
import Derived.Test.YtljhpfbpcdkdjaaPFnExactWatchOkx2
import Derived.Test.YtljhpfbpcdkdjaaPureFnExactWatchOk
import Derived.Test.YtljhpfbpcdkdjaaOpens
import Derived.WalkKit
import Derived.ProofKit
import Derived.OpenShut
import Derived.ShutString
import Derived.ChangeOld
import Derived.Below
import Derived.SizedLaws
namespace Go.Proofs.Ytljhpfbpcdkdjaa.fnExactWatchOk
open Go.ChangeShapes Go.WideShapes Go.ChangeAt Go.RowKit Go.Proofs.Ytljhpfbpcdkdjaa.Opens Go.Proofs.Ytljhpfbpcdkdjaa.PFnExactWatchOk Go.Proofs.YtljhpfbpcdkdjaaW.PrintWords
open Go.ChangeMaps (open_string shut_string)
set_option linter.unusedVariables false
theorem own : ownKnob Try.prog.godebug = none := by kernel_rfl
theorem laidOut : laidOutB Try.prog = true := by kernel_rfl
set_option maxRecDepth 100000 in
theorem lifted (os : Os) (started : os.Started) (H : Type) (enc : TypeId × Value → H) :
    ReturnsInHanded {} Try.checked os 9 .any (Rows.fnExactWatchOkSpec.pre6 enc Try.prog Try.f9 Rows.fnExactWatchOkRow.domain false) (Rows.fnExactWatchOkSpec.post enc Try.prog Try.f9 false true false false) := by
  refine returnsInHanded_of_change_sized (C := Try.checked) own started (by kernel_rfl) Try.func9
    (ChangeSpec.witness6 (enc := enc) (C := Try.checked) false ⟨#[], #[.agg #[.slice none 0 0, .slice none 0 0]], []⟩ 8 (by kernel_rfl) (by kernel_rfl) (by kernel_rfl) (by kernel_rfl)) ?_
  intro W base args ds gs before hval0 hW hcnd hsz0 _
  have hval : ∀ (j : Nat) t v, Try.f9.params[j]? = some t → args[j]? = some v → Value.okWide Try.prog W .any base t v := hval0
  have hW' := hW
  obtain ⟨p, q, hA0, hV, rfl, hfz, hnd⟩ := hW
  have hA : DataW.TrodAll enc Try.prog W 0 (fun _ => true) true Try.f9.params.toList args.toList ds p := hA0
  rw [Try.params9] at hA hval
  obtain ⟨v0, vs0, d0, ds0, p0, q0, hargs, rfl, rfl, h0, r0⟩ := trodAll_cons hA
  obtain ⟨rfl, rfl, rfl⟩ := trodAll_nil r0
  obtain rfl : args = #[v0] := by cases args; simp_all
  obtain ⟨rfl, rfl⟩ := trodVars_none hV
  have k0 := h0
  have lt0 : ∀ x ∈ p0, x.block < W.heap.size := by obtain ⟨m, hm⟩ := k0; exact DataW.trod_lt m _ _ _ hm
  obtain ⟨cs0, rfl⟩ := okWide_agg Try.underlying53 (hval 0 53 v0 rfl rfl)
  obtain ⟨x0, hK0, hG0⟩ := Opens.trod (opens_struct (mk := fun a => (⟨a.1, a.2⟩ : S53)) (f := fun x : S53 => (x.f0, x.f1)) (fun _ => rfl) Try.underlying53 (by kernel_rfl) (opensF_cons rfl (by kernel_rfl) (opens_slice Try.underlying30 (by kernel_rfl) (opens_int Try.underlying3)) (opensF_last rfl (by kernel_rfl) (opens_slice Try.underlying30 (by kernel_rfl) (opens_int Try.underlying3))))) h0
  obtain ⟨l0_0, l0_1⟩ := x0
  obtain ⟨L0, hL0⟩ : ∃ L, cs0.toList = L := ⟨_, rfl⟩
  have hK0' : (k53).K W _ L0 := hL0 ▸ hK0
  obtain ⟨u0_1, w0_1, rfl, ⟨A0_0, c0_0, rfl, hc0_0, hr0_0⟩, ⟨A0_1, c0_1, rfl, hc0_1, hr0_1⟩⟩ := hK0'
  obtain rfl : cs0 = #[.slice A0_0 l0_0.length c0_0, .slice A0_1 l0_1.length c0_1] := by have e_ := congrArg List.toArray hL0; simpa using e_
  clear hA0 hval0 hsz0
  refine (laws_FnExactWatchOk.walk Pure.FnExactWatchOk A0_0 c0_0 l0_0 A0_1 c0_1 l0_1 W hr0_0 hc0_0 hr0_1 hc0_1 hG0).mono fun e W' ⟨he, bel⟩ => ?_
  subst he
  exact ⟨_, rfl, _, _, _, [], _, [], hW', trodAll_mk1 (shut_bool Try.underlying4 _), (trodAll_cons_mk (Below.trod laidOut (by kernel_rfl) (of_decide_eq_true (by kernel_rfl)) k0 bel lt0) trodAll_mk0), rfl, bel.frame _, fun h => by cases h⟩
theorem over : Rows.fnExactWatchOkRow.holds Try.pinned (OpenSpec.ofChange Rows.fnExactWatchOkSpec) :=
  OpenClaim.holds_of_wide 9 Try.f9 rfl rfl rfl rfl rfl rfl rfl ⟨rfl, rfl, rfl, rfl, rfl⟩ rfl rfl rfl rfl rfl (by kernel_rfl) Try.func9 (by kernel_rfl)
    (of_decide_eq_true (by kernel_rfl)) (by unfold Func.isWrapper; first | (rw [if_pos (by decide +kernel)]; kernel_rfl) | (rw [if_neg (by decide +kernel)]; exact ⟨rfl, rfl⟩))
    (fun os started H enc _ => lifted os started H enc)
theorem proved : Rows.FnExactWatchOkSaid := over
#print axioms proved
end Go.Proofs.Ytljhpfbpcdkdjaa.fnExactWatchOk
namespace Go.Proofs.Ytljhpfbpcdkdjaa
/-- The row, under a short name, for the claim. -/
theorem fnExactWatchOk_holds : Rows.FnExactWatchOkSaid := fnExactWatchOk.proved
end Go.Proofs.Ytljhpfbpcdkdjaa
