-- made by wip/tools/myprint.py out of the seat's translation
import Derived.Test.YtfkfdhnhakkihaaRows
import Derived.Test.YtfkfdhnhakkihaaPFnExactPartAtx4
import Derived.Test.YtfkfdhnhakkihaaPureFnExactPartAt
import Derived.Test.YtfkfdhnhakkihaaOpens
import Derived.WalkKit
import Derived.ProofKit
import Derived.OpenShut
import Derived.ShutString
import Derived.ChangeOld
import Derived.Below
import Derived.SizedLaws
namespace Go.Proofs.Ytfkfdhnhakkihaa.fnExactPartAt
open Go.ChangeShapes Go.WideShapes Go.ChangeAt Go.RowKit Go.Proofs.Ytfkfdhnhakkihaa.Opens Go.Proofs.Ytfkfdhnhakkihaa.PFnExactPartAt Go.Proofs.YtfkfdhnhakkihaaW.PrintWords
open Go.ChangeMaps (open_string shut_string)
set_option linter.unusedVariables false
theorem own : ownKnob Try.prog.godebug = none := by kernel_rfl
theorem laidOut : laidOutB Try.prog = true := by kernel_rfl
set_option maxRecDepth 100000 in
theorem lifted (os : Os) (started : os.Started) (H : Type) (enc : TypeId × Value → H) :
    ReturnsInHanded {} Try.checked os 10 .any (Rows.fnExactPartAtSpec.pre6 enc Try.prog Try.f10 Rows.fnExactPartAtRow.domain false) (Rows.fnExactPartAtSpec.post enc Try.prog Try.f10 false true false false) := by
  refine returnsInHanded_of_change_sized (C := Try.checked) own started (by kernel_rfl) Try.func10
    (ChangeSpec.witness6 (enc := enc) (C := Try.checked) false ⟨#[], #[.slice none 0 0, .string ByteArray.empty], []⟩ 8 (by kernel_rfl) (by kernel_rfl) (by kernel_rfl) (by kernel_rfl)) ?_
  intro W base args ds gs before hval0 hW hcnd hsz0 _
  have hval : ∀ (j : Nat) t v, Try.f10.params[j]? = some t → args[j]? = some v → Value.okWide Try.prog W .any base t v := hval0
  have hW' := hW
  obtain ⟨p, q, hA0, hV, rfl, hfz, hnd⟩ := hW
  have hA : DataW.TrodAll enc Try.prog W 0 (fun _ => true) true Try.f10.params.toList args.toList ds p := hA0
  rw [Try.params10] at hA hval
  obtain ⟨v0, vs0, d0, ds0, p0, q0, hargs, rfl, rfl, h0, r0⟩ := trodAll_cons hA
  obtain ⟨v1, vs1, d1, ds1, p1, q1, rfl, rfl, rfl, h1, r1⟩ := trodAll_cons r0
  obtain ⟨rfl, rfl, rfl⟩ := trodAll_nil r1
  obtain rfl : args = #[v0, v1] := by cases args; simp_all
  obtain ⟨rfl, rfl⟩ := trodVars_none hV
  have k0 := h0
  have lt0 : ∀ x ∈ p0, x.block < W.heap.size := by obtain ⟨m, hm⟩ := k0; exact DataW.trod_lt m _ _ _ hm
  obtain ⟨a0, len0, cap0, rfl⟩ := okWide_slice Try.underlying74 (hval 0 74 v0 rfl rfl)
  obtain ⟨l0, ⟨A0, c0, hE0, hc0, hr0⟩, hG0⟩ := Opens.trod (opens_slice Try.underlying74 (by kernel_rfl) (opens_struct (mk := fun a => (⟨a.1, a.2.1, a.2.2⟩ : S137)) (f := fun x : S137 => (x.f0, x.f1, x.f2)) (fun _ => rfl) Try.underlying137 (by kernel_rfl) (opensF_cons rfl (by kernel_rfl) (opens_str Try.underlying9) (opensF_cons rfl (by kernel_rfl) (opens_slice Try.underlying134 (by kernel_rfl) (opens_struct (mk := fun a => (⟨a.1, a.2.1, a.2.2.1, a.2.2.2.1, a.2.2.2.2⟩ : S211)) (f := fun x : S211 => (x.f0, x.f1, x.f2, x.f3, x.f4)) (fun _ => rfl) Try.underlying211 (by kernel_rfl) (opensF_cons rfl (by kernel_rfl) (opens_int Try.underlying3) (opensF_cons rfl (by kernel_rfl) (opens_int Try.underlying3) (opensF_cons rfl (by kernel_rfl) (opens_int Try.underlying3) (opensF_cons rfl (by kernel_rfl) (opens_int Try.underlying3) (opensF_last rfl (by kernel_rfl) (opens_int Try.underlying3)))))))) (opensF_last rfl (by kernel_rfl) (opens_slice Try.underlying135 (by kernel_rfl) (opens_struct (mk := fun a => (⟨a.1, a.2⟩ : S209)) (f := fun x : S209 => (x.f0, x.f1)) (fun _ => rfl) Try.underlying209 (by kernel_rfl) (opensF_cons rfl (by kernel_rfl) (opens_int Try.underlying3) (opensF_last rfl (by kernel_rfl) (opens_str Try.underlying9)))))))))) h0
  obtain ⟨rfl, rfl, rfl⟩ : a0 = A0 ∧ len0 = l0.length ∧ cap0 = c0 := by simpa [Value.cells] using hE0
  clear hE0
  have k1 := h1
  have lt1 : ∀ x ∈ p1, x.block < W.heap.size := by obtain ⟨m, hm⟩ := k1; exact DataW.trod_lt m _ _ _ hm
  obtain ⟨a1, rfl⟩ := okWide_string Try.underlying9 (hval 1 9 v1 rfl rfl)
  obtain ⟨b1, hK1, hG1⟩ := Opens.trod (opens_str Try.underlying9) h1
  obtain rfl : a1 = b1 := by have e_ : ([.string a1] : List Value) = [.string b1] := hK1; simpa using e_
  clear hA0 hval0 hsz0
  refine (laws_FnExactPartAt.walk Pure.FnExactPartAt a0 cap0 l0 a1 W hr0 hc0 hG0 hG1).mono fun e W' ⟨he, bel⟩ => ?_
  subst he
  exact ⟨_, rfl, _, _, _, [], _, [], hW', trodAll_mk1 (shut_bool Try.underlying4 _), (trodAll_cons_mk (Below.trod laidOut (by kernel_rfl) (of_decide_eq_true (by kernel_rfl)) k0 bel lt0) (trodAll_cons_mk (Below.trod laidOut (by kernel_rfl) (of_decide_eq_true (by kernel_rfl)) k1 bel lt1) trodAll_mk0)), rfl, bel.frame _, fun h => by cases h⟩
theorem over : Rows.fnExactPartAtRow.holds Try.pinned (OpenSpec.ofChange Rows.fnExactPartAtSpec) :=
  OpenClaim.holds_of_wide 10 Try.f10 rfl rfl rfl rfl rfl rfl rfl ⟨rfl, rfl, rfl, rfl, rfl⟩ rfl rfl rfl rfl rfl (by kernel_rfl) Try.func10 (by kernel_rfl)
    (of_decide_eq_true (by kernel_rfl)) (by unfold Func.isWrapper; first | (rw [if_pos (by decide +kernel)]; kernel_rfl) | (rw [if_neg (by decide +kernel)]; exact ⟨rfl, rfl⟩))
    (fun os started H enc _ => lifted os started H enc)
theorem proved : Rows.FnExactPartAtSaid := over
#print axioms proved
end Go.Proofs.Ytfkfdhnhakkihaa.fnExactPartAt
namespace Go.Proofs.Ytfkfdhnhakkihaa
/-- The row, under a short name, for the claim. -/
theorem fnExactPartAt_holds : Rows.FnExactPartAtSaid := fnExactPartAt.proved
end Go.Proofs.Ytfkfdhnhakkihaa
