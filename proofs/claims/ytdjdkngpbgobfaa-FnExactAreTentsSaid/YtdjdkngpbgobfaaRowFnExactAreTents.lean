/- FnExactAreTents, for every input: the statement as it is given, over the contract of the law and the pure theorem Pure.FnExactAreTents. No condition. -/
import Derived.Test.YtdjdkngpbgobfaaRows
import Derived.Test.YtdjdkngpbgobfaaSFnExactAreTentsx5
import Derived.Test.YtdjdkngpbgobfaaPureFnExactAreTents
import Derived.Test.YtdjdkngpbgobfaaOpens
import Derived.WalkKit
import Derived.ProofKit
import Derived.OpenShut
import Derived.ShutString
import Derived.ChangeOld
import Derived.Below
import Derived.SizedLaws
namespace Go.Proofs.Ytdjdkngpbgobfaa.fnExactAreTents
open Go.ChangeShapes Go.WideShapes Go.ChangeAt Go.RowKit Go.Proofs.YtdjdkngpbgobfaaW.PrintWords Go.Proofs.Ytdjdkngpbgobfaa.PFnExactAreTents
set_option linter.unusedVariables false
theorem own : ownKnob Try.prog.godebug = none := by kernel_rfl
theorem laidOut : laidOutB Try.prog = true := by kernel_rfl
theorem opens88 : Opens.Opens Try.prog 88 k88 (fun y => Opens.I64 y.f0 ∧ Opens.I64 y.f1 ∧ (y.f2.length ≤ maxLen ∧ ∀ x ∈ y.f2, Opens.I64 x)) :=
  Opens.opens_iso (Opens.opens_struct Try.underlying88 (by kernel_rfl) (Opens.opensF_cons (Opens.opens_int Try.underlying3) rfl (by kernel_rfl) (Opens.opensF_cons (Opens.opens_int Try.underlying3) rfl (by kernel_rfl) (Opens.opensF_one (Opens.opens_slice 3 Try.underlying69 (by kernel_rfl) (Opens.opens_int Try.underlying3)) rfl (by kernel_rfl))))) _ (fun p => ⟨p.1, p.2.1, p.2.2⟩) (fun _ => rfl)
set_option maxRecDepth 100000 in
theorem lifted (os : Os) (started : os.Started) (H : Type) (enc : TypeId × Value → H) :
    ReturnsInHanded {} Try.checked os 8 .any (Rows.fnExactAreTentsSpec.pre6 enc Try.prog Try.f8 Rows.fnExactAreTentsRow.domain false) (Rows.fnExactAreTentsSpec.post enc Try.prog Try.f8 false true false false) := by
  refine returnsInHanded_of_change_sized (C := Try.checked) own started (by kernel_rfl) Try.func8
    (ChangeSpec.witness6 (enc := enc) (C := Try.checked) false ⟨#[], #[.slice none 0 0], []⟩ 8 (by kernel_rfl) (by kernel_rfl) (by kernel_rfl) (by kernel_rfl)) ?_
  intro W base args ds gs before hval0 hW hcnd hsz0 _
  clear hsz0
  have hval : ∀ (j : Nat) t v, Try.f8.params[j]? = some t → args[j]? = some v → Value.okWide Try.prog W .any base t v := hval0
  have hW' := hW
  obtain ⟨p, q, hA0, hV, rfl, hfz, hnd⟩ := hW
  have hA : DataW.TrodAll enc Try.prog W 0 (fun _ => true) true Try.f8.params.toList args.toList ds p := hA0
  rw [Try.params8] at hA hval
  obtain ⟨v0, vs0, d0, ds0, p0, q0, hargs, rfl, rfl, h0, r0⟩ := trodAll_cons hA
  obtain ⟨rfl, rfl, rfl⟩ := trodAll_nil r0
  obtain rfl : args = #[v0] := by cases args; simp_all
  obtain ⟨rfl, rfl⟩ := trodVars_none hV
  have k0 := h0
  have lt0 : ∀ x ∈ p0, x.block < W.heap.size := by obtain ⟨m, hm⟩ := k0; exact DataW.trod_lt m _ _ _ hm
  obtain ⟨A0, c0, l0, rfl, hc0, hm0, hg0, hr0⟩ : ∃ (A : Option Addr) (c : Nat) (l : List S88), v0 = .slice A l.length c ∧ l.length ≤ c ∧ l.length ≤ maxLen ∧ (∀ y ∈ l, (fun y => Opens.I64 y.f0 ∧ Opens.I64 y.f1 ∧ (y.f2.length ≤ maxLen ∧ ∀ x ∈ y.f2, Opens.I64 x)) y) ∧ Kd.C k88 W A l.length l := by
    obtain ⟨a, len, cap, rfl⟩ := okWide_slice Try.underlying47 (hval 0 47 v0 rfl rfl)
    obtain ⟨m, hm⟩ := k0
    obtain ⟨A, c, l, he, h1, h2, h3, h4⟩ := Opens.slice_form Try.underlying47 (by kernel_rfl) opens88 hm
    simp only [Value.cells, List.cons.injEq, Value.slice.injEq, and_true] at he
    obtain ⟨rfl, rfl, rfl⟩ := he
    exact ⟨_, _, l, rfl, h1, h2, h3, h4⟩
  clear hA0 hval0 hval
  obtain ⟨k, hk⟩ := Pure.FnExactAreTents l0 hm0 hg0
  refine (PFnExactAreTents.laws_FnExactAreTents.calls k A0 c0 l0 true W hr0 hc0 hk).mono fun e W' ⟨he, bel⟩ => ?_
  subst he
  exact ⟨_, rfl, _, _, _, [], _, [], hW', trodAll_mk1 (shut_bool Try.underlying4 _), (trodAll_cons_mk (Below.trod laidOut (by kernel_rfl) (of_decide_eq_true (by kernel_rfl)) k0 bel lt0) trodAll_mk0), rfl, bel.frame _, fun h => by cases h⟩
theorem over : Rows.fnExactAreTentsRow.holds Try.pinned (OpenSpec.ofChange Rows.fnExactAreTentsSpec) :=
  OpenClaim.holds_of_wide 8 Try.f8 rfl rfl rfl rfl rfl rfl rfl ⟨rfl, rfl, rfl, rfl, rfl⟩ rfl rfl rfl rfl rfl (by kernel_rfl) Try.func8 (by kernel_rfl)
    (of_decide_eq_true (by kernel_rfl)) (by unfold Func.isWrapper; first | (rw [if_pos (by decide +kernel)]; kernel_rfl) | (rw [if_neg (by decide +kernel)]; exact ⟨rfl, rfl⟩))
    (fun os started H enc _ => lifted os started H enc)
theorem proved : Rows.FnExactAreTentsSaid := over
end Go.Proofs.Ytdjdkngpbgobfaa.fnExactAreTents
namespace Go.Proofs.Ytdjdkngpbgobfaa
/-- The row, under a short name, for the claim. -/
theorem fnExactAreTents_holds : Rows.FnExactAreTentsSaid := fnExactAreTents.proved
end Go.Proofs.Ytdjdkngpbgobfaa
