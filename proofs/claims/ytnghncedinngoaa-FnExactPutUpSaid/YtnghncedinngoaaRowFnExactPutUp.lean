/- FnExactPutUp, for every input: the statement as it is given, over the contract of the law and the pure theorem Pure.FnExactPutUp. No condition. -/
import Derived.Test.YtnghncedinngoaaRows
import Derived.Test.YtnghncedinngoaaSFnExactPutUpx13
import Derived.Test.YtnghncedinngoaaPureFnExactPutUp
import Derived.Test.YtnghncedinngoaaOpens
import Derived.WalkKit
import Derived.ProofKit
import Derived.OpenShut
import Derived.ShutString
import Derived.ChangeOld
import Derived.Below
import Derived.SizedLaws
namespace Go.Proofs.Ytnghncedinngoaa.fnExactPutUp
open Go.ChangeShapes Go.WideShapes Go.ChangeAt Go.RowKit Go.Proofs.YtnghncedinngoaaW.PrintWords Go.Proofs.Ytnghncedinngoaa.PFnExactPutUp
set_option linter.unusedVariables false
theorem own : ownKnob Try.prog.godebug = none := by kernel_rfl
theorem laidOut : laidOutB Try.prog = true := by kernel_rfl
theorem opens53 : Opens.Opens Try.prog 53 k53 (fun y => Opens.I64 y.f0 ∧ Opens.I64 y.f1 ∧ (y.f2.length ≤ maxLen ∧ ∀ x ∈ y.f2, Opens.I64 x)) :=
  Opens.opens_iso (Opens.opens_struct Try.underlying53 (by kernel_rfl) (Opens.opensF_cons (Opens.opens_int Try.underlying3) rfl (by kernel_rfl) (Opens.opensF_cons (Opens.opens_int Try.underlying3) rfl (by kernel_rfl) (Opens.opensF_one (Opens.opens_slice 3 Try.underlying43 (by kernel_rfl) (Opens.opens_int Try.underlying3)) rfl (by kernel_rfl))))) _ (fun p => ⟨p.1, p.2.1, p.2.2⟩) (fun _ => rfl)
theorem opens60 : Opens.Opens Try.prog 60 k60 (fun y => Opens.I64 y.f0 ∧ Opens.I64 y.f1 ∧ Opens.I64 y.f2 ∧ True) :=
  Opens.opens_iso (Opens.opens_struct Try.underlying60 (by kernel_rfl) (Opens.opensF_cons (Opens.opens_int Try.underlying3) rfl (by kernel_rfl) (Opens.opensF_cons (Opens.opens_int Try.underlying3) rfl (by kernel_rfl) (Opens.opensF_cons (Opens.opens_int Try.underlying3) rfl (by kernel_rfl) (Opens.opensF_one (Opens.opens_bool Try.underlying4) rfl (by kernel_rfl)))))) _ (fun p => ⟨p.1, p.2.1, p.2.2.1, p.2.2.2⟩) (fun _ => rfl)
set_option maxRecDepth 100000 in
theorem lifted (os : Os) (started : os.Started) (H : Type) (enc : TypeId × Value → H) :
    ReturnsInHanded {} Try.checked os 4 .any (Rows.fnExactPutUpSpec.pre6 enc Try.prog Try.f4 Rows.fnExactPutUpRow.domain false) (Rows.fnExactPutUpSpec.post enc Try.prog Try.f4 false true false false) := by
  refine returnsInHanded_of_change_sized (C := Try.checked) own started (by kernel_rfl) Try.func4
    (ChangeSpec.witness6 (enc := enc) (C := Try.checked) false ⟨#[], #[.slice none 0 0, .slice none 0 0], []⟩ 8 (by kernel_rfl) (by kernel_rfl) (by kernel_rfl) (by kernel_rfl)) ?_
  intro W base args ds gs before hval0 hW hcnd hsz0 _
  clear hsz0
  have hval : ∀ (j : Nat) t v, Try.f4.params[j]? = some t → args[j]? = some v → Value.okWide Try.prog W .any base t v := hval0
  have hW' := hW
  obtain ⟨p, q, hA0, hV, rfl, hfz, hnd⟩ := hW
  have hA : DataW.TrodAll enc Try.prog W 0 (fun _ => true) true Try.f4.params.toList args.toList ds p := hA0
  rw [Try.params4] at hA hval
  obtain ⟨v0, vs0, d0, ds0, p0, q0, hargs, rfl, rfl, h0, r0⟩ := trodAll_cons hA
  obtain ⟨v1, vs1, d1, ds1, p1, q1, rfl, rfl, rfl, h1, r1⟩ := trodAll_cons r0
  obtain ⟨rfl, rfl, rfl⟩ := trodAll_nil r1
  obtain rfl : args = #[v0, v1] := by cases args; simp_all
  obtain ⟨rfl, rfl⟩ := trodVars_none hV
  have k0 := h0
  have lt0 : ∀ x ∈ p0, x.block < W.heap.size := by obtain ⟨m, hm⟩ := k0; exact DataW.trod_lt m _ _ _ hm
  obtain ⟨A0, c0, l0, rfl, hc0, hm0, hg0, hr0⟩ : ∃ (A : Option Addr) (c : Nat) (l : List S53), v0 = .slice A l.length c ∧ l.length ≤ c ∧ l.length ≤ maxLen ∧ (∀ y ∈ l, (fun y => Opens.I64 y.f0 ∧ Opens.I64 y.f1 ∧ (y.f2.length ≤ maxLen ∧ ∀ x ∈ y.f2, Opens.I64 x)) y) ∧ Kd.C k53 W A l.length l := by
    obtain ⟨a, len, cap, rfl⟩ := okWide_slice Try.underlying22 (hval 0 22 v0 rfl rfl)
    obtain ⟨m, hm⟩ := k0
    obtain ⟨A, c, l, he, i1_, i2_, i3_, i4_⟩ := Opens.slice_form Try.underlying22 (by kernel_rfl) opens53 hm
    simp only [Value.cells, List.cons.injEq, Value.slice.injEq, and_true] at he
    obtain ⟨rfl, rfl, rfl⟩ := he
    exact ⟨_, _, l, rfl, i1_, i2_, i3_, i4_⟩
  have k1 := h1
  have lt1 : ∀ x ∈ p1, x.block < W.heap.size := by obtain ⟨m, hm⟩ := k1; exact DataW.trod_lt m _ _ _ hm
  obtain ⟨A1, c1, l1, rfl, hc1, hm1, hg1, hr1⟩ : ∃ (A : Option Addr) (c : Nat) (l : List S60), v1 = .slice A l.length c ∧ l.length ≤ c ∧ l.length ≤ maxLen ∧ (∀ y ∈ l, (fun y => Opens.I64 y.f0 ∧ Opens.I64 y.f1 ∧ Opens.I64 y.f2 ∧ True) y) ∧ Kd.C k60 W A l.length l := by
    obtain ⟨a, len, cap, rfl⟩ := okWide_slice Try.underlying31 (hval 1 31 v1 rfl rfl)
    obtain ⟨m, hm⟩ := k1
    obtain ⟨A, c, l, he, i1_, i2_, i3_, i4_⟩ := Opens.slice_form Try.underlying31 (by kernel_rfl) opens60 hm
    simp only [Value.cells, List.cons.injEq, Value.slice.injEq, and_true] at he
    obtain ⟨rfl, rfl, rfl⟩ := he
    exact ⟨_, _, l, rfl, i1_, i2_, i3_, i4_⟩
  clear hA0 hval0 hval
  obtain ⟨k, hk⟩ := Pure.FnExactPutUp l0 l1 hm0 hg0 hm1 hg1
  refine (PFnExactPutUp.laws_FnExactPutUp.calls k A0 c0 l0 A1 c1 l1 true W hr0 hc0 hr1 hc1 hk).mono fun e W' ⟨he, bel⟩ => ?_
  subst he
  exact ⟨_, rfl, _, _, _, [], _, [], hW', trodAll_mk1 (shut_bool Try.underlying4 _), (trodAll_cons_mk (Below.trod laidOut (by kernel_rfl) (of_decide_eq_true (by kernel_rfl)) k0 bel lt0) (trodAll_cons_mk (Below.trod laidOut (by kernel_rfl) (of_decide_eq_true (by kernel_rfl)) k1 bel lt1) trodAll_mk0)), rfl, bel.frame _, fun h => by cases h⟩
theorem over : Rows.fnExactPutUpRow.holds Try.pinned (OpenSpec.ofChange Rows.fnExactPutUpSpec) :=
  OpenClaim.holds_of_wide 4 Try.f4 rfl rfl rfl rfl rfl rfl rfl ⟨rfl, rfl, rfl, rfl, rfl⟩ rfl rfl rfl rfl rfl (by kernel_rfl) Try.func4 (by kernel_rfl)
    (of_decide_eq_true (by kernel_rfl)) (by unfold Func.isWrapper; first | (rw [if_pos (by decide +kernel)]; kernel_rfl) | (rw [if_neg (by decide +kernel)]; exact ⟨rfl, rfl⟩))
    (fun os started H enc _ => lifted os started H enc)
theorem proved : Rows.FnExactPutUpSaid := over
end Go.Proofs.Ytnghncedinngoaa.fnExactPutUp
namespace Go.Proofs.Ytnghncedinngoaa
/-- The row, under a short name, for the claim. -/
theorem fnExactPutUp_holds : Rows.FnExactPutUpSaid := fnExactPutUp.proved
end Go.Proofs.Ytnghncedinngoaa
