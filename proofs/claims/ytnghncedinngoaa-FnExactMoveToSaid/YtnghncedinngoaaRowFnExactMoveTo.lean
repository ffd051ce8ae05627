/- FnExactMoveTo, for every input: the statement as it is given, over the contract of the law and the pure theorem Pure.FnExactMoveTo. No condition. -/
import Derived.Test.YtnghncedinngoaaRows
import Derived.Test.YtnghncedinngoaaSFnExactMoveTox10
import Derived.Test.YtnghncedinngoaaPureFnExactMoveTo
import Derived.Test.YtnghncedinngoaaOpens
import Derived.WalkKit
import Derived.ProofKit
import Derived.OpenShut
import Derived.ShutString
import Derived.ChangeOld
import Derived.Below
import Derived.SizedLaws
namespace Go.Proofs.Ytnghncedinngoaa.fnExactMoveTo
open Go.ChangeShapes Go.WideShapes Go.ChangeAt Go.RowKit Go.Proofs.YtnghncedinngoaaW.PrintWords Go.Proofs.Ytnghncedinngoaa.PFnExactMoveTo
set_option linter.unusedVariables false
theorem own : ownKnob Try.prog.godebug = none := by kernel_rfl
theorem laidOut : laidOutB Try.prog = true := by kernel_rfl
theorem opens53 : Opens.Opens Try.prog 53 k53 (fun y => Opens.I64 y.f0 ∧ Opens.I64 y.f1 ∧ (y.f2.length ≤ maxLen ∧ ∀ x ∈ y.f2, Opens.I64 x)) :=
  Opens.opens_iso (Opens.opens_struct Try.underlying53 (by kernel_rfl) (Opens.opensF_cons (Opens.opens_int Try.underlying3) rfl (by kernel_rfl) (Opens.opensF_cons (Opens.opens_int Try.underlying3) rfl (by kernel_rfl) (Opens.opensF_one (Opens.opens_slice 3 Try.underlying43 (by kernel_rfl) (Opens.opens_int Try.underlying3)) rfl (by kernel_rfl))))) _ (fun p => ⟨p.1, p.2.1, p.2.2⟩) (fun _ => rfl)
set_option maxRecDepth 100000 in
theorem lifted (os : Os) (started : os.Started) (H : Type) (enc : TypeId × Value → H) :
    ReturnsInHanded {} Try.checked os 3 .any (Rows.fnExactMoveToSpec.pre6 enc Try.prog Try.f3 Rows.fnExactMoveToRow.domain false) (Rows.fnExactMoveToSpec.post enc Try.prog Try.f3 false true false false) := by
  refine returnsInHanded_of_change_sized (C := Try.checked) own started (by kernel_rfl) Try.func3
    (ChangeSpec.witness6 (enc := enc) (C := Try.checked) false ⟨#[], #[.slice none 0 0, .int .i64 0, .int .i64 0], []⟩ 8 (by kernel_rfl) (by kernel_rfl) (by kernel_rfl) (by kernel_rfl)) ?_
  intro W base args ds gs before hval0 hW hcnd hsz0 _
  clear hsz0
  have hval : ∀ (j : Nat) t v, Try.f3.params[j]? = some t → args[j]? = some v → Value.okWide Try.prog W .any base t v := hval0
  have hW' := hW
  obtain ⟨p, q, hA0, hV, rfl, hfz, hnd⟩ := hW
  have hA : DataW.TrodAll enc Try.prog W 0 (fun _ => true) true Try.f3.params.toList args.toList ds p := hA0
  rw [Try.params3] at hA hval
  obtain ⟨v0, vs0, d0, ds0, p0, q0, hargs, rfl, rfl, h0, r0⟩ := trodAll_cons hA
  obtain ⟨v1, vs1, d1, ds1, p1, q1, rfl, rfl, rfl, h1, r1⟩ := trodAll_cons r0
  obtain ⟨v2, vs2, d2, ds2, p2, q2, rfl, rfl, rfl, h2, r2⟩ := trodAll_cons r1
  obtain ⟨rfl, rfl, rfl⟩ := trodAll_nil r2
  obtain rfl : args = #[v0, v1, v2] := by cases args; simp_all
  obtain ⟨rfl, rfl⟩ := trodVars_none hV
  have k0 := h0
  have lt0 : ∀ x ∈ p0, x.block < W.heap.size := by obtain ⟨m, hm⟩ := k0; exact DataW.trod_lt m _ _ _ hm
  obtain ⟨A0, c0, l0, rfl, hc0, hm0, hg0, hr0⟩ : ∃ (A : Option Addr) (c : Nat) (l : List S53), v0 = .slice A l.length c ∧ l.length ≤ c ∧ l.length ≤ maxLen ∧ (∀ y ∈ l, (fun y => Opens.I64 y.f0 ∧ Opens.I64 y.f1 ∧ (y.f2.length ≤ maxLen ∧ ∀ x ∈ y.f2, Opens.I64 x)) y) ∧ Kd.C k53 W A l.length l := by
    obtain ⟨a, len, cap, rfl⟩ := okWide_slice Try.underlying22 (hval 0 22 v0 rfl rfl)
    obtain ⟨m, hm⟩ := k0
    obtain ⟨A, c, l, he, i1_, i2_, i3_, i4_⟩ := Opens.slice_form Try.underlying22 (by kernel_rfl) opens53 hm
    simp only [Value.cells, List.cons.injEq, Value.slice.injEq, and_true] at he
    obtain ⟨rfl, rfl, rfl⟩ := he
    exact ⟨_, _, l, rfl, i1_, i2_, i3_, i4_⟩
  have k1 := h1
  have lt1 : ∀ x ∈ p1, x.block < W.heap.size := by obtain ⟨m, hm⟩ := k1; exact DataW.trod_lt m _ _ _ hm
  obtain ⟨a1, rfl⟩ := okWide_int Try.underlying3 (hval 1 3 v1 rfl rfl)
  have g1 : Opens.I64 a1 := by
    obtain ⟨m, hm⟩ := k1
    obtain ⟨n, he, _, hw⟩ := DataW.trod_int Try.underlying3 hm
    simp only [Value.cells, List.cons.injEq, Value.int.injEq, true_and, and_true] at he
    exact he ▸ Opens.i64_of_wf hw
  have k2 := h2
  have lt2 : ∀ x ∈ p2, x.block < W.heap.size := by obtain ⟨m, hm⟩ := k2; exact DataW.trod_lt m _ _ _ hm
  obtain ⟨a2, rfl⟩ := okWide_int Try.underlying3 (hval 2 3 v2 rfl rfl)
  have g2 : Opens.I64 a2 := by
    obtain ⟨m, hm⟩ := k2
    obtain ⟨n, he, _, hw⟩ := DataW.trod_int Try.underlying3 hm
    simp only [Value.cells, List.cons.injEq, Value.int.injEq, true_and, and_true] at he
    exact he ▸ Opens.i64_of_wf hw
  clear hA0 hval0 hval
  obtain ⟨k, hk⟩ := Pure.FnExactMoveTo l0 a1 a2 hm0 hg0 g1 g2
  refine (PFnExactMoveTo.laws_FnExactMoveTo.calls k A0 c0 l0 a1 a2 true W hr0 hc0 hk).mono fun e W' ⟨he, bel⟩ => ?_
  subst he
  exact ⟨_, rfl, _, _, _, [], _, [], hW', trodAll_mk1 (shut_bool Try.underlying4 _), (trodAll_cons_mk (Below.trod laidOut (by kernel_rfl) (of_decide_eq_true (by kernel_rfl)) k0 bel lt0) (trodAll_cons_mk (Below.trod laidOut (by kernel_rfl) (of_decide_eq_true (by kernel_rfl)) k1 bel lt1) (trodAll_cons_mk (Below.trod laidOut (by kernel_rfl) (of_decide_eq_true (by kernel_rfl)) k2 bel lt2) trodAll_mk0))), rfl, bel.frame _, fun h => by cases h⟩
theorem over : Rows.fnExactMoveToRow.holds Try.pinned (OpenSpec.ofChange Rows.fnExactMoveToSpec) :=
  OpenClaim.holds_of_wide 3 Try.f3 rfl rfl rfl rfl rfl rfl rfl ⟨rfl, rfl, rfl, rfl, rfl⟩ rfl rfl rfl rfl rfl (by kernel_rfl) Try.func3 (by kernel_rfl)
    (of_decide_eq_true (by kernel_rfl)) (by unfold Func.isWrapper; first | (rw [if_pos (by decide +kernel)]; kernel_rfl) | (rw [if_neg (by decide +kernel)]; exact ⟨rfl, rfl⟩))
    (fun os started H enc _ => lifted os started H enc)
theorem proved : Rows.FnExactMoveToSaid := over
end Go.Proofs.Ytnghncedinngoaa.fnExactMoveTo
namespace Go.Proofs.Ytnghncedinngoaa
/-- The row, under a short name, for the claim. -/
theorem fnExactMoveTo_holds : Rows.FnExactMoveToSaid := fnExactMoveTo.proved
end Go.Proofs.Ytnghncedinngoaa
