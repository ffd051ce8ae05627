/- FnExactThatKeep, for every input: the statement as it is given, over the contract of the law and the pure theorem Pure.FnExactThatKeep. No condition. -/
import Derived.Test.YtmflebjcnndbpaaRows
import Derived.Test.YtmflebjcnndbpaaSFnExactThatKeepx5
import Derived.Test.YtmflebjcnndbpaaPureFnExactThatKeep
import Derived.Test.YtmflebjcnndbpaaOpens
import Derived.WalkKit
import Derived.ProofKit
import Derived.OpenShut
import Derived.ShutString
import Derived.ChangeOld
import Derived.Below
import Derived.SizedLaws
namespace Go.Proofs.Ytmflebjcnndbpaa.fnExactThatKeep
open Go.ChangeShapes Go.WideShapes Go.ChangeAt Go.RowKit Go.Proofs.YtmflebjcnndbpaaW.PrintWords Go.Proofs.Ytmflebjcnndbpaa.PFnExactThatKeep
set_option linter.unusedVariables false
theorem own : ownKnob Try.prog.godebug = none := by kernel_rfl
theorem laidOut : laidOutB Try.prog = true := by kernel_rfl
set_option maxRecDepth 100000 in
theorem lifted (os : Os) (started : os.Started) (H : Type) (enc : TypeId × Value → H) :
    ReturnsInHanded {} Try.checked os 6 .any (Rows.fnExactThatKeepSpec.pre6 enc Try.prog Try.f6 Rows.fnExactThatKeepRow.domain false) (Rows.fnExactThatKeepSpec.post enc Try.prog Try.f6 false true false false) := by
  refine returnsInHanded_of_change_sized (C := Try.checked) own started (by kernel_rfl) Try.func6
    (ChangeSpec.witness6 (enc := enc) (C := Try.checked) false ⟨#[], #[.agg #[.int .i64 0, .int .i64 0], .slice none 0 0, .slice none 0 0], []⟩ 8 (by kernel_rfl) (by kernel_rfl) (by kernel_rfl) (by kernel_rfl)) ?_
  intro W base args ds gs before hval0 hW hcnd hsz0 _
  clear hsz0
  have hval : ∀ (j : Nat) t v, Try.f6.params[j]? = some t → args[j]? = some v → Value.okWide Try.prog W .any base t v := hval0
  have hW' := hW
  obtain ⟨p, q, hA0, hV, rfl, hfz, hnd⟩ := hW
  have hA : DataW.TrodAll enc Try.prog W 0 (fun _ => true) true Try.f6.params.toList args.toList ds p := hA0
  rw [Try.params6] at hA hval
  obtain ⟨v0, vs0, d0, ds0, p0, q0, hargs, rfl, rfl, h0, r0⟩ := trodAll_cons hA
  obtain ⟨v1, vs1, d1, ds1, p1, q1, rfl, rfl, rfl, h1, r1⟩ := trodAll_cons r0
  obtain ⟨v2, vs2, d2, ds2, p2, q2, rfl, rfl, rfl, h2, r2⟩ := trodAll_cons r1
  obtain ⟨rfl, rfl, rfl⟩ := trodAll_nil r2
  obtain rfl : args = #[v0, v1, v2] := by cases args; simp_all
  obtain ⟨rfl, rfl⟩ := trodVars_none hV
  have k0 := h0
  have lt0 : ∀ x ∈ p0, x.block < W.heap.size := by obtain ⟨m, hm⟩ := k0; exact DataW.trod_lt m _ _ _ hm
  obtain ⟨cs0, rfl, hz0⟩ := okWide_struct Try.underlying23 (hval 0 23 v0 rfl rfl)
  have hz0_ : cs0.toList.length = 2 := by rw [Array.length_toList, hz0]; kernel_rfl
  obtain ⟨b0_0, b0_1, hl0⟩ := Opens.list2 hz0_
  obtain rfl : cs0 = #[b0_0, b0_1] := by rw [← Array.toList_inj, hl0]
  clear hl0 hz0 hz0_
  obtain ⟨m0_0, x0_0, hx0_0⟩ : ∃ m x, DataW.trod enc Try.prog W 0 (fun _ => true) true m 3 [b0_0] = some x := by
    obtain ⟨m, hm⟩ := k0
    exact Opens.field_open Try.underlying23 hm 0 _ rfl 1 (by kernel_rfl)
  obtain ⟨a0_0, rfl, g0_0⟩ : ∃ n, b0_0 = .int .i64 n ∧ Opens.I64 n := by
    obtain ⟨n, he, _, hw⟩ := DataW.trod_int Try.underlying3 hx0_0
    simp only [List.cons.injEq, and_true] at he
    exact ⟨n, he, Opens.i64_of_wf hw⟩
  clear hx0_0
  obtain ⟨m0_1, x0_1, hx0_1⟩ : ∃ m x, DataW.trod enc Try.prog W 0 (fun _ => true) true m 3 [b0_1] = some x := by
    obtain ⟨m, hm⟩ := k0
    exact Opens.field_open Try.underlying23 hm 1 _ rfl 1 (by kernel_rfl)
  obtain ⟨a0_1, rfl, g0_1⟩ : ∃ n, b0_1 = .int .i64 n ∧ Opens.I64 n := by
    obtain ⟨n, he, _, hw⟩ := DataW.trod_int Try.underlying3 hx0_1
    simp only [List.cons.injEq, and_true] at he
    exact ⟨n, he, Opens.i64_of_wf hw⟩
  clear hx0_1
  have k1 := h1
  have lt1 : ∀ x ∈ p1, x.block < W.heap.size := by obtain ⟨m, hm⟩ := k1; exact DataW.trod_lt m _ _ _ hm
  obtain ⟨A1, c1, l1, rfl, hc1, hm1, hg1, hr1⟩ : ∃ (A : Option Addr) (c : Nat) (l : List Bool), v1 = .slice A l.length c ∧ l.length ≤ c ∧ l.length ≤ maxLen ∧ (∀ y ∈ l, (fun y => True) y) ∧ Kd.C Kd.bool W A l.length l := by
    obtain ⟨a, len, cap, rfl⟩ := okWide_slice Try.underlying24 (hval 1 24 v1 rfl rfl)
    obtain ⟨m, hm⟩ := k1
    obtain ⟨A, c, l, he, i1_, i2_, i3_, i4_⟩ := Opens.slice_form Try.underlying24 (by kernel_rfl) (Opens.opens_bool Try.underlying4) hm
    simp only [Value.cells, List.cons.injEq, Value.slice.injEq, and_true] at he
    obtain ⟨rfl, rfl, rfl⟩ := he
    exact ⟨_, _, l, rfl, i1_, i2_, i3_, i4_⟩
  have k2 := h2
  have lt2 : ∀ x ∈ p2, x.block < W.heap.size := by obtain ⟨m, hm⟩ := k2; exact DataW.trod_lt m _ _ _ hm
  obtain ⟨A2, c2, l2, rfl, hc2, hm2, hg2, hr2⟩ : ∃ (A : Option Addr) (c : Nat) (l : List (List Bool)), v2 = .slice A l.length c ∧ l.length ≤ c ∧ l.length ≤ maxLen ∧ (∀ y ∈ l, (fun y => y.length ≤ maxLen ∧ ∀ x ∈ y, True) y) ∧ Kd.C (Kd.slice 4 Kd.bool) W A l.length l := by
    obtain ⟨a, len, cap, rfl⟩ := okWide_slice Try.underlying33 (hval 2 33 v2 rfl rfl)
    obtain ⟨m, hm⟩ := k2
    obtain ⟨A, c, l, he, i1_, i2_, i3_, i4_⟩ := Opens.slice_form Try.underlying33 (by kernel_rfl) (Opens.opens_slice 4 Try.underlying24 (by kernel_rfl) (Opens.opens_bool Try.underlying4)) hm
    simp only [Value.cells, List.cons.injEq, Value.slice.injEq, and_true] at he
    obtain ⟨rfl, rfl, rfl⟩ := he
    exact ⟨_, _, l, rfl, i1_, i2_, i3_, i4_⟩
  clear hA0 hval0 hval
  obtain ⟨k, hk⟩ := Pure.FnExactThatKeep a0_0 a0_1 l1 l2 g0_0 g0_1 hm1 hg1 hm2 hg2
  refine (PFnExactThatKeep.laws_FnExactThatKeep.calls k a0_0 a0_1 A1 c1 l1 A2 c2 l2 true W hr1 hc1 hr2 hc2 hk).mono fun e W' ⟨he, bel⟩ => ?_
  subst he
  exact ⟨_, rfl, _, _, _, [], _, [], hW', trodAll_mk1 (shut_bool Try.underlying4 _), (trodAll_cons_mk (Below.trod laidOut (by kernel_rfl) (of_decide_eq_true (by kernel_rfl)) k0 bel lt0) (trodAll_cons_mk (Below.trod laidOut (by kernel_rfl) (of_decide_eq_true (by kernel_rfl)) k1 bel lt1) (trodAll_cons_mk (Below.trod laidOut (by kernel_rfl) (of_decide_eq_true (by kernel_rfl)) k2 bel lt2) trodAll_mk0))), rfl, bel.frame _, fun h => by cases h⟩
theorem over : Rows.fnExactThatKeepRow.holds Try.pinned (OpenSpec.ofChange Rows.fnExactThatKeepSpec) :=
  OpenClaim.holds_of_wide 6 Try.f6 rfl rfl rfl rfl rfl rfl rfl ⟨rfl, rfl, rfl, rfl, rfl⟩ rfl rfl rfl rfl rfl (by kernel_rfl) Try.func6 (by kernel_rfl)
    (of_decide_eq_true (by kernel_rfl)) (by unfold Func.isWrapper; first | (rw [if_pos (by decide +kernel)]; kernel_rfl) | (rw [if_neg (by decide +kernel)]; exact ⟨rfl, rfl⟩))
    (fun os started H enc _ => lifted os started H enc)
theorem proved : Rows.FnExactThatKeepSaid := over
end Go.Proofs.Ytmflebjcnndbpaa.fnExactThatKeep
namespace Go.Proofs.Ytmflebjcnndbpaa
/-- The row, under a short name, for the claim. -/
theorem fnExactThatKeep_holds : Rows.FnExactThatKeepSaid := fnExactThatKeep.proved
end Go.Proofs.Ytmflebjcnndbpaa
