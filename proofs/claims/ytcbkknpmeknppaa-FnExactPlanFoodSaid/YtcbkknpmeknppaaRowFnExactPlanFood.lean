/- FnExactPlanFood, for every input: the statement as it is given, over the contract of the law and the pure theorem Pure.FnExactPlanFood. No condition. -/
import Derived.Test.YtcbkknpmeknppaaRows
import Derived.Test.YtcbkknpmeknppaaSFnExactPlanFoodx20
import Derived.Test.YtcbkknpmeknppaaPureFnExactPlanFood
import Derived.Test.YtcbkknpmeknppaaOpens
import Derived.WalkKit
import Derived.ProofKit
import Derived.OpenShut
import Derived.ShutString
import Derived.ChangeOld
import Derived.Below
import Derived.SizedLaws
namespace Go.Proofs.Ytcbkknpmeknppaa.fnExactPlanFood
open Go.ChangeShapes Go.WideShapes Go.ChangeAt Go.RowKit Go.Proofs.YtcbkknpmeknppaaW.PrintWords Go.Proofs.Ytcbkknpmeknppaa.PFnExactPlanFood
set_option linter.unusedVariables false
theorem own : ownKnob Try.prog.godebug = none := by kernel_rfl
theorem laidOut : laidOutB Try.prog = true := by kernel_rfl
theorem opens130 : Opens.Opens Try.prog 130 k130 (fun y => Opens.I64 y.f0 ∧ Opens.I64 y.f1) :=
  Opens.opens_iso (Opens.opens_struct Try.underlying130 (by kernel_rfl) (Opens.opensF_cons (Opens.opens_int Try.underlying3) rfl (by kernel_rfl) (Opens.opensF_one (Opens.opens_int Try.underlying3) rfl (by kernel_rfl)))) _ (fun p => ⟨p.1, p.2⟩) (fun _ => rfl)
theorem opens152 : Opens.Opens Try.prog 152 k152 (fun y => Opens.I64 y.f0 ∧ Opens.I64 y.f1 ∧ Opens.I64 y.f2 ∧ True) :=
  Opens.opens_iso (Opens.opens_struct Try.underlying152 (by kernel_rfl) (Opens.opensF_cons (Opens.opens_int Try.underlying3) rfl (by kernel_rfl) (Opens.opensF_cons (Opens.opens_int Try.underlying3) rfl (by kernel_rfl) (Opens.opensF_cons (Opens.opens_int Try.underlying3) rfl (by kernel_rfl) (Opens.opensF_one (Opens.opens_bool Try.underlying4) rfl (by kernel_rfl)))))) _ (fun p => ⟨p.1, p.2.1, p.2.2.1, p.2.2.2⟩) (fun _ => rfl)
set_option maxRecDepth 100000 in
theorem lifted (os : Os) (started : os.Started) (H : Type) (enc : TypeId × Value → H) :
    ReturnsInHanded {} Try.checked os 10 .any (Rows.fnExactPlanFoodSpec.pre6 enc Try.prog Try.f10 Rows.fnExactPlanFoodRow.domain false) (Rows.fnExactPlanFoodSpec.post enc Try.prog Try.f10 false true false false) := by
  refine returnsInHanded_of_change_sized (C := Try.checked) own started (by kernel_rfl) Try.func10
    (ChangeSpec.witness6 (enc := enc) (C := Try.checked) false ⟨#[], #[.agg #[.int .i64 0, .int .i64 0, .slice none 0 0], .int .i64 0, .slice none 0 0, .agg #[.int .i64 0, .int .i64 0], .agg #[.int .i64 0, .int .i64 0, .slice none 0 0, .slice none 0 0]], []⟩ 8 (by kernel_rfl) (by kernel_rfl) (by kernel_rfl) (by kernel_rfl)) ?_
  intro W base args ds gs before hval0 hW hcnd hsz0 _
  clear hsz0
  have hval : ∀ (j : Nat) t v, Try.f10.params[j]? = some t → args[j]? = some v → Value.okWide Try.prog W .any base t v := hval0
  have hW' := hW
  obtain ⟨p, q, hA0, hV, rfl, hfz, hnd⟩ := hW
  have hA : DataW.TrodAll enc Try.prog W 0 (fun _ => true) true Try.f10.params.toList args.toList ds p := hA0
  rw [Try.params10] at hA hval
  obtain ⟨v0, vs0, d0, ds0, p0, q0, hargs, rfl, rfl, h0, r0⟩ := trodAll_cons hA
  obtain ⟨v1, vs1, d1, ds1, p1, q1, rfl, rfl, rfl, h1, r1⟩ := trodAll_cons r0
  obtain ⟨v2, vs2, d2, ds2, p2, q2, rfl, rfl, rfl, h2, r2⟩ := trodAll_cons r1
  obtain ⟨v3, vs3, d3, ds3, p3, q3, rfl, rfl, rfl, h3, r3⟩ := trodAll_cons r2
  obtain ⟨v4, vs4, d4, ds4, p4, q4, rfl, rfl, rfl, h4, r4⟩ := trodAll_cons r3
  obtain ⟨rfl, rfl, rfl⟩ := trodAll_nil r4
  obtain rfl : args = #[v0, v1, v2, v3, v4] := by cases args; simp_all
  obtain ⟨rfl, rfl⟩ := trodVars_none hV
  have k0 := h0
  have lt0 : ∀ x ∈ p0, x.block < W.heap.size := by obtain ⟨m, hm⟩ := k0; exact DataW.trod_lt m _ _ _ hm
  obtain ⟨cs0, rfl, hz0⟩ := okWide_struct Try.underlying81 (hval 0 81 v0 rfl rfl)
  have hz0_ : cs0.toList.length = 3 := by rw [Array.length_toList, hz0]; kernel_rfl
  obtain ⟨b0_0, b0_1, b0_2, hl0⟩ := Opens.list3 hz0_
  obtain rfl : cs0 = #[b0_0, b0_1, b0_2] := by rw [← Array.toList_inj, hl0]
  clear hl0 hz0 hz0_
  obtain ⟨m0_0, x0_0, hx0_0⟩ : ∃ m x, DataW.trod enc Try.prog W 0 (fun _ => true) true m 3 [b0_0] = some x := by
    obtain ⟨m, hm⟩ := k0
    exact Opens.field_open Try.underlying81 hm 0 _ rfl 1 (by kernel_rfl)
  obtain ⟨a0_0, rfl, g0_0⟩ : ∃ n, b0_0 = .int .i64 n ∧ Opens.I64 n := by
    obtain ⟨n, he, _, hw⟩ := DataW.trod_int Try.underlying3 hx0_0
    simp only [List.cons.injEq, and_true] at he
    exact ⟨n, he, Opens.i64_of_wf hw⟩
  clear hx0_0
  obtain ⟨m0_1, x0_1, hx0_1⟩ : ∃ m x, DataW.trod enc Try.prog W 0 (fun _ => true) true m 3 [b0_1] = some x := by
    obtain ⟨m, hm⟩ := k0
    exact Opens.field_open Try.underlying81 hm 1 _ rfl 1 (by kernel_rfl)
  obtain ⟨a0_1, rfl, g0_1⟩ : ∃ n, b0_1 = .int .i64 n ∧ Opens.I64 n := by
    obtain ⟨n, he, _, hw⟩ := DataW.trod_int Try.underlying3 hx0_1
    simp only [List.cons.injEq, and_true] at he
    exact ⟨n, he, Opens.i64_of_wf hw⟩
  clear hx0_1
  obtain ⟨m0_2, x0_2, hx0_2⟩ : ∃ m x, DataW.trod enc Try.prog W 0 (fun _ => true) true m 49 [b0_2] = some x := by
    obtain ⟨m, hm⟩ := k0
    exact Opens.field_open Try.underlying81 hm 2 _ rfl 1 (by kernel_rfl)
  obtain ⟨A0_2, c0_2, l0_2, rfl, hc0_2, hm0_2, hg0_2, hr0_2⟩ : ∃ (A : Option Addr) (c : Nat) (l : List Int), b0_2 = .slice A l.length c ∧ l.length ≤ c ∧ l.length ≤ maxLen ∧ (∀ y ∈ l, Opens.I64 y) ∧ Kd.C (Kd.int .i64) W A l.length l := by
    obtain ⟨A, c, l, he, i1_, i2_, i3_, i4_⟩ := Opens.slice_form Try.underlying49 (by kernel_rfl) (Opens.opens_int Try.underlying3) hx0_2
    simp only [List.cons.injEq, and_true] at he
    exact ⟨A, c, l, he, i1_, i2_, i3_, i4_⟩
  clear hx0_2
  have k1 := h1
  have lt1 : ∀ x ∈ p1, x.block < W.heap.size := by obtain ⟨m, hm⟩ := k1; exact DataW.trod_lt m _ _ _ hm
  obtain ⟨a1, rfl⟩ := okWide_int Try.underlying3 (hval 1 3 v1 rfl rfl)
  have g1 : Opens.I64 a1 := by
    obtain ⟨m, hm⟩ := k1
    obtain ⟨n, he, _, hw⟩ := DataW.trod_int Try.underlying3 hm
    simp only [Value.cells, List.cons.injEq, Value.int.injEq, true_and, and_true] at he
    exact he ▸ Opens.i64_of_wf hw
  have k2 := h2
  have lt2 : ∀ x ∈ p2, x.block < W.heap.size := by obtain ⟨m, hm⟩ := k2; exact DataW.trod_lt m _ _ _ hm
  obtain ⟨A2, c2, l2, rfl, hc2, hm2, hg2, hr2⟩ : ∃ (A : Option Addr) (c : Nat) (l : List S130), v2 = .slice A l.length c ∧ l.length ≤ c ∧ l.length ≤ maxLen ∧ (∀ y ∈ l, (fun y => Opens.I64 y.f0 ∧ Opens.I64 y.f1) y) ∧ Kd.C k130 W A l.length l := by
    obtain ⟨a, len, cap, rfl⟩ := okWide_slice Try.underlying82 (hval 2 82 v2 rfl rfl)
    obtain ⟨m, hm⟩ := k2
    obtain ⟨A, c, l, he, i1_, i2_, i3_, i4_⟩ := Opens.slice_form Try.underlying82 (by kernel_rfl) opens130 hm
    simp only [Value.cells, List.cons.injEq, Value.slice.injEq, and_true] at he
    obtain ⟨rfl, rfl, rfl⟩ := he
    exact ⟨_, _, l, rfl, i1_, i2_, i3_, i4_⟩
  have k3 := h3
  have lt3 : ∀ x ∈ p3, x.block < W.heap.size := by obtain ⟨m, hm⟩ := k3; exact DataW.trod_lt m _ _ _ hm
  obtain ⟨cs3, rfl, hz3⟩ := okWide_struct Try.underlying94 (hval 3 94 v3 rfl rfl)
  have hz3_ : cs3.toList.length = 2 := by rw [Array.length_toList, hz3]; kernel_rfl
  obtain ⟨b3_0, b3_1, hl3⟩ := Opens.list2 hz3_
  obtain rfl : cs3 = #[b3_0, b3_1] := by rw [← Array.toList_inj, hl3]
  clear hl3 hz3 hz3_
  obtain ⟨m3_0, x3_0, hx3_0⟩ : ∃ m x, DataW.trod enc Try.prog W 0 (fun _ => true) true m 3 [b3_0] = some x := by
    obtain ⟨m, hm⟩ := k3
    exact Opens.field_open Try.underlying94 hm 0 _ rfl 1 (by kernel_rfl)
  obtain ⟨a3_0, rfl, g3_0⟩ : ∃ n, b3_0 = .int .i64 n ∧ Opens.I64 n := by
    obtain ⟨n, he, _, hw⟩ := DataW.trod_int Try.underlying3 hx3_0
    simp only [List.cons.injEq, and_true] at he
    exact ⟨n, he, Opens.i64_of_wf hw⟩
  clear hx3_0
  obtain ⟨m3_1, x3_1, hx3_1⟩ : ∃ m x, DataW.trod enc Try.prog W 0 (fun _ => true) true m 3 [b3_1] = some x := by
    obtain ⟨m, hm⟩ := k3
    exact Opens.field_open Try.underlying94 hm 1 _ rfl 1 (by kernel_rfl)
  obtain ⟨a3_1, rfl, g3_1⟩ : ∃ n, b3_1 = .int .i64 n ∧ Opens.I64 n := by
    obtain ⟨n, he, _, hw⟩ := DataW.trod_int Try.underlying3 hx3_1
    simp only [List.cons.injEq, and_true] at he
    exact ⟨n, he, Opens.i64_of_wf hw⟩
  clear hx3_1
  have k4 := h4
  have lt4 : ∀ x ∈ p4, x.block < W.heap.size := by obtain ⟨m, hm⟩ := k4; exact DataW.trod_lt m _ _ _ hm
  obtain ⟨cs4, rfl, hz4⟩ := okWide_struct Try.underlying97 (hval 4 97 v4 rfl rfl)
  have hz4_ : cs4.toList.length = 4 := by rw [Array.length_toList, hz4]; kernel_rfl
  obtain ⟨b4_0, b4_1, b4_2, b4_3, hl4⟩ := Opens.list4 hz4_
  obtain rfl : cs4 = #[b4_0, b4_1, b4_2, b4_3] := by rw [← Array.toList_inj, hl4]
  clear hl4 hz4 hz4_
  obtain ⟨m4_0, x4_0, hx4_0⟩ : ∃ m x, DataW.trod enc Try.prog W 0 (fun _ => true) true m 3 [b4_0] = some x := by
    obtain ⟨m, hm⟩ := k4
    exact Opens.field_open Try.underlying97 hm 0 _ rfl 1 (by kernel_rfl)
  obtain ⟨a4_0, rfl, g4_0⟩ : ∃ n, b4_0 = .int .i64 n ∧ Opens.I64 n := by
    obtain ⟨n, he, _, hw⟩ := DataW.trod_int Try.underlying3 hx4_0
    simp only [List.cons.injEq, and_true] at he
    exact ⟨n, he, Opens.i64_of_wf hw⟩
  clear hx4_0
  obtain ⟨m4_1, x4_1, hx4_1⟩ : ∃ m x, DataW.trod enc Try.prog W 0 (fun _ => true) true m 3 [b4_1] = some x := by
    obtain ⟨m, hm⟩ := k4
    exact Opens.field_open Try.underlying97 hm 1 _ rfl 1 (by kernel_rfl)
  obtain ⟨a4_1, rfl, g4_1⟩ : ∃ n, b4_1 = .int .i64 n ∧ Opens.I64 n := by
    obtain ⟨n, he, _, hw⟩ := DataW.trod_int Try.underlying3 hx4_1
    simp only [List.cons.injEq, and_true] at he
    exact ⟨n, he, Opens.i64_of_wf hw⟩
  clear hx4_1
  obtain ⟨m4_2, x4_2, hx4_2⟩ : ∃ m x, DataW.trod enc Try.prog W 0 (fun _ => true) true m 95 [b4_2] = some x := by
    obtain ⟨m, hm⟩ := k4
    exact Opens.field_open Try.underlying97 hm 2 _ rfl 1 (by kernel_rfl)
  obtain ⟨A4_2, c4_2, l4_2, rfl, hc4_2, hm4_2, hg4_2, hr4_2⟩ : ∃ (A : Option Addr) (c : Nat) (l : List S152), b4_2 = .slice A l.length c ∧ l.length ≤ c ∧ l.length ≤ maxLen ∧ (∀ y ∈ l, (Opens.I64 y.f0 ∧ Opens.I64 y.f1 ∧ Opens.I64 y.f2 ∧ True)) ∧ Kd.C k152 W A l.length l := by
    obtain ⟨A, c, l, he, i1_, i2_, i3_, i4_⟩ := Opens.slice_form Try.underlying95 (by kernel_rfl) opens152 hx4_2
    simp only [List.cons.injEq, and_true] at he
    exact ⟨A, c, l, he, i1_, i2_, i3_, i4_⟩
  clear hx4_2
  obtain ⟨m4_3, x4_3, hx4_3⟩ : ∃ m x, DataW.trod enc Try.prog W 0 (fun _ => true) true m 25 [b4_3] = some x := by
    obtain ⟨m, hm⟩ := k4
    exact Opens.field_open Try.underlying97 hm 3 _ rfl 1 (by kernel_rfl)
  obtain ⟨A4_3, c4_3, l4_3, rfl, hc4_3, hm4_3, hg4_3, hr4_3⟩ : ∃ (A : Option Addr) (c : Nat) (l : List Bool), b4_3 = .slice A l.length c ∧ l.length ≤ c ∧ l.length ≤ maxLen ∧ (∀ y ∈ l, True) ∧ Kd.C Kd.bool W A l.length l := by
    obtain ⟨A, c, l, he, i1_, i2_, i3_, i4_⟩ := Opens.slice_form Try.underlying25 (by kernel_rfl) (Opens.opens_bool Try.underlying4) hx4_3
    simp only [List.cons.injEq, and_true] at he
    exact ⟨A, c, l, he, i1_, i2_, i3_, i4_⟩
  clear hx4_3
  clear hA0 hval0 hval
  obtain ⟨k, hk⟩ := Pure.FnExactPlanFood a0_0 a0_1 l0_2 a1 l2 a3_0 a3_1 a4_0 a4_1 l4_2 l4_3 g0_0 g0_1 hm0_2 hg0_2 g1 hm2 hg2 g3_0 g3_1 g4_0 g4_1 hm4_2 hg4_2 hm4_3 hg4_3
  refine (PFnExactPlanFood.laws_FnExactPlanFood.calls k a0_0 a0_1 A0_2 c0_2 l0_2 a1 A2 c2 l2 a3_0 a3_1 a4_0 a4_1 A4_2 c4_2 l4_2 A4_3 c4_3 l4_3 true W hr0_2 hc0_2 hr2 hc2 hr4_2 hc4_2 hr4_3 hc4_3 hk).mono fun e W' ⟨he, bel⟩ => ?_
  subst he
  exact ⟨_, rfl, _, _, _, [], _, [], hW', trodAll_mk1 (shut_bool Try.underlying4 _), (trodAll_cons_mk (Below.trod laidOut (by kernel_rfl) (of_decide_eq_true (by kernel_rfl)) k0 bel lt0) (trodAll_cons_mk (Below.trod laidOut (by kernel_rfl) (of_decide_eq_true (by kernel_rfl)) k1 bel lt1) (trodAll_cons_mk (Below.trod laidOut (by kernel_rfl) (of_decide_eq_true (by kernel_rfl)) k2 bel lt2) (trodAll_cons_mk (Below.trod laidOut (by kernel_rfl) (of_decide_eq_true (by kernel_rfl)) k3 bel lt3) (trodAll_cons_mk (Below.trod laidOut (by kernel_rfl) (of_decide_eq_true (by kernel_rfl)) k4 bel lt4) trodAll_mk0))))), rfl, bel.frame _, fun h => by cases h⟩
theorem over : Rows.fnExactPlanFoodRow.holds Try.pinned (OpenSpec.ofChange Rows.fnExactPlanFoodSpec) :=
  OpenClaim.holds_of_wide 10 Try.f10 rfl rfl rfl rfl rfl rfl rfl ⟨rfl, rfl, rfl, rfl, rfl⟩ rfl rfl rfl rfl rfl (by kernel_rfl) Try.func10 (by kernel_rfl)
    (of_decide_eq_true (by kernel_rfl)) (by unfold Func.isWrapper; first | (rw [if_pos (by decide +kernel)]; kernel_rfl) | (rw [if_neg (by decide +kernel)]; exact ⟨rfl, rfl⟩))
    (fun os started H enc _ => lifted os started H enc)
theorem proved : Rows.FnExactPlanFoodSaid := over
end Go.Proofs.Ytcbkknpmeknppaa.fnExactPlanFood
namespace Go.Proofs.Ytcbkknpmeknppaa
/-- The row, under a short name, for the claim. -/
theorem fnExactPlanFood_holds : Rows.FnExactPlanFoodSaid := fnExactPlanFood.proved
end Go.Proofs.Ytcbkknpmeknppaa
