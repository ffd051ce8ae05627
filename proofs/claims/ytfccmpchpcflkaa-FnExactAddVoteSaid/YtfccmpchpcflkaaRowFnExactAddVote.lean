/- FnExactAddVote, for every input: the statement as it is given, over the contract of the law and the pure theorem Pure.FnExactAddVote. No condition. -/
import Derived.Test.YtfccmpchpcflkaaRows
import Derived.Test.YtfccmpchpcflkaaSFnExactAddVotex8
import Derived.Test.YtfccmpchpcflkaaPureFnExactAddVote
import Derived.Test.YtfccmpchpcflkaaOpens
import Derived.WalkKit
import Derived.ProofKit
import Derived.OpenShut
import Derived.ShutString
import Derived.ChangeOld
import Derived.Below
import Derived.SizedLaws
namespace Go.Proofs.Ytfccmpchpcflkaa.fnExactAddVote
open Go.ChangeShapes Go.WideShapes Go.ChangeAt Go.RowKit Go.Proofs.YtfccmpchpcflkaaW.PrintWords Go.Proofs.Ytfccmpchpcflkaa.PFnExactAddVote
set_option linter.unusedVariables false
theorem own : ownKnob Try.prog.godebug = none := by kernel_rfl
theorem laidOut : laidOutB Try.prog = true := by kernel_rfl
theorem opens70 : Opens.Opens Try.prog 70 k70 (fun y => Opens.I64 y.f0 ∧ Opens.I64 y.f1 ∧ Opens.I64 y.f2 ∧ True) :=
  Opens.opens_iso (Opens.opens_struct Try.underlying70 (by kernel_rfl) (Opens.opensF_cons (Opens.opens_int Try.underlying3) rfl (by kernel_rfl) (Opens.opensF_cons (Opens.opens_int Try.underlying3) rfl (by kernel_rfl) (Opens.opensF_cons (Opens.opens_int Try.underlying3) rfl (by kernel_rfl) (Opens.opensF_one (Opens.opens_bool Try.underlying4) rfl (by kernel_rfl)))))) _ (fun p => ⟨p.1, p.2.1, p.2.2.1, p.2.2.2⟩) (fun _ => rfl)
theorem opens56 : Opens.Opens Try.prog 56 k56 (fun y => Opens.I64 y.f0 ∧ Opens.I64 y.f1) :=
  Opens.opens_iso (Opens.opens_struct Try.underlying56 (by kernel_rfl) (Opens.opensF_cons (Opens.opens_int Try.underlying3) rfl (by kernel_rfl) (Opens.opensF_one (Opens.opens_int Try.underlying3) rfl (by kernel_rfl)))) _ (fun p => ⟨p.1, p.2⟩) (fun _ => rfl)
set_option maxRecDepth 100000 in
theorem lifted (os : Os) (started : os.Started) (H : Type) (enc : TypeId × Value → H) :
    ReturnsInHanded {} Try.checked os 12 .any (Rows.fnExactAddVoteSpec.pre6 enc Try.prog Try.f12 Rows.fnExactAddVoteRow.domain false) (Rows.fnExactAddVoteSpec.post enc Try.prog Try.f12 false true false false) := by
  refine returnsInHanded_of_change_sized (C := Try.checked) own started (by kernel_rfl) Try.func12
    (ChangeSpec.witness6 (enc := enc) (C := Try.checked) false ⟨#[], #[.slice none 0 0, .slice none 0 0, .agg #[.int .i64 0, .int .i64 0]], []⟩ 8 (by kernel_rfl) (by kernel_rfl) (by kernel_rfl) (by kernel_rfl)) ?_
  intro W base args ds gs before hval0 hW hcnd hsz0 _
  clear hsz0
  have hval : ∀ (j : Nat) t v, Try.f12.params[j]? = some t → args[j]? = some v → Value.okWide Try.prog W .any base t v := hval0
  have hW' := hW
  obtain ⟨p, q, hA0, hV, rfl, hfz, hnd⟩ := hW
  have hA : DataW.TrodAll enc Try.prog W 0 (fun _ => true) true Try.f12.params.toList args.toList ds p := hA0
  rw [Try.params12] at hA hval
  obtain ⟨v0, vs0, d0, ds0, p0, q0, hargs, rfl, rfl, h0, r0⟩ := trodAll_cons hA
  obtain ⟨v1, vs1, d1, ds1, p1, q1, rfl, rfl, rfl, h1, r1⟩ := trodAll_cons r0
  obtain ⟨v2, vs2, d2, ds2, p2, q2, rfl, rfl, rfl, h2, r2⟩ := trodAll_cons r1
  obtain ⟨rfl, rfl, rfl⟩ := trodAll_nil r2
  obtain rfl : args = #[v0, v1, v2] := by cases args; simp_all
  obtain ⟨rfl, rfl⟩ := trodVars_none hV
  have k0 := h0
  have lt0 : ∀ x ∈ p0, x.block < W.heap.size := by obtain ⟨m, hm⟩ := k0; exact DataW.trod_lt m _ _ _ hm
  obtain ⟨A0, c0, l0, rfl, hc0, hm0, hg0, hr0⟩ : ∃ (A : Option Addr) (c : Nat) (l : List S70), v0 = .slice A l.length c ∧ l.length ≤ c ∧ l.length ≤ maxLen ∧ (∀ y ∈ l, (fun y => Opens.I64 y.f0 ∧ Opens.I64 y.f1 ∧ Opens.I64 y.f2 ∧ True) y) ∧ Kd.C k70 W A l.length l := by
    obtain ⟨a, len, cap, rfl⟩ := okWide_slice Try.underlying22 (hval 0 22 v0 rfl rfl)
    obtain ⟨m, hm⟩ := k0
    obtain ⟨A, c, l, he, h1, h2, h3, h4⟩ := Opens.slice_form Try.underlying22 (by kernel_rfl) opens70 hm
    simp only [Value.cells, List.cons.injEq, Value.slice.injEq, and_true] at he
    obtain ⟨rfl, rfl, rfl⟩ := he
    exact ⟨_, _, l, rfl, h1, h2, h3, h4⟩
  have k1 := h1
  have lt1 : ∀ x ∈ p1, x.block < W.heap.size := by obtain ⟨m, hm⟩ := k1; exact DataW.trod_lt m _ _ _ hm
  obtain ⟨A1, c1, l1, rfl, hc1, hm1, hg1, hr1⟩ : ∃ (A : Option Addr) (c : Nat) (l : List S56), v1 = .slice A l.length c ∧ l.length ≤ c ∧ l.length ≤ maxLen ∧ (∀ y ∈ l, (fun y => Opens.I64 y.f0 ∧ Opens.I64 y.f1) y) ∧ Kd.C k56 W A l.length l := by
    obtain ⟨a, len, cap, rfl⟩ := okWide_slice Try.underlying45 (hval 1 45 v1 rfl rfl)
    obtain ⟨m, hm⟩ := k1
    obtain ⟨A, c, l, he, h1, h2, h3, h4⟩ := Opens.slice_form Try.underlying45 (by kernel_rfl) opens56 hm
    simp only [Value.cells, List.cons.injEq, Value.slice.injEq, and_true] at he
    obtain ⟨rfl, rfl, rfl⟩ := he
    exact ⟨_, _, l, rfl, h1, h2, h3, h4⟩
  have k2 := h2
  have lt2 : ∀ x ∈ p2, x.block < W.heap.size := by obtain ⟨m, hm⟩ := k2; exact DataW.trod_lt m _ _ _ hm
  obtain ⟨cs2, rfl, hz2⟩ := okWide_struct Try.underlying56 (hval 2 56 v2 rfl rfl)
  have hz2_ : cs2.toList.length = 2 := by rw [Array.length_toList, hz2]; kernel_rfl
  obtain ⟨b2_0, b2_1, hl2⟩ := Opens.list2 hz2_
  obtain rfl : cs2 = #[b2_0, b2_1] := by rw [← Array.toList_inj, hl2]
  clear hl2 hz2 hz2_
  obtain ⟨m2_0, x2_0, hx2_0⟩ : ∃ m x, DataW.trod enc Try.prog W 0 (fun _ => true) true m 3 [b2_0] = some x := by
    obtain ⟨m, hm⟩ := k2
    exact Opens.field_open Try.underlying56 hm 0 _ rfl 1 (by kernel_rfl)
  obtain ⟨a2_0, rfl, g2_0⟩ : ∃ n, b2_0 = .int .i64 n ∧ Opens.I64 n := by
    obtain ⟨n, he, _, hw⟩ := DataW.trod_int Try.underlying3 hx2_0
    simp only [List.cons.injEq, and_true] at he
    exact ⟨n, he, Opens.i64_of_wf hw⟩
  clear hx2_0
  obtain ⟨m2_1, x2_1, hx2_1⟩ : ∃ m x, DataW.trod enc Try.prog W 0 (fun _ => true) true m 3 [b2_1] = some x := by
    obtain ⟨m, hm⟩ := k2
    exact Opens.field_open Try.underlying56 hm 1 _ rfl 1 (by kernel_rfl)
  obtain ⟨a2_1, rfl, g2_1⟩ : ∃ n, b2_1 = .int .i64 n ∧ Opens.I64 n := by
    obtain ⟨n, he, _, hw⟩ := DataW.trod_int Try.underlying3 hx2_1
    simp only [List.cons.injEq, and_true] at he
    exact ⟨n, he, Opens.i64_of_wf hw⟩
  clear hx2_1
  clear hA0 hval0 hval
  obtain ⟨k, hk⟩ := Pure.FnExactAddVote l0 l1 a2_0 a2_1 hm0 hg0 hm1 hg1 g2_0 g2_1
  refine (PFnExactAddVote.laws_FnExactAddVote.calls k A0 c0 l0 A1 c1 l1 a2_0 a2_1 true W hr0 hc0 hr1 hc1 hk).mono fun e W' ⟨he, bel⟩ => ?_
  subst he
  exact ⟨_, rfl, _, _, _, [], _, [], hW', trodAll_mk1 (shut_bool Try.underlying4 _), (trodAll_cons_mk (Below.trod laidOut (by kernel_rfl) (of_decide_eq_true (by kernel_rfl)) k0 bel lt0) (trodAll_cons_mk (Below.trod laidOut (by kernel_rfl) (of_decide_eq_true (by kernel_rfl)) k1 bel lt1) (trodAll_cons_mk (Below.trod laidOut (by kernel_rfl) (of_decide_eq_true (by kernel_rfl)) k2 bel lt2) trodAll_mk0))), rfl, bel.frame _, fun h => by cases h⟩
theorem over : Rows.fnExactAddVoteRow.holds Try.pinned (OpenSpec.ofChange Rows.fnExactAddVoteSpec) :=
  OpenClaim.holds_of_wide 12 Try.f12 rfl rfl rfl rfl rfl rfl rfl ⟨rfl, rfl, rfl, rfl, rfl⟩ rfl rfl rfl rfl rfl (by kernel_rfl) Try.func12 (by kernel_rfl)
    (of_decide_eq_true (by kernel_rfl)) (by unfold Func.isWrapper; first | (rw [if_pos (by decide +kernel)]; kernel_rfl) | (rw [if_neg (by decide +kernel)]; exact ⟨rfl, rfl⟩))
    (fun os started H enc _ => lifted os started H enc)
theorem proved : Rows.FnExactAddVoteSaid := over
end Go.Proofs.Ytfccmpchpcflkaa.fnExactAddVote
namespace Go.Proofs.Ytfccmpchpcflkaa
/-- The row, under a short name, for the claim. -/
theorem fnExactAddVote_holds : Rows.FnExactAddVoteSaid := fnExactAddVote.proved
end Go.Proofs.Ytfccmpchpcflkaa
