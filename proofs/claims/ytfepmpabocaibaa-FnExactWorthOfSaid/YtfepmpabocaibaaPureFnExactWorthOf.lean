/- FnExactWorthOf: the pure statement of the law, over the printed functions. No condition beyond the statement's own. -/
import Derived.Test.YtfepmpabocaibaaPFnExactWorthOfx3
import Derived.Test.YtfepmpabocaibaaLib
import Derived.Test.YtfepmpabocaibaaOpens
namespace Go.Proofs.Ytfepmpabocaibaa.Pure
open Go.RowKit Go.Proofs.Ytfepmpabocaibaa.PFnExactWorthOf Go.Proofs.YtfepmpabocaibaaW.PrintWords Go.Proofs.YtfepmpabocaibaaW.PrintLast Go.Proofs.Ytfepmpabocaibaa.Lib Go.Proofs.Ytfepmpabocaibaa.Opens
set_option linter.unusedVariables false
set_option linter.unusedSimpArgs false
namespace FnExactWorthOfPf
theorem szSampleS_eq (l : List S94) (a : Int) (hl : l.length ≤ maxLen) (h0 : 0 ≤ a) (h1 : a ≤ 1048576) : laws_szSampleS.f l a = some (if a - (l.length : Int) < 0 then -1 else a - (l.length : Int)) := by
  have h : wrap64 (a - (l.length : Int)) = a - (l.length : Int) := wrap_id (by unfold maxLen at hl; omega) (by omega)
  simp only [laws_szSampleS.f, h]
  split <;> rfl
theorem toIntS_ev (l : List Int) (hl : l.length ≤ 1048576) : Ev (fun k => laws_toIntS.f k l) l := by
  have h := map_loop (fun k out i => laws_toIntS.l0 k l out i) l id 0 (by omega)
    (fun k out => by simp only [laws_toIntS.l0]; rw [if_neg (by omega)])
    (fun k out i x hx ho hw => by
      have hi := lt_of_get hx
      have hr : rd l (i : Int) = x := getD_of 0 hx
      simp only [laws_toIntS.l0, hr, hw]
      rw [if_pos (by omega), if_pos (by omega), if_pos (by omega), Int.toNat_natCast]; rfl)
  rw [List.map_id] at h
  refine Ev.congr (fun k => ?_) h
  simp only [laws_toIntS.f, Int.toNat_natCast]
  rw [if_pos (by omega), if_pos (by omega)]
def cvSample (x : S94) : S92 := ⟨x.f0, x.f1, x.f2⟩
theorem toSampleS_ev (l : List S94) (hl : l.length ≤ 1048576) : Ev (fun k => laws_toSampleS.f k l) (l.map cvSample) := by
  have h := map_loop (fun k out i => laws_toSampleS.l0 k l out i) l cvSample z92 (by omega)
    (fun k out => by simp only [laws_toSampleS.l0]; rw [if_neg (by omega)])
    (fun k out i x hx ho hw => by
      have hi := lt_of_get hx
      have hr : rd_T94 l (i : Int) = x := getD_of z94 hx
      simp only [laws_toSampleS.l0, laws_toSample.f, Option.bind_some, hr, hw]
      rw [if_pos (by omega), if_pos (by omega), if_pos (by omega), Int.toNat_natCast]; rfl)
  refine Ev.congr (fun k => ?_) h
  simp only [laws_toSampleS.f, Int.toNat_natCast]
  rw [if_pos (by omega), if_pos (by omega)]
theorem eqIntS_ev (l : List Int) (hl : l.length ≤ 4611686018427387904) : Ev (fun k => laws_eqIntS.f k l l) true := by
  have h := count_loop (fun k i => laws_eqIntS.l0 k l l i) l.length true hl
    (fun k => by simp only [laws_eqIntS.l0]; rw [if_neg (by omega)])
    (fun k i hi hw => by simp only [laws_eqIntS.l0, hw]; rw [if_pos (by omega), if_pos (by omega), if_pos (by omega)]; simp)
  refine Ev.congr (fun k => ?_) h
  simp only [laws_eqIntS.f, if_true]
theorem eqSample_self (a0 : Int) (a1 : Int) (a2 : Int) : laws_eqSample.f a0 a1 a2 a0 a1 a2 = some true := by
  simp [laws_eqSample.f]
theorem eqSampleS_ev (l : List S92) (hl : l.length ≤ 4611686018427387904) : Ev (fun k => laws_eqSampleS.f k l l) true := by
  have h := count_loop (fun k i => laws_eqSampleS.l0 k l l i) l.length true hl
    (fun k => by simp only [laws_eqSampleS.l0]; rw [if_neg (by omega)])
    (fun k i hi hw => by simp only [laws_eqSampleS.l0, hw]; rw [if_pos (by omega), if_pos (by omega), if_pos (by omega)]; simp only [eqSample_self, Option.bind_some, if_true])
  refine Ev.congr (fun k => ?_) h
  simp only [laws_eqSampleS.f, if_true]
theorem specHas_at (l : List Int) (n : Int) (hl : l.length ≤ 4611686018427387904) : ∀ k, l.length < k → spec_l14Has.f k l n = some (decide (n ∈ l)) := by
  rw [← run_has n l 0]
  exact at_loop0 (fun k _ i => spec_l14Has.l0 k l n i) l (stepHas n) (fun _ => false) hl ()
    (fun k s => by simp only [spec_l14Has.l0]; rw [if_neg (by omega)])
    (fun k s i x hx hw => by
      have hi := lt_of_get hx
      have hr : rd l (i : Int) = x := getD_of 0 hx
      simp only [spec_l14Has.l0, hr, hw]; rw [if_pos (by omega), if_pos (by omega)]
      simp only [stepHas]; split <;> rfl)
theorem implPlace_at (l : List Int) (n : Int) (hl : l.length ≤ 4611686018427387904) : ∀ k, l.length < k → impl_placeOf.f k l n = some (place n l) :=
  at_loop0 (fun k _ i => impl_placeOf.l0 k n l (l.length : Int) i) l (stepPlace n) (fun _ => -1) hl ()
    (fun k s => by simp only [impl_placeOf.l0]; rw [if_neg (by omega)])
    (fun k s i x hx hw => by
      have hi := lt_of_get hx
      have hr : rd l (i : Int) = x := getD_of 0 hx
      simp only [impl_placeOf.l0, hr, hw]; rw [if_pos (by omega), if_pos (by omega), if_pos (by omega)]
      simp only [stepPlace]; split <;> rfl)
theorem implHas_at (l : List Int) (n : Int) (hl : l.length ≤ 4611686018427387904) : ∀ k, l.length < k → impl_has.f k l n = some (decide (n ∈ l)) := fun k hk => by
  simp only [impl_has.f, implPlace_at l n hl k hk, Option.bind_some, place_has]
def stepWorth (ids : List Int) : Nat → Int → S92 → Int ⊕ Int := fun _ s x => .inr (if x.f0 ∈ ids then wrap64 (s + x.f2) else s)
theorem specWorth_at (l : List S92) (ids : List Int) (hl : l.length ≤ 4611686018427387904) (hi : ids.length ≤ 4611686018427387904) : ∀ k, l.length + (ids.length + 1) < k → spec_WorthOf.f k l ids = some (run (stepWorth ids) id 0 0 l) :=
  at_loop (fun k s i => spec_WorthOf.l0 k l ids s i) l (stepWorth ids) id hl 0 (ids.length + 1)
    (fun k s _ => by simp only [spec_WorthOf.l0]; rw [if_neg (by omega)]; rfl)
    (fun k s i x hk hx hw => by
      have hi' := lt_of_get hx
      have hr : rd_T92 l (i : Int) = x := getD_of z92 hx
      simp only [spec_WorthOf.l0, hr, hw]; rw [if_pos (by omega), if_pos (by omega)]
      simp only [specHas_at ids x.f0 hi k (by omega), Option.bind_some, decide_eq_true_eq, stepWorth, Sum.elim_inr]
      split <;> rfl)
theorem implWorth_at (l : List S92) (ids : List Int) (hl : l.length ≤ 4611686018427387904) (hi : ids.length ≤ 4611686018427387904) : ∀ k, l.length + (ids.length + 1) < k → impl_WorthOf.f k l ids = some (run (stepWorth ids) id 0 0 l) :=
  at_loop (fun k s i => impl_WorthOf.l0 k ids s l (l.length : Int) i) l (stepWorth ids) id hl 0 (ids.length + 1)
    (fun k s _ => by simp only [impl_WorthOf.l0]; rw [if_neg (by omega)]; rfl)
    (fun k s i x hk hx hw => by
      have hi' := lt_of_get hx
      have hr : rd_T92 l (i : Int) = x := getD_of z92 hx
      simp only [impl_WorthOf.l0, hr, hw]; rw [if_pos (by omega), if_pos (by omega), if_pos (by omega)]
      simp only [implHas_at ids x.f0 hi k (by omega), Option.bind_some, decide_eq_true_eq, stepWorth, Sum.elim_inr]
      split <;> rfl)
end FnExactWorthOfPf
open FnExactWorthOfPf
theorem FnExactWorthOf : ∀ (l0 : List S94) (l1 : List Int), l0.length ≤ maxLen → (∀ y ∈ l0, (I64 y.f0 ∧ I64 y.f1 ∧ I64 y.f2)) → l1.length ≤ maxLen → (∀ y ∈ l1, I64 y) → ∃ k, laws_FnExactWorthOf.f k l0 l1 = some true := by
  intro l0 l1 hl _ hl1 _
  apply Ev.rounds (g := fun k => laws_FnExactWorthOf.f k l0 l1)
  unfold laws_FnExactWorthOf.f
  by_cases h1 : (l1.length : Int) > 1048576
  · simp only [if_pos h1]; exact Ev.now _
  · simp only [if_neg h1]
    simp only [szSampleS_eq l0 1048576 hl (by omega) (by omega), Option.bind_some]
    by_cases h : (1048576 : Int) - (l0.length : Int) < 0
    · simp only [if_pos h]; exact Ev.now _
    · simp only [if_neg h]
      have hlen : (l0.map cvSample).length = l0.length := List.length_map ..
      refine Ev.bind (toSampleS_ev l0 (by omega)) ?_
      refine Ev.bind (toIntS_ev l1 (by omega)) ?_
      refine Ev.bind (ev_at (specWorth_at _ _ (by omega) (by omega))) ?_
      refine Ev.bind (toSampleS_ev l0 (by omega)) ?_
      refine Ev.bind (toIntS_ev l1 (by omega)) ?_
      refine Ev.bind (ev_at (implWorth_at _ _ (by omega) (by omega))) ?_
      simp only [if_true]
      refine Ev.bind (toSampleS_ev l0 (by omega)) ?_
      refine Ev.bind (eqSampleS_ev _ (by omega)) ?_
      simp only [if_true]
      refine Ev.bind (toIntS_ev l1 (by omega)) ?_
      refine Ev.bind (eqIntS_ev _ (by omega)) ?_
      exact Ev.now _
end Go.Proofs.Ytfepmpabocaibaa.Pure
