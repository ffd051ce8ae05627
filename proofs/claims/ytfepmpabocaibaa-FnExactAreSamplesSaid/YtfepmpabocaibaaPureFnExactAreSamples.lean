/- FnExactAreSamples: the pure statement of the law, over the printed functions. No condition beyond the statement's own. -/
import Derived.Test.YtfepmpabocaibaaPFnExactAreSamplesx5
import Derived.Test.YtfepmpabocaibaaLib
import Derived.Test.YtfepmpabocaibaaOpens
namespace Go.Proofs.Ytfepmpabocaibaa.Pure
open Go.RowKit Go.Proofs.Ytfepmpabocaibaa.PFnExactAreSamples Go.Proofs.YtfepmpabocaibaaW.PrintWords Go.Proofs.YtfepmpabocaibaaW.PrintLast Go.Proofs.Ytfepmpabocaibaa.Lib Go.Proofs.Ytfepmpabocaibaa.Opens
set_option linter.unusedVariables false
set_option linter.unusedSimpArgs false
namespace FnExactAreSamplesPf
theorem szSampleS_eq (l : List S94) (a : Int) (hl : l.length ≤ maxLen) (h0 : 0 ≤ a) (h1 : a ≤ 1048576) : laws_szSampleS.f l a = some (if a - (l.length : Int) < 0 then -1 else a - (l.length : Int)) := by
  have h : wrap64 (a - (l.length : Int)) = a - (l.length : Int) := wrap_id (by unfold maxLen at hl; omega) (by omega)
  simp only [laws_szSampleS.f, h]
  split <;> rfl
def cvSample (x : S94) : S92 := ⟨x.f0, x.f1, x.f2⟩
theorem toSampleS_ev (l : List S94) (hl : l.length ≤ 1048576) : Ev (fun k => laws_toSampleS.f k l) (l.map cvSample) := by
  have h := map_loop (fun k out i => laws_toSampleS.l0 k l out i) l cvSample z92 (by omega)
    (fun k out => by simp only [laws_toSampleS.l0]; rw [if_neg (by omega)])
    (fun k out i x hx ho hw => by
      have hi := lt_of_get hx
      have hr : rd_T94 l (i : Int) = x := getD_of z94 hx
      simp only [laws_toSampleS.l0, laws_toSample.f, Option.bind_some, hr, hw]
      rw [if_pos (by omega), if_pos (by omega), if_pos (by omega), Int.toNat_natCast]; rfl)
  refine Ev.congr (fun k => ?_) h
  simp only [laws_toSampleS.f, Int.toNat_natCast]
  rw [if_pos (by omega), if_pos (by omega)]
theorem eqSample_self (a0 : Int) (a1 : Int) (a2 : Int) : laws_eqSample.f a0 a1 a2 a0 a1 a2 = some true := by
  simp [laws_eqSample.f]
theorem eqSampleS_ev (l : List S92) (hl : l.length ≤ 4611686018427387904) : Ev (fun k => laws_eqSampleS.f k l l) true := by
  have h := count_loop (fun k i => laws_eqSampleS.l0 k l l i) l.length true hl
    (fun k => by simp only [laws_eqSampleS.l0]; rw [if_neg (by omega)])
    (fun k i hi hw => by simp only [laws_eqSampleS.l0, hw]; rw [if_pos (by omega), if_pos (by omega), if_pos (by omega)]; simp only [eqSample_self, Option.bind_some, if_true])
  refine Ev.congr (fun k => ?_) h
  simp only [laws_eqSampleS.f, if_true]
theorem l1In_eq (a b c : Int) : spec_l1In.f a b c = some (decide (b ≤ a ∧ a ≤ c)) := by
  unfold spec_l1In.f
  by_cases h : a ≥ b
  · rw [if_pos h]; simp [h]
  · rw [if_neg h]; simp [show ¬ (b ≤ a) from by omega]
theorem InRange_eq (a b c : Int) : impl_InRange.f a b c = some (decide (b ≤ a ∧ a ≤ c)) := by
  unfold impl_InRange.f
  by_cases h : b ≤ a
  · rw [if_pos h]; simp [h]
  · rw [if_neg h]; simp [h]
def okSample (l : List S92) (i : Nat) (x : S92) : Prop := (1 ≤ x.f0 ∧ x.f0 ≤ 99) ∧ (1 ≤ x.f1 ∧ x.f1 ≤ 50) ∧ (0 ≤ x.f2 ∧ x.f2 ≤ 1000) ∧ (i = 0 ∨ (l.getD (i - 1) z92).f0 < x.f0)
instance (l : List S92) (i : Nat) (x : S92) : Decidable (okSample l i x) := by unfold okSample; infer_instance
def stepAS (l : List S92) : Nat → Unit → S92 → Bool ⊕ Unit := fun i _ x => if okSample l i x then .inr () else .inl false
def mAreSamples (l : List S92) : Bool := run (stepAS l) (fun _ => decide ((l.length : Int) ≤ 12)) 0 () l
theorem specAS_at (l : List S92) (hl : l.length ≤ 4611686018427387904) : ∀ k, l.length < k → spec_AreSamples.f k l = some (mAreSamples l) :=
  at_loop0 (fun k _ i => spec_AreSamples.l0 k l i) l (stepAS l) _ hl ()
    (fun k s => by simp only [spec_AreSamples.l0]; rw [if_neg (by omega)])
    (fun k s i x hx hw => by
      have hi := lt_of_get hx
      have hr : rd_T92 l (i : Int) = x := getD_of z92 hx
      simp only [spec_AreSamples.l0, hr, hw, l1In_eq, Option.bind_some, decide_eq_true_eq]; rw [if_pos (by omega), if_pos (by omega)]
      simp only [stepAS]
      by_cases c1 : 1 ≤ x.f0 ∧ x.f0 ≤ 99
      · by_cases c2 : 1 ≤ x.f1 ∧ x.f1 ≤ 50
        · by_cases c3 : 0 ≤ x.f2 ∧ x.f2 ≤ 1000
          · rw [if_pos c1, if_pos c2, if_pos c3]
            rcases Nat.eq_zero_or_pos i with h0 | h0
            · subst h0
              rw [if_neg (by omega), if_pos (show okSample l _ x from ⟨c1, c2, c3, .inl rfl⟩)]; rfl
            · have hr' : rd_T92 l ((i - 1 : Nat) : Int) = l.getD (i - 1) z92 := getD_nat ..
              rw [if_pos (by omega), wrapd i h0 (by omega), if_pos (by omega), if_pos (by omega), hr']
              by_cases c4 : (l.getD (i - 1) z92).f0 < x.f0
              · rw [if_neg (by omega), if_pos (show okSample l _ x from ⟨c1, c2, c3, .inr c4⟩)]; rfl
              · rw [if_pos (by omega), if_neg (show ¬ okSample l _ x from fun h => h.2.2.2.elim (by omega) c4)]; rfl
          · rw [if_pos c1, if_pos c2, if_neg c3, if_neg (show ¬ okSample l _ x from fun h => c3 h.2.2.1)]; rfl
        · rw [if_pos c1, if_neg c2, if_neg (show ¬ okSample l _ x from fun h => c2 h.2.1)]; rfl
      · rw [if_neg c1, if_neg (show ¬ okSample l _ x from fun h => c1 h.1)]; rfl)
theorem implAS_at (l : List S92) (hl : l.length ≤ 4611686018427387904) : ∀ k, l.length < k → impl_AreSamples.f k l = some (mAreSamples l) :=
  at_loop0 (fun k _ i => impl_AreSamples.l0 k l l (l.length : Int) i) l (stepAS l) _ hl ()
    (fun k s => by simp only [impl_AreSamples.l0]; rw [if_neg (by omega)])
    (fun k s i x hx hw => by
      have hi := lt_of_get hx
      have hr : rd_T92 l (i : Int) = x := getD_of z92 hx
      simp only [impl_AreSamples.l0, hr, hw, InRange_eq, Option.bind_some, decide_eq_true_eq]; rw [if_pos (by omega), if_pos (by omega), if_pos (by omega)]
      simp only [stepAS]
      by_cases c1 : 1 ≤ x.f0 ∧ x.f0 ≤ 99
      · rw [if_pos c1]
        rcases Nat.eq_zero_or_pos i with h0 | h0
        · subst h0
          rw [if_neg (by omega)]
          by_cases c2 : 1 ≤ x.f1 ∧ x.f1 ≤ 50
          · rw [if_pos c2]
            by_cases c3 : 0 ≤ x.f2 ∧ x.f2 ≤ 1000
            · rw [if_pos c3, if_pos (show okSample l _ x from ⟨c1, c2, c3, .inl rfl⟩)]; rfl
            · rw [if_neg c3, if_neg (show ¬ okSample l _ x from fun h => c3 h.2.2.1)]; rfl
          · rw [if_neg c2, if_neg (show ¬ okSample l _ x from fun h => c2 h.2.1)]; rfl
        · have hr' : rd_T92 l ((i - 1 : Nat) : Int) = l.getD (i - 1) z92 := getD_nat ..
          rw [if_pos (by omega), wrapd i h0 (by omega), if_pos (by omega), if_pos (by omega), hr']
          by_cases c4 : (l.getD (i - 1) z92).f0 < x.f0
          · rw [if_neg (by omega)]
            by_cases c2 : 1 ≤ x.f1 ∧ x.f1 ≤ 50
            · rw [if_pos c2]
              by_cases c3 : 0 ≤ x.f2 ∧ x.f2 ≤ 1000
              · rw [if_pos c3, if_pos (show okSample l _ x from ⟨c1, c2, c3, .inr c4⟩)]; rfl
              · rw [if_neg c3, if_neg (show ¬ okSample l _ x from fun h => c3 h.2.2.1)]; rfl
            · rw [if_neg c2, if_neg (show ¬ okSample l _ x from fun h => c2 h.2.1)]; rfl
          · rw [if_pos (by omega), if_neg (show ¬ okSample l _ x from fun h => h.2.2.2.elim (by omega) c4)]; rfl
      · rw [if_neg c1, if_neg (show ¬ okSample l _ x from fun h => c1 h.1)]; rfl)
end FnExactAreSamplesPf
open FnExactAreSamplesPf
theorem FnExactAreSamples : ∀ (l0 : List S94), l0.length ≤ maxLen → (∀ y ∈ l0, (I64 y.f0 ∧ I64 y.f1 ∧ I64 y.f2)) → ∃ k, laws_FnExactAreSamples.f k l0 = some true := by
  intro l0 hl _
  apply Ev.rounds (g := fun k => laws_FnExactAreSamples.f k l0)
  unfold laws_FnExactAreSamples.f
  simp only [szSampleS_eq l0 1048576 hl (by omega) (by omega), Option.bind_some]
  by_cases h : (1048576 : Int) - (l0.length : Int) < 0
  · simp only [if_pos h]; exact Ev.now _
  · simp only [if_neg h]
    have hlen : (l0.map cvSample).length = l0.length := List.length_map ..
    refine Ev.bind (toSampleS_ev l0 (by omega)) ?_
    refine Ev.bind (ev_at (specAS_at _ (by omega))) ?_
    refine Ev.bind (toSampleS_ev l0 (by omega)) ?_
    refine Ev.bind (ev_at (implAS_at _ (by omega))) ?_
    simp only [bne_self_eq_false, Bool.false_eq_true, if_false]
    refine Ev.bind (toSampleS_ev l0 (by omega)) ?_
    refine Ev.bind (eqSampleS_ev _ (by omega)) ?_
    exact Ev.now _
end Go.Proofs.Ytfepmpabocaibaa.Pure
